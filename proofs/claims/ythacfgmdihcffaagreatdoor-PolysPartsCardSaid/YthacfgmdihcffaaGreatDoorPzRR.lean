/-
  The law PolysParts: whatever it is handed, it returns true, and what it was handed reads behind the call as it read before; the card ties the listed tables to the program's text.
-/
import Derived.Test.YthacfgmdihcffaaGreatDoorPzRQ
import Derived.Test.YthacfgmdihcffaaGreatDoorCards
import Derived.Test.YthacfgmdihcffaaGreatDoorTie
import Derived.WalkKit
import Derived.ProofKit
import Derived.OpenShut
import Derived.Deep.DeepHandedRow
import Derived.Lib.LaidTab
set_option linter.unusedSimpArgs false
set_option linter.unusedVariables false
set_option maxHeartbeats 16000000
set_option maxRecDepth 100000
namespace Go.Proofs.YthacfgmdihcffaaGreatDoor
namespace Book
open Go.RowKit Go.Sort Go.FreshG Limb Pol
abbrev PT:=PV × List TV
def cntQ:List PT->Nat
 | []=>0
 | e :: r=>2*e.1.n+1+cntQ r
def cntL:List PT->Nat
 | []=>0
 | e :: r=>2*e.1.n+cntL r
def allL:List PT->Nat->List HL
 | [],_=>[]
 | e :: r,q=>termsL e.2 q++allL r (q+(2*e.1.n+1))
def allM:List PT->Nat->List HL
 | [],_=>[]
 | e :: r,q=>⟨e.1.a,e.1.n,e.1.c,q+2*e.1.n⟩ :: allM r (q+(2*e.1.n+1))
theorem cntQ_snoc:∀ (l:List PT) (e:PT),cntQ (l++[e])=cntQ l+(2*e.1.n+1)
 | [],e=>by show 2*e.1.n+1+0=0+_;omega
 | a :: r,e=>by show 2*a.1.n+1+cntQ (r++[e])=2*a.1.n+1+cntQ r+_;rw[cntQ_snoc r e];omega
theorem cntQ_mem:∀ {l:List PT} {j:Nat} {e:PT},l[j]?=some e->cntQ (l.take j)+(2*e.1.n+1)<=cntQ l
 | [],j,e,h=>by simp at h
 | a :: r,0,e,h=>by
  obtain rfl:a=e:=by simpa using h
  show 0+(2*a.1.n+1)<=2*a.1.n+1+cntQ r
  omega
 | a :: r,j+1,e,h=>by
  have:=cntQ_mem (l:=r) (j:=j) (e:=e) (by simpa using h);show 2*a.1.n+1+cntQ (r.take j)+_<=2*a.1.n+1+cntQ r;omega
theorem cnt_eq:∀ l:List PT,cntQ l=cntL l+l.length
 | []=>rfl
 | a :: r=>by show 2*a.1.n+1+cntQ r=2*a.1.n+cntL r+(r.length+1);rw[cnt_eq r];omega
theorem allL_snoc:∀ (l:List PT) (e:PT) (q:Nat),allL (l++[e]) q=allL l q++termsL e.2 (q+cntQ l)
 | [],e,q=>by show termsL e.2 q++[]=[]++termsL e.2 (q+0);rw[List.append_nil];rfl
 | a :: r,e,q=>by
  show termsL a.2 q++allL (r++[e]) (q+(2*a.1.n+1))=termsL a.2 q++allL r (q+(2*a.1.n+1))++termsL e.2 (q+(2*a.1.n+1+cntQ r));rw[allL_snoc r e,List.append_assoc,Nat.add_assoc]
theorem allM_snoc:∀ (l:List PT) (e:PT) (q:Nat),allM (l++[e]) q=allM l q++[⟨e.1.a,e.1.n,e.1.c,q+cntQ l+2*e.1.n⟩]
 | [],e,q=>by show[(⟨e.1.a,e.1.n,e.1.c,q+2*e.1.n⟩:HL)]=[⟨e.1.a,e.1.n,e.1.c,q+0+2*e.1.n⟩];rw[Nat.add_zero]
 | a :: r,e,q=>by
  show _ :: allM (r++[e]) (q+(2*a.1.n+1))=_ :: (allM r (q+(2*a.1.n+1))++[⟨e.1.a,e.1.n,e.1.c,q+(2*a.1.n+1+cntQ r)+2*e.1.n⟩]);rw[allM_snoc r e,Nat.add_assoc q (2*a.1.n+1)]
theorem allM_len:∀ (l:List PT) (q:Nat),(allM l q).length=l.length
 | [],_=>rfl
 | a :: r,q=>by show(allM r _).length+1=r.length+1;rw[allM_len r]
theorem allL_len:∀ (l:List PT) (q:Nat),(∀ e∈l,e.2.length=e.1.n)->(allL l q).length=cntL l
 | [],_,_=>rfl
 | a :: r,q,h=>by
  show(termsL a.2 q++allL r _).length=2*a.1.n+cntL r;rw[List.length_append,termsL_len,h a (List.mem_cons_self ..),allL_len r _ fun e he=>h e (List.mem_cons_of_mem _ he)]
theorem RS.keepB {base:Nat} {w w':World} {a:Option Addr} {ps:List PV} (h:RS w a ps) (hk:KeepB base w w') (hf:∀ p,a=some p->p.block<base):RS w' a ps:=by
 refine⟨fun hn=>?_⟩;obtain⟨b,off,ha,hc⟩:=h.ex hn;exact⟨b,off,ha,fun i p hi=>(World.cell?_of_block (a:=⟨b,off+i,none⟩) (hk.bel.block b (hf _ ha))).trans (hc i p hi)⟩
theorem BkS.polys {w:World} {b base q:Nat} {L M:List HL} (h:BkS w b base q L M) (a:Option Addr) (n c:Nat) (es:List PT) (hr:RS w a (es.map Prod.fst)) (hn:es.length=n) (hfar:∀ p,a=some p->p.block<base)
  (he:∀ e∈es,RT w e.1.a e.2/\e.2.length=e.1.n/\∀ p,e.1.a=some p->p.block<base) (hk:L.length+cntQ es<=29990) (hq:q+cntQ es<=59990) (hm:M.length+n<=30000) :
  Calls Tryz.prog 19 #[.pointer (some ⟨b,0,none⟩),.slice a n c] w (KeptS b base (q+cntQ es) (L++allL es q) (M++allM es q) w):=by
 have HS:=qh h;have HR:=qh hr;have HN:=qh hn;have HF:=qh hfar;have HE:=qh he;have HK:=qh hk;have HQ:=qh hq;have HM:=qh hm;clear h hr hn hfar he hk hq hm;go_enter Tryz.func19,Tryz.ntmps19;go_wp2_with fail
 go_loopw [4] (fun i wr=>∃ j:Nat,j<=n/\i=.int .i64 j/\BkS wr b base (q+cntQ (es.take j)) (L++allL (es.take j) q) (M++allM (es.take j) q)/\KeepB base w wr) (fun i _=>n-(intOf i).toNat)
 case atStart=>exact⟨0,Nat.zero_le _,rfl,by simpa[allL,allM,cntQ] using HS.o,KeepB.refl _ _⟩
 case round =>
  obtain⟨j,hj,rfl,hs,hkb⟩:=hrel;have HJ:=qh hj;have HS:=qh hs;have KB:=qh hkb;clear hj hs hkb;by_cases hjn:j<n
  ·have HJN:=qh hjn
   have hlt:(j:Int)<(n:Int):=by omega
   obtain⟨e,ht⟩:∃ e,es[j]?=some e:=⟨_,List.getElem?_eq_getElem (by rw[HN.o];exact hjn)⟩;obtain⟨g,off,ha,hcc⟩:=HR.o.ex (fun e0=>by rw[List.map_eq_nil_iff.1 e0] at ht;simp at ht);have hcell:wr.cell? ⟨g,off+j,none⟩=some e.1.v:=(World.cell?_of_block (a:=⟨g,off+j,none⟩) (KB.o.bel.block g (HF.o _ ha))).trans (hcc j e.1 (by rw[List.getElem?_map,ht];rfl));subst ha;obtain⟨hrt,hel,hef⟩:=HE.o e (List.mem_of_getElem? ht);have HT:=qh ht;have ek:IntKind.i64.wrap ((j:Int)+1)=(j:Int)+1:=IntWalk.i64_in _ (by have:=HJN.o;have:=HM.o;omega)
   have hLl:(allL (es.take j) q).length<=cntQ (es.take j):=by
    rw[allL_len _ _ fun e he=>(HE.o e (List.mem_of_mem_take he)).2.1,cnt_eq];omega
   have hMl:(allM (es.take j) q).length=j:=by rw[allM_len,List.length_take,HN.o];omega
   obtain⟨⟨ea,en,ec⟩,ets⟩:=e;have HC:=qh (show cntQ (es.take j)+(2*en+1)<=cntQ es from cntQ_mem ht)
   have CT:=qh (show Calls Tryz.prog 17 #[.pointer (some ⟨b,0,none⟩),.slice ea en ec] wr _ from HS.o.poly ⟨ea,en,ec⟩ ets (RT.keepB hrt KB.o hef) hel hef
    (by show _+2*en<=_;rw[List.length_append];have:=HC.o;have:=HK.o;omega) (by show _+2*en<=_;have:=HC.o;have:=HQ.o;omega) (by rw[List.length_append,hMl];have:=HM.o;omega))
   clear hjn ht hrt hel hef hLl hMl hcc;go_wp2_with fail
   with_reducible refine CT.o.mono ?_
   rintro e w1 ⟨⟨r,rfl⟩,hs,hk⟩
   have HS2:=qh (show BkS w1 b base (q+cntQ (es.take (j+1))) (L++allL (es.take (j+1)) q) (M++allM (es.take (j+1)) q) by
    rw[List.take_add_one,HT.o];show BkS w1 b base (q+cntQ (es.take j++[(⟨ea,en,ec⟩,ets)])) (L++allL (es.take j++[(⟨ea,en,ec⟩,ets)]) q) (M++allM (es.take j++[(⟨ea,en,ec⟩,ets)]) q);rw[cntQ_snoc,allL_snoc,allM_snoc,<- List.append_assoc,<- List.append_assoc];show BkS w1 b base (q+(cntQ (es.take j)+(2*en+1))) _ _;rw[show q+(cntQ (es.take j)+(2*en+1))=q+cntQ (es.take j)+2*en+1 by omega]
    exact hs)
   have KB:=qh (KB.o.trans hk);clear hs hk CT hcell;go_wp2_with fail
   go_roundw
   case rel=>exact⟨j+1,HJN.o,rfl,HS2.o,KB.o⟩
   case measure=>simp[intOf];have:=HJN.o;omega
  ·have hge:¬((j:Int)<(n:Int)):=by omega
   obtain rfl:j=n:=by have:=HJ.o;omega
   have HAL:=qh (show es.take j=es from List.take_of_length_le (by rw[HN.o];exact zj));clear hjn;go_wp2_with fail
   (try simp only[Exit.inBlock,Exit.then])
   refine bodyPost_end (results_none rfl _ _ _) rfl ?_;exact⟨⟨_,rfl⟩,by rw[<- HAL.o];rw[HAL.o];have h:=HS.o;rw[HAL.o] at h;exact h,KB.o⟩
structure PS (w:World) (lo:Nat) (x:PV) (ts:List TV) (S:Nat->Prop):Prop where
 rt:RT w x.a ts
 len:ts.length=x.n
 hg:∀ q,q+2*x.n<=30000->HG w lo S (termsL ts q) [⟨x.a,x.n,x.c,q+2*x.n⟩]
theorem PS.below {w w':World} {lo hi:Nat} {x:PV} {ts:List TV} {S:Nat->Prop} (h:PS w lo x ts S) (hb:Below w.heap.size w w') (hS:∀ b,S b->b<hi) (hh:hi<=w.heap.size):PS w' lo x ts S :=
 ⟨h.rt.below hb,h.len,fun q hq=>(h.hg q hq).keep fun b hb'=>hb.block b (Nat.lt_of_lt_of_le (hS b hb') hh)⟩
theorem HG.sub {w:World} {lo:Nat} {S T:Nat->Prop} {L M:List HL} (h:HG w lo S L M) (hS:∀ b,S b->T b):HG w lo T L M:=⟨h.num,h.row,fun x hx p hp=>hS _ (h.at_ x hx p hp),h.nq,h.al,h.am⟩
abbrev PTS:=PT × (Nat->Prop)
theorem all_hg {w:World} {lo:Nat}:∀ (es:List PTS) (q:Nat),(∀ e∈es,PS w lo e.1.1 e.1.2 e.2)->es.Pairwise (fun e f=>∀ b,e.2 b->¬f.2 b)->q+cntQ (es.map Prod.fst)<=30000->HG w lo (fun b=>∃ e∈es,e.2 b) (allL (es.map Prod.fst) q) (allM (es.map Prod.fst) q)
 | [],q,_,_,_=>HG.nil _ _ _
 | e :: r,q,h,hp,hq=>by
  obtain⟨h1,h2⟩:=List.pairwise_cons.1 hp;have hq:q+(2*e.1.1.n+1+cntQ (r.map Prod.fst))<=30000:=hq;have hr:=all_hg r (q+(2*e.1.1.n+1)) (fun f hf=>h f (List.mem_cons_of_mem _ hf)) h2 (by omega)
  exact((h e (List.mem_cons_self ..)).hg q (by omega)).app hr (fun b hb=>⟨e,List.mem_cons_self ..,hb⟩) (fun b ⟨f,hf,hb⟩=>⟨f,List.mem_cons_of_mem _ hf,hb⟩) fun b hb ⟨f,hf,hc⟩=>h1 f hf b hb hc
structure GQ (w:World) (a:Option Addr) (es:List PT) (q lo hi:Nat):Prop where
 rs:RS w a (es.map Prod.fst)
 far:∀ p,a=some p->p.block<hi
 rt:∀ e∈es,RT w e.1.a e.2/\e.2.length=e.1.n/\∀ p,e.1.a=some p->p.block<hi
 hg:HG w lo (Bw lo hi) (allL es q) (allM es q)
 le:hi<=w.heap.size
 lh:lo<=hi
theorem GQ.below {w w':World} {a:Option Addr} {es:List PT} {q lo hi:Nat} (h:GQ w a es q lo hi) (hb:Below w.heap.size w w'):GQ w' a es q lo hi :=
 ⟨h.rs.below hb,h.far,fun e he=>⟨(h.rt e he).1.below hb,(h.rt e he).2⟩,h.hg.keep fun b hS=>hb.block b (Nat.lt_of_lt_of_le hS.2 h.le),zm h.le hb.size,h.lh⟩
theorem GQ.keepB {base:Nat} {w w':World} {a:Option Addr} {es:List PT} {q lo hi:Nat} (h:GQ w a es q lo hi) (hk:KeepB base w w') (hh:hi<=base):GQ w' a es q lo hi :=
 ⟨RS.keepB h.rs hk fun p hp=>Nat.lt_of_lt_of_le (h.far p hp) hh,h.far,fun e he=>⟨RT.keepB (h.rt e he).1 hk fun p hp=>Nat.lt_of_lt_of_le ((h.rt e he).2.2 p hp) hh,(h.rt e he).2⟩,h.hg.keepB hk fun b hb=>Nat.lt_of_lt_of_le hb.2 hh,zm h.le hk.bel.size,h.lh⟩
theorem allM_mem:∀ {l:List PT} {q:Nat} {e:PT},e∈l->∃ k,(⟨e.1.a,e.1.n,e.1.c,k⟩:HL)∈allM l q
 | [],_,_,h=>by cases h
 | a :: r,q,e,h=>by
  rcases List.mem_cons.1 h with rfl | h
  ·exact⟨_,List.mem_cons_self ..⟩
  ·obtain⟨k,hk⟩:=allM_mem (q:=q+(2*a.1.n+1)) h;exact⟨k,List.mem_cons_of_mem _ hk⟩
theorem GQ.of {w:World} {a:Option Addr} {lo hi q:Nat} (es:List PTS) (hr:RS w a (es.map fun e=>e.1.1)) (hfar:∀ p,a=some p->p.block<hi) (h:∀ e∈es,PS w lo e.1.1 e.1.2 e.2) (hp:es.Pairwise (fun e f=>∀ b,e.2 b->¬f.2 b))
  (hS:∀ e∈es,∀ b,e.2 b->lo<=b/\b<hi) (hq:q+cntQ (es.map Prod.fst)<=30000) (hle:hi<=w.heap.size) (hlh:lo<=hi):GQ w a (es.map Prod.fst) q lo hi:=by
 have hg:=(all_hg es q h hp hq).sub (T:=Bw lo hi) fun b ⟨e,he,hb⟩=>hS e he b hb
 refine⟨by rw[List.map_map];exact hr,hfar,fun e he=>?_,hg,hle,hlh⟩;obtain⟨f,hf,rfl⟩:=List.mem_map.1 he;obtain⟨k,hk⟩:=allM_mem (q:=q) he;exact⟨(h f hf).rt,(h f hf).len,fun p hp=>(hg.at_ _ (List.mem_append_right _ hk) p hp).2⟩
theorem BG.polysP {w:World} {b base q lo hi l m:Nat} (h:BG w b base q lo hi l m) {a:Option Addr} {n c:Nat} {es:List PT} {lo' hi':Nat} (g:GQ w a es q lo' hi') (hn:es.length=n) (h2:hi<=lo') (h4:hi'<=base) (hq:q+cntQ es<=29990) :
  Calls Tryz.prog 19 #[.pointer (some ⟨b,0,none⟩),.slice a n c] w (BGs b base (q+cntQ es) lo hi' (l+cntL es) (m+es.length) w):=by
 obtain⟨L,M,rfl,rfl,hs,hg⟩:=h.ex;have hl:=h.lq;have hce:=cnt_eq es
 refine(hs.polys a n c es g.rs hn (fun p hp=>Nat.lt_of_lt_of_le (g.far p hp) h4) (fun e he=>⟨(g.rt e he).1,(g.rt e he).2.1,fun p hp=>Nat.lt_of_lt_of_le ((g.rt e he).2.2 p hp) h4⟩) (by omega) (by omega) (by omega)).mono fun e w' hk=>?_
 have hL:=allL_len es q fun e he=>(g.rt e he).2.1
 have h5:=BG.step hg g.hg hl h.h1 h2 g.lh h4 (q':=q+cntQ es) (by rw[hL,allM_len];omega) hk;rw[hL,allM_len] at h5;exact h5
end Book
namespace Pol
open Go.RowKit Go.Sort Limb
theorem take_mid8 {α:Type} {l m r:List α} {n k:Nat} (hn:n<=l.length) (hk:m.length=k):(l.take n++m++r).take (n+k)=l.take n++m:=by
 have h1:(l.take n++m).length=n+k:=by rw[List.length_append,List.length_take,hk];omega
 rw[<- h1,List.take_left]
theorem append8 {w:World} {base k:Nat} {v:Value} {xs news:List Value} (h:w.ownsRow base 37 8 v k xs) (hb:base<=w.heap.size) (hk:k<=1000000) {gs:Nat} (hl:news.length=1*8)
  (hnews:∀ j u,news[j]?=some u->w.cell? ((⟨gs,0,none⟩:Addr).add j)=some u) (h1:∀ u∈news,u.oneCell'=true) (ty c:Nat) :
  ∃ x w',(Builtin.append_ #[23,23] ty #[v,.slice (some ⟨gs,0,none⟩) 1 c]).run Tryz.prog w=.ok x w'/\w'.ownsRow base 37 8 x (k+1) (xs++news)/\w.grownBy w' v.ownBlock/\w'.ownsRow base 37 8 v k xs /\
   (∀ x2 ys,w.ownsRow base 37 8 x2 (k+1) (xs++ys)->w'.ownsRow base 37 8 x2 (k+1) (xs++ys)\/w'.ownsRow base 37 8 x2 (k+1) (xs++news))/\∀ g,x.ownBlock=some g->v.ownBlock=some g\/w.heap.size<=g:=by
 obtain⟨i0,hi,hz0,hz1,hz2⟩:=info_parts info8P;have hxl:=h.1
 have hlen:(xs++news).length=(k+1)*8:=by rw[List.length_append,hxl,hl];omega
 have none_:∀ w',w.grownBy w' none->w.grownBy w' v.ownBlock/\w'.ownsRow base 37 8 v k xs/\∀ x2 ys,w.ownsRow base 37 8 x2 (k+1) (xs++ys)->w'.ownsRow base 37 8 x2 (k+1) (xs++ys)\/w'.ownsRow base 37 8 x2 (k+1) (xs++news):=fun w' hg =>
  ⟨⟨hg.os,hg.tape,hg.output,hg.size,fun q hq _=>hg.block q hq (by simp)⟩,h.kept hg (by cases hv:v.ownBlock <;> simp),fun x2 ys h2=>Or.inl (World.ownsRow.kept h2 hg (by cases hv:x2.ownBlock <;> simp))⟩
 have fresh:∀ old,old<k+1->(w.drew.alloc (.cells (xs.toArray++news.toArray++Builtin.zeroCells (Value.agg #[.bool false,.slice none 0 0,.bool false,.slice none 0 0,.int .u16 0,.int .u16 0,.int .u16 0,.int .u16 0]).cells (grownCap w (k+1) old 37-(k+1))) 37)).ownsRow base 37 8 (.slice (some ⟨w.heap.size,0,none⟩) (k+1) (grownCap w (k+1) old 37)) (k+1) (xs++news) /\
   w.grownBy (w.drew.alloc (.cells (xs.toArray++news.toArray++Builtin.zeroCells (Value.agg #[.bool false,.slice none 0 0,.bool false,.slice none 0 0,.int .u16 0,.int .u16 0,.int .u16 0,.int .u16 0]).cells (grownCap w (k+1) old 37-(k+1))) 37)) none:=by
  intro old ho;have hge:=grownCap_ge w (k+1) old 37;have hcm:=grownCap_le_maxLen w (k+1) old 37 (by unfold maxLen;omega);refine⟨⟨hlen,.inr ⟨w.heap.size,_,_,rfl,hb,heap_alloc_new w.drew _,hge,hcm,?_,?_⟩⟩,⟨rfl,rfl,rfl,by simp,fun q hq _=>heap_alloc_old w.drew _ hq⟩⟩
  ·simp only[Array.size_append,List.size_toArray,size_zeroCells,hxl,hl];show _+_+_*8=_;omega
  ·simp only[Array.toList_append];rw[<- hlen];exact List.take_left
 rcases h.2 with ⟨hv,hk0⟩ | ⟨g,cap,cur,hv,hbg,hg,hnc,hcm,hcs,htake⟩
 ·subst hv;subst hk0;have hx:xs=[]:=List.eq_nil_of_length_eq_zero (by simpa using hxl);subst hx;have hr:=run_append_nil (P:=Tryz.prog) w 23 ty 37 i0 _ Tryz.underlying23 hi hz0 ⟨gs,0,none⟩ 1 c news (by rw[hz1];exact hl) hnews (by omega) (by omega) (by rw[hz2];omega);have hgr:=fresh 0 (by omega);simp only[Nat.zero_add,ze,Array.empty_append] at hgr;obtain⟨g1,g2,g3⟩:=none_ _ hgr.2;exact⟨_,_,hr,hgr.1,g1,g2,g3,fun g hg=>by cases hg;exact Or.inr zj⟩
 ·subst hv;by_cases hroom:k+1<=cap
  ·have hr:=run_append_room (P:=Tryz.prog) w 23 ty 37 i0 Tryz.underlying23 hi g k cap cur hg ⟨gs,0,none⟩ 1 c news (by rw[hz1];exact hl) hnews h1 hroom (by rw[hz1,hl,hcs];omega);rw[hz1,hl] at hr
   have hcl:k*8<=cur.toList.length:=by rw[Array.length_toList,hcs];omega
   have hnew:=setRow_heap w g cur (cur.toList.take (k*8)++news++cur.toList.drop (k*8+1*8)).toArray 37 _ hg
   have hsz:(cur.toList.take (k*8)++news++cur.toList.drop (k*8+1*8)).toArray.size=cap*8:=by
    simp only[List.size_toArray,List.length_append,List.length_take,List.length_drop,Array.length_toList,hl,hcs];omega
   have ht1:(cur.toList.take (k*8)++news++cur.toList.drop (k*8+1*8)).take ((k+1)*8)=xs++news:=by
    rw[show(k+1)*8=k*8+1*8 by omega,take_mid8 hcl hl,htake]
   have ht0:(cur.toList.take (k*8)++news++cur.toList.drop (k*8+1*8)).take (k*8)=xs:=by
    have h3:=congrArg (List.take (k*8)) ht1;rw[List.take_take,Nat.min_eq_left (by omega),<- hxl,List.take_left] at h3;rw[<- hxl];exact h3
   refine⟨_,_,hr,⟨hlen,.inr ⟨g,cap,_,rfl,hbg,hnew,hroom,hcm,hsz,ht1⟩⟩,⟨rfl,rfl,rfl,by simp,fun q _ hq=>setRow_other w g q _ (fun e=>hq (by simp[Value.ownBlock,e]))⟩,⟨hxl,.inr ⟨g,cap,_,rfl,hbg,hnew,hnc,hcm,hsz,ht0⟩⟩,fun x2 ys h2=>?_,fun _ h=>Or.inl h⟩
   rcases h2.2 with ⟨_,h0⟩ | ⟨g',cap',cur',rfl,hbg',hg',hnc',hcm',hcs',htake'⟩
   ·omega
   ·by_cases e:g'=g
    ·subst e
     have e2:cur'=cur:=by have:=hg'.symm.trans hg;simpa using this
     subst e2;exact Or.inr ⟨hlen,.inr ⟨g',cap',_,rfl,hbg',hnew,hnc',hcm',by rw[hsz];omega,ht1⟩⟩
    ·exact Or.inl ⟨h2.1,.inr ⟨g',cap',cur',rfl,hbg',(setRow_other w g g' _ e).trans hg',hnc',hcm',hcs',htake'⟩⟩
  ·have holds:∀ j u,xs[j]?=some u->w.cell? ((⟨g,0,none⟩:Addr).add j)=some u:=h.cells (g:=g) rfl;have hr:=run_append_grow (P:=Tryz.prog) w 23 ty 37 i0 _ Tryz.underlying23 hi hz0 ⟨g,0,none⟩ k cap xs (by rw[hz1];exact hxl) holds ⟨gs,0,none⟩ 1 c news (by rw[hz1];exact hl) hnews (by omega) (by omega) (growslice_fits (by omega) (by rw[hz2];omega));have hgr:=fresh cap (by omega);obtain⟨g1,g2,g3⟩:=none_ _ hgr.2;exact⟨_,_,hr,hgr.1,g1,g2,g3,fun g hg=>by cases hg;exact Or.inr zj⟩
theorem ot_snoc {w:World} {lo:Nat} {v:Value} {L:List TE} {t:TV} {q:Rat}:OT w lo v ((L++[(t,q)]).map Prod.fst)↔w.ownsRow lo 37 8 v ((L.map Prod.fst).length+1) ((L.map Prod.fst).flatMap TV.cells++TV.cells t):=by
 have e1:(L++[(t,q)]).map Prod.fst=L.map Prod.fst++[t]:=by rw[List.map_append];rfl
 have e2:(L.map Prod.fst++[t]).flatMap TV.cells=(L.map Prod.fst).flatMap TV.cells++TV.cells t:=by rw[List.flatMap_append,List.flatMap_cons,List.flatMap_nil,List.append_nil]
 rw[e1];unfold OT;rw[e2,List.length_append];exact Iff.rfl
def EX (w:World) (lo:Nat) (L:List TE) (m:Mo) (q:Rat) (z:PV):Prop:=∃ y:FV,ER w lo z.v (L++[(⟨y,m⟩,q)])
def GR (lo:Nat) (L:List TE) (m:Mo) (q:Rat) (v:Value) (a b:World):Prop:=a.grownBy b v.ownBlock/\(ER a lo v L->ER b lo v L)/\∀ z,EX a lo L m q z->EX b lo L m q z
theorem GR.refl (lo:Nat) (L:List TE) (m:Mo) (q:Rat) (v:Value) (w:World):GR lo L m q v w w:=⟨⟨rfl,rfl,rfl,zj,fun _ _ _=>rfl⟩,id,fun _=>id⟩
theorem EX.below {w w':World} {lo:Nat} {L:List TE} {m:Mo} {q:Rat} {z:PV} (h:EX w lo L m q z) (hb:Below w.heap.size w w'):EX w' lo L m q z:=h.imp fun _ h=>h.below hb
theorem GR.of_below {lo:Nat} {L:List TE} {m:Mo} {q:Rat} {v:Value} {a b:World} (hb:Below a.heap.size a b):GR lo L m q v a b:=⟨⟨hb.os,hb.tape,hb.output,hb.size,fun k hk _=>hb.block k hk⟩,fun h=>h.below hb,fun _ h=>h.below hb⟩
theorem push_x {w:World} {lo:Nat} {v:Value} {L:List TE} (h:ER w lo v L) (hn:L.length<=1000000) (hb:lo<=w.heap.size) {gs:Nat} {y:FV} {m:Mo} {q:Rat} (hc:Bxs w gs 37 (TV.cells ⟨y,m⟩)) (hq:EF w lo y q) (ty c:Nat) :
  ∃ (z:PV) (w':World),(Builtin.append_ #[23,23] ty #[v,.slice (some ⟨gs,0,none⟩) 1 c]).run Tryz.prog w=.ok z.v w'/\GR lo L m q v w w'/\EX w' lo L m q z/\∀ g,z.v.ownBlock=some g->v.ownBlock=some g\/w.heap.size<=g:=by
 obtain⟨x,w',hr,g1,g2,g3,g4,g5⟩:=append8 h.row hb (by rw[List.length_map];exact hn) (news:=TV.cells ⟨y,m⟩) rfl (fun j u hj=>by rw[Addr.add_lit,Nat.zero_add];exact hc.cell hj) (tv_one ⟨y,m⟩) ty c
 have hE:ER w' lo x (L++[(⟨y,m⟩,q)]):=⟨ot_snoc.2 g1,fun e he=>by
  rcases List.mem_append.1 he with he | he
  ·exact(h.num e he).grown h.row g2
  ·rw[List.mem_singleton.1 he];exact hq.grown h.row g2⟩
 obtain⟨z,rfl,-⟩:=hE.slice;refine⟨z,w',hr,⟨g2,fun h2=>⟨g3,fun e he=>(h2.num e he).grown h.row g2⟩,fun z2 ⟨y2,h2⟩=>?_⟩,⟨y,hE⟩,g5⟩
 rcases g4 z2.v (TV.cells ⟨y2,m⟩) (ot_snoc.1 h2.row) with h3 | h3
 ·exact⟨y2,ot_snoc.2 h3,fun e he=>(h2.num e he).grown h.row g2⟩
 ·refine⟨y,ot_snoc.2 h3,fun e he=>?_⟩
  rcases List.mem_append.1 he with he | he
  ·exact(h.num e he).grown h.row g2
  ·rw[List.mem_singleton.1 he];exact hq.grown h.row g2
structure RC (w0:World) (g d i:Nat) (A:List Tm) (Z:Nat->PV) (wr:World):Prop where
 row:wr.rowIs g 23 (d+1) (fun k=>(Z k).v)
 er:∀ k,k<=d->∃ L,ER wr w0.heap.size (Z k).v L/\L.map tm=coefP A i k
 ne:∀ k j b,k<=d->j<=d->k≠j->(Z k).v.ownBlock=some b->(Z j).v.ownBlock≠some b
 bel:Below w0.heap.size w0 wr
theorem RC.below {w0 wr wx:World} {g d i:Nat} {A:List Tm} {Z:Nat->PV} (h:RC w0 g d i A Z wr) (hb:Below wr.heap.size wr wx):RC w0 g d i A Z wx :=
 ⟨h.row.of_block (hb.block g h.row.lt),fun k hk=>let ⟨L,h1,h2⟩:=h.er k hk;⟨L,h1.below hb,h2⟩,h.ne,h.bel.trans (hb.mono h.bel.size)⟩
theorem RC.box {w0 wr:World} {g d i:Nat} {A:List Tm} {Z:Nat->PV} (h:RC w0 g d i A Z wr) {b:Nat} {l:List Value} (hb:Bxs wr b 35 l) (o:Nat) (v:Value) (hlo:w0.heap.size<=b):RC w0 g d i A Z (wr.setCell ⟨b,o,none⟩ v):=by
 have hne:∀ (k:Nat) (c:Array Value) (T:TypeId),wr.heap[k]?=some (.cells c T (0,0))->T≠35->(wr.setCell ⟨b,o,none⟩ v).heap[k]?=wr.heap[k]?:=fun k c T hk hT=>Below.heap_setCell _ _ _ _ fun e=>by
  have hb:wr.heap[b]?=some (.cells l.toArray 35 (0,0)):=hb;have e:k=b:=e;rw[e,hb] at hk
  injection hk with hk
  injection hk with _ hk _
  exact hT hk.symm
 refine⟨h.row.of_block ?_,fun k hk=>?_,h.ne,h.bel.setCell hlo _⟩
 ·obtain⟨c,h1,_⟩:=h.row;exact hne g c _ h1 (by decide)
 ·obtain⟨L,h1,h2⟩:=h.er k hk;exact⟨L,h1.rows fun b' c T h3 hT=>hne b' c T h3 fun e=>by rw[e] at hT;exact absurd hT (by decide),h2⟩
theorem RC.push {w0 wr w6:World} {g d i:Nat} {A:List Tm} {Z:Nat->PV} (h:RC w0 g d i A Z wr) {m:Mo} {q:Rat} (hk:m.at i<=d) (hg0:w0.heap.size<=g) {L:List TE} (hL:L.map tm=coefP A i (m.at i)) (hLe:ER wr w0.heap.size (Z (m.at i)).v L) {z:PV} (hz:EX w6 w0.heap.size L (m.cut i) q z)
  (hgr:wr.grownBy w6 (Z (m.at i)).v.ownBlock) (hp:∀ b,z.v.ownBlock=some b->(Z (m.at i)).v.ownBlock=some b\/wr.heap.size<=b) :
  RC w0 g d i (A++[(m,q)]) (fun k=>if k=m.at i then z else Z k) (w6.setCell ⟨g,m.at i,none⟩ z.v):=by
 have hown:∀ k b,k<=d->(Z k).v.ownBlock=some b->w0.heap.size<=b/\b<wr.heap.size:=fun k b hk hb=>by
  obtain⟨L,h1,_⟩:=h.er k hk;exact World.ownsRow.lt h1.row b hb
 have hcur:∃ c,wr.heap[g]?=some (.cells c 23 (0,0)):=by obtain⟨c,h1,_⟩:=h.row;exact⟨c,h1⟩
 obtain⟨c,hc⟩:=hcur
 have hgne:some g≠(Z (m.at i)).v.ownBlock:=fun e=>by
  rcases hLe.row.2 with ⟨hv,_⟩ | ⟨g',cap,cur,hv,_,hg',_⟩
  ·rw[hv] at e;cases e
  ·rw[hv] at e;have e:some g=some g':=e
   injection e with e
   rw[e,hg'] at hc
   cases hc
 have hrow:=h.row.of_block (hgr.block g h.row.lt hgne);have hrows:=row_rows hrow (m.at i) z.v;refine⟨(hrow.set (m.at i) _).congr fun j hj=>?_,fun k hkd=>?_,fun k j b hkd hjd hkj h1 h2=>?_,(h.bel.grown hgr h.bel.size (fun b hb=>(hown _ b hk hb).1)).setCell hg0 _⟩
 ·by_cases e:j=m.at i
  ·rw[if_pos e,if_pos e]
  ·rw[if_neg e,if_neg e]
 ·by_cases e:k=m.at i
  ·rw[if_pos e];obtain⟨y,hy⟩:=hz;refine⟨_,hy.rows hrows,?_⟩;rw[coefP_snoc,e,if_pos rfl,List.map_append,hL];rfl
  ·rw[if_neg e];obtain⟨L2,h1,h2⟩:=h.er k hkd;refine⟨L2,ER.rows ⟨World.ownsRow.kept h1.row hgr ?_,fun e he=>(h1.num e he).grown hLe.row hgr⟩ hrows,?_⟩
   ·cases hv:(Z k).v.ownBlock with
    | none=>exact Or.inl rfl
    | some b=>exact Or.inr fun e2=>h.ne k _ b hkd hk e hv e2.symm
   ·rw[coefP_snoc,if_neg fun e2=>e e2.symm,List.append_nil];exact h2
 ·by_cases e:k=m.at i
  ·have e2:¬j=m.at i:=fun e2=>hkj (e.trans e2.symm)
   rw[if_pos e] at h1;rw[if_neg e2] at h2
   rcases hp b h1 with h3 | h3
   ·exact h.ne _ j b hk hjd (fun h=>e2 h.symm) h3 h2
   ·have:=(hown j b hjd h2).2;omega
  ·rw[if_neg e] at h1;by_cases e2:j=m.at i
   ·rw[if_pos e2] at h2
    rcases hp b h2 with h3 | h3
    ·exact h.ne k _ b hkd hk e h1 h3
    ·have:=(hown k b hkd h1).2;omega
   ·rw[if_neg e2] at h2;exact h.ne k j b hkd hjd hkj h1 h2
theorem samePolys_k (a b:Option Addr) (n c d:Nat) (xs ys:List PV) (w:World) (ha:RS w a xs) (hb:RS w b ys) (hx:xs.length=n) (hy:ys.length=n) (hn:n<=1000000)
  (hk:∀ (i:Nat) (x y:PV),xs[i]?=some x->ys[i]?=some y->∃ P,KP w x P/\KP w y P/\(∀ t∈P,LQ t.2 900000)/\P.length<=1000000) :
  Calls Tryz.prog 14 #[.slice a n c,.slice b n d] w fun e w'=>e=.returned (.bool true)/\Below w.heap.size w w':=by
 have HA:=qh ha;have HB:=qh hb;have HXL:=qh hx;have HYL:=qh hy;have HN:=qh hn;have HK:=qh hk;clear ha hb hx hy hn hk;go_enter Tryz.func14,Tryz.ntmps14;go_wp2_with fail
 go_loopw [5] (fun i wr=>∃ j:Nat,j<=n/\i=.int .i64 j/\Below w.heap.size w wr) (fun i _=>n-(intOf i).toNat)
 case atStart=>exact⟨0,Nat.zero_le _,rfl,zk⟩
 case round =>
  obtain⟨j,hj,rfl,hb0⟩:=hrel;have HJ:=qh hj;have KG:=qh hb0;clear hj hb0;by_cases hjn:j<n
  ·have HJN:=qh hjn
   have hlt:(j:Int)<(n:Int):=by omega
   obtain⟨⟨xa,xn,xc⟩,hx⟩:∃ x,xs[j]?=some x:=⟨_,List.getElem?_eq_getElem (by rw[HXL.o];exact hjn)⟩;obtain⟨⟨ya,yn,yc⟩,hy⟩:∃ y,ys[j]?=some y:=⟨_,List.getElem?_eq_getElem (by rw[HYL.o];exact hjn)⟩;obtain⟨P,k1,k2,k3,k4⟩:=HK.o j _ _ hx hy;obtain⟨ab,ao,rfl,hca⟩:=(HA.o.below KG.o).ex (fun e=>by rw[e] at hx;simp at hx);obtain⟨bb,bo,rfl,hcb⟩:=(HB.o.below KG.o).ex (fun e=>by rw[e] at hy;simp at hy);have HC1:=qh (show wr.cell? ⟨ab,ao+j,none⟩=some (.slice xa xn xc) from hca j _ hx);have HC2:=qh (show wr.cell? ⟨bb,bo+j,none⟩=some (.slice ya yn yc) from hcb j _ hy);have HK1:=qh (k1.below KG.o);have HK2:=qh (k2.below KG.o);have HPL:=qh k3;have HPN:=qh k4;have ek:IntKind.i64.wrap ((j:Int)+1)=(j:Int)+1:=IntWalk.i64_in _ (by have:=HJN.o;have:=HN.o;omega);have HJI:=qh hjn;clear hx hy k1 k2 k3 k4 hca hcb
   go_upto_region 6 with (fail)
   refine FS.wp_region_fresh 9 [] (FS.spOf [(8,FS.Sp.know (.bool true))])
    (fun w'=>Below wr.heap.size wr w') (by kernel_rfl) (by kernel_rfl) (by kernel_rfl)
    (FS.spOf_cons (FS.Sp.know_keeps _ _) (FS.spOf_nil)) (fun _ _ h hb=>h.trans (hb.mono h.size)) (zk.drew) ?_
   simp only[zu,zi,ze,zx,zy,zv,zw]
   iterate 8
    refine FS.wpF_reads rfl rfl rfl ?_ (fun w' hw'=>?_) ?_;rotate_left
    ·have hb':=hw'.world;have hs:=cell_keep HC1.o hb';have hs:=cell_keep HC2.o hb';clear hw';go_simp
     try rfl
    conv=>arg 10;simp only[Act.put,zq0,zq1,zq2]
   refine FS.wpF_spec rfl rfl rfl (fun w' hw'=>?_) ?_
   ·have hb':=hw'.world;refine FS.gives_of (FS.PK (.bool true)) ?_ (fun _ _ h=>h.post);go_simp;have CT:=(show Calls Tryz.prog 26 #[.slice xa xn xc,.slice ya yn yc] w' _ from same_k ⟨xa,xn,xc⟩ ⟨ya,yn,yc⟩ P w' (HK1.o.below hb') (HK2.o.below hb') HPL.o HPN.o);refine CT.mono ?_;rintro e w'' ⟨rfl,hb⟩;exact⟨_,rfl,rfl,hb⟩
   rintro _ rfl
   conv=>arg 10;simp only[Act.put,zq0,zq1,zq2]
   refine FS.wpF_nil (fun w101 hb hF=>?_);clear hF;have KG:=qk KG hb;clear hb;go_wp2_with fail
   go_roundw
   case rel=>exact⟨j+1,HJN.o,rfl,KG.o⟩
   case measure=>simp[intOf];have:=HJN.o;omega
  ·have hge:¬((j:Int)<(n:Int)):=by omega
   clear hjn;go_wp2_with fail
   go_ret;exact⟨rfl,KG.o⟩
theorem gives_app {G:World->World->Prop} {P:Program} {o:Oper} {a:Act} {w w':World} {Post:Value->World->Prop} {v u r:Value} (s x:Operand) (t:TypeId)
  (ho:o.op=.call { callee:=.builtin .append,args:=#[s,x],argTypes:=#[t,t] }) (hs:a.eval s=v) (hx:a.eval x=u)
  (hr:(Builtin.append_ #[t,t] o.type #[v,u]).run P w=.ok r w') (hP:Post r w'/\G w w'):Go.FreshG.givesUpon P G w Post ((execOp a.eval o).run P w):=by
 unfold execOp;simp only[ho,resolve,invoke,builtin,Sem.run_bind,Sem.run_pure,Result.andThen_ok,List.map_toArray,List.map_cons,List.map_nil,hs,hx,hr];exact hP
def aggT (m:Mo) (x:FV):Value:=TV.v ⟨x,m⟩
theorem agg8 {c4 c5 c6 c7:Value} {x y:FV} (h:Value.agg #[.bool x.t.s,.slice x.t.a x.t.n x.t.c,.bool x.l.s,.slice x.l.a x.l.n x.l.c,c4,c5,c6,c7]=.agg #[.bool y.t.s,.slice y.t.a y.t.n y.t.c,.bool y.l.s,.slice y.l.a y.l.n y.l.c,c4,c5,c6,c7]):x=y :=
 tup8 (by rw[h])
theorem GR.trans {lo:Nat} {L:List TE} {m:Mo} {q:Rat} {v:Value} {a b c:World} (h:GR lo L m q v a b) (g:GR lo L m q v b c):GR lo L m q v a c :=
 ⟨⟨g.1.os.trans h.1.os,g.1.tape.trans h.1.tape,g.1.output.trans h.1.output,zm h.1.size g.1.size,fun k hk hne=>(g.1.block k (Nat.lt_of_lt_of_le hk h.1.size) hne).trans (h.1.block k hk hne)⟩,fun x=>g.2.1 (h.2.1 x),fun z x=>g.2.2 z (h.2.2 z x)⟩
theorem EF.gr {lo lo2:Nat} {L:List TE} {m:Mo} {q p:Rat} {v:Value} {a b:World} {x:FV} (h:EF a lo2 x p) (hG:GR lo L m q v a b) (hv:∀ g,v.ownBlock=some g->g<lo2):EF b lo2 x p :=
 h.kept fun g hg=>hG.1.block g (h.blks g hg).2 fun e=>by
  have h1:=hv g e.symm;have h2:=(h.blks g hg).1;omega
theorem NewT.gr {lo lo2 g:Nat} {L:List TE} {m m2:Mo} {q p:Rat} {v:Value} {a b:World} (h:NewT a lo2 g m2 p) (hG:GR lo L m q v a b) (hv:∀ g,v.ownBlock=some g->g<lo2) (hg:lo2<=g):NewT b lo2 g m2 p:=by
 obtain⟨y,h1,h2⟩:=h.ex;exact⟨y,(hG.1.block g h1.lt fun e=>by have h3:=hv g e.symm;omega).trans h1,h2.gr hG hv⟩
theorem put_cut4 {w:World} {b:Nat} {T:TypeId} {m:Mo} {i:Nat} (h:Bxs w b T [.int .u16 m.x,.int .u16 m.y,.int .u16 m.z,.int .u16 m.t]) (hi:i<4) :
  Bxs (w.setCell ⟨b,i,none⟩ (.int .u16 0)) b T [.int .u16 (m.cut i).x,.int .u16 (m.cut i).y,.int .u16 (m.cut i).z,.int .u16 (m.cut i).t]:=by
 match i,hi with
 | 0,_=>exact h.put 0 _
 | 1,_=>exact h.put 1 _
 | 2,_=>exact h.put 2 _
 | 3,_=>exact h.put 3 _
def RCoefR (w:World) (P:List Tm) (i:Nat) (e:Ending) (w':World):Prop :=
 ∃ (g n:Nat) (Z:Nat->PV),e=.returned (.slice (some ⟨g,0,none⟩) n n)/\(n:Int)=degP P i+1/\w'.rowIs g 23 n (fun k=>(Z k).v)/\(∀ k,k<n->KP w' (Z k) (coefP P i k))/\Below w.heap.size w w'
theorem rcoefs_none (x:PV) (P:List Tm) (l:Int) (w:World) (hx:AP w x P) (hp:∀ t∈P,LQ t.2 900000) (hn:x.n<=1000000)
  (hd:∀ (y:PV) (W:World),AP W y P->y.n<=1000000->Calls Tryz.prog 13 #[y.v,.int .i64 l] W fun e w'=>e=.returned (.int .i64 (-1))/\Below W.heap.size W w') :
  Calls Tryz.prog 15 #[x.v,.int .i64 l] w fun e w'=>∃ g:Nat,e=.returned (.slice (some ⟨g,0,none⟩) 0 0)/\Below w.heap.size w w':=by
 have FT:=qh (rfit_any hx hp (by omega));have HD:=qh hd;have HN:=qh hn;obtain⟨xa,xn,xc⟩:=x;change Calls Tryz.prog 15 #[.slice xa xn xc,.int .i64 l] w _;clear hx hp hn hd;go_enter Tryz.func15,Tryz.ntmps15;go_wp2_with fail
 with_reducible refine FT.o.mono ?_
 rintro e W ⟨⟨ya,yn,yc⟩,he,hy,hyn,hb⟩;obtain rfl:e=.returned (.slice ya yn yc):=he;have KG:=qh hb;have DG:=qh (HD.o ⟨ya,yn,yc⟩ W hy.any (zm hyn HN.o));clear hy hyn hb FT;go_wp2_with fail
 with_reducible refine DG.o.mono ?_
 rintro e w2 ⟨rfl,hb⟩;have KG:=qk KG hb;clear hb DG;have hmk:=run_make_row' (P:=Tryz.prog) 40 23 (.slice none 0 0) 24 Tryz.underlying40 infoPq rfl .i64 .i64 0 (by decide) (by decide);rw[show((0:Nat):Int)=0 from rfl] at hmk
 have e1:IntKind.i64.wrap ((-1:Int)+1)=0:=by decide
 go_upto_region 3 with (fail)
 obtain⟨V,hV⟩:∃ V,V=w2.alloc (.cells (madeCells #[.slice none 0 0] 0) 23):=⟨_,rfl⟩
 have hb:Below w2.heap.size w2 V:=by rw[hV];exact zk.alloc zj _
 obtain⟨g,hg⟩:∃ g,g=w2.heap.size:=⟨_,rfl⟩;rw[<- hV,<- hg];have KG:=qk KG hb;clear hb hV hg hmk e1;go_wp2_with fail
 go_loopw [6] (fun i wr=>i=.int .i64 0/\Below w.heap.size w wr) (fun _ _=>0)
 case atStart=>exact⟨rfl,KG.o⟩
 case round =>
  obtain⟨rfl,hb0⟩:=hrel;have KG:=qh hb0;clear hb0;by_cases hz:yn=0
  ·subst hz;go_wp2_with fail
   go_ret;exact⟨g,rfl,KG.o⟩
  ·have h0:(0:Int)<(yn:Int):=by omega
   go_wp2_with fail
   go_ret;exact⟨g,rfl,KG.o⟩
theorem rcoefs_k (li:Nat) (hi:li<4) (x:PV) (P:List Tm) (w:World) (hx:AP w x P) (hp:∀ t∈P,LQ t.2 900000) (hn:x.n<=1000000) (hne:P≠[]) :
  Calls Tryz.prog 15 #[x.v,.int .i64 (li:Int)] w (RCoefR w P li):=by
 have HI:=qh hi;have FT:=qh (rfit_any hx hp (by omega));have HN:=qh hn;have HQ:=qh hp;have HCA:=qh hx.canon;have HSM:=qh hx.small
 obtain⟨d,hd⟩:∃ d:Nat,(d:Int)=degP P li:=⟨(degP P li).toNat,by
  obtain⟨t,ht,h1⟩:=degP_has hne li
  rw[h1];omega⟩
 have HD:=qh hd
 have HD6:=qh (show d<=65535 by
  obtain⟨t,ht,h1⟩:=degP_has hne li;rw[<- hd] at h1;have h2:=at_small (hx.small t ht) li
  omega)
 have HI1:=qh (show(li:Int)<4 by omega);have HI2:=qh (show ¬((li:Int)<0) by omega);have HI3:=qh (show(0:Int)<=(li:Int) by omega);obtain⟨xa,xn,xc⟩:=x;change Calls Tryz.prog 15 #[.slice xa xn xc,.int .i64 (li:Int)] w _;clear hx hp hn hne hd hi;go_enter Tryz.func15,Tryz.ntmps15;go_wp2_with fail
 with_reducible refine FT.o.mono ?_
 rintro e W ⟨⟨ya,yn,yc⟩,he,hy,hyn,hb⟩;obtain rfl:e=.returned (.slice ya yn yc):=he;have KG:=qh hb;have FZ:=qh hy;have HYN:=qh (show yn<=1000000 from zm hyn HN.o);have HPL:=qh (show yn=P.length from hy.len);have DG:=qh (rdegree_k li HI.o ⟨ya,yn,yc⟩ P W hy.any HQ.o (zm hyn HN.o));clear hy hyn hb FT;go_wp2_with fail
 with_reducible refine DG.o.mono ?_
 rintro e w2 ⟨he,hb⟩
 obtain rfl:e=.returned (.int .i64 (d:Int)):=by rw[he,HD.o]
 have KW:=qh hb;clear hb DG he;have hmk:=run_make_row' (P:=Tryz.prog) 40 23 (.slice none 0 0) 24 Tryz.underlying40 infoPq rfl .i64 .i64 (d+1) (by have:=HD6.o;omega) (by have:=HD6.o;omega);rw[show((d+1:Nat):Int)=(d:Int)+1 from rfl] at hmk;have e1:IntKind.i64.wrap ((d:Int)+1)=(d:Int)+1:=IntWalk.i64_in _ (by have:=HD6.o;omega)
 go_upto_region 3 with (fail)
 obtain⟨V,hV⟩:∃ V,V=w2.alloc (.cells (madeCells #[.slice none 0 0] (d+1)) 23):=⟨_,rfl⟩
 have hb:Below w2.heap.size w2 V:=by rw[hV];exact zk.alloc zj _
 obtain⟨g,hg⟩:∃ g,g=w2.heap.size:=⟨_,rfl⟩;have HGW:=qh (show W.heap.size<=g by rw[hg];exact KW.o.size);have RC0:=qh (show RC W g d li [] (fun _=>⟨none,0,0⟩) V from⟨by rw[hV,hg];exact World.rowIs_made w2 (.slice none 0 0) (d+1) 23,fun k _=>⟨[],ER.nil,rfl⟩,fun k j b _ _ _ h=>(by cases h),KW.o.trans (hb.mono KW.o.size)⟩);rw[<- hV,<- hg];have HDP:=qh (show(0:Int)<((d+1:Nat):Int) by omega);have HDQ:=qh (show(0:Int)<(d:Int)+1 by omega);clear hb hV hg hmk e1;go_wp2_with fail
 go_loopw [6] (fun i wr=>∃ (j:Nat) (Z:Nat->PV),j<=yn/\i=.int .i64 j/\RC W g d li (P.take j) Z wr) (fun i _=>yn-(intOf i).toNat)
 case atStart=>exact⟨0,_,Nat.zero_le _,rfl,by rw[zy];exact RC0.o⟩
 case round =>
  clear RC0;obtain⟨j,Z,hj,rfl,hrc⟩:=hrel;have HJ:=qh hj;have HR:=qh hrc;clear hj hrc;have hdp:=HDP.o;have hdq:=HDQ.o;by_cases hjn:j<yn
  ·have HJN:=qh hjn;have HLT:=qh (show(j:Int)<(yn:Int) by omega);have hlt:=HLT.o;obtain⟨t,q,pb,po,rfl,hre,hnf,htp⟩:=FZ.o.get HJN.o;have HRE:=qh hre;have HNF:=qh hnf;have HTP:=qh htp;have HLQ:=qh (show LQ q 900000 from HQ.o _ (List.mem_of_getElem? htp));have HLF:=qh (show LF t.c 900000 from hnf.len (HQ.o _ (List.mem_of_getElem? htp)) zj);have HEK:=qh (show IntKind.i64.wrap ((j:Int)+1)=(j:Int)+1 from IntWalk.i64_in _ (by have:=HJN.o;have:=HYN.o;omega))
   have hcd:t.m.at li<=d:=by
    have h1:((t.m.at li:Nat):Int)<=degP P li:=degP_le (List.mem_of_getElem? htp);rw[<- HD.o] at h1;exact Int.ofNat_le.1 h1
   have HCD:=qh (show t.m.at li<=d from hcd);have HC:=qh (show((t.m.at li:Nat):Int)<((d:Int)+1) by omega);have HC2:=qh (show((t.m.at li:Nat):Int)<((d+1:Nat):Int) by omega);have HC3:=qh (show(0:Int)<=((t.m.at li:Nat):Int) by omega);have E1:=qh (hre.below HR.o.bel);clear hjn hre hnf htp hcd;obtain⟨c0,c1,c2,c3,c4,c5,c6,c7⟩:=E1.o.eight
   go_upto_region 7 with (fail)
   obtain⟨W8,hV⟩:∃ V,V=wr.alloc (.cells #[.int .u16 t.m.x,.int .u16 t.m.y,.int .u16 t.m.z,.int .u16 t.m.t] 35):=⟨_,rfl⟩
   have hb:Below wr.heap.size wr W8:=by rw[hV];exact zk.alloc zj _
   have B8:=qh (show Bxs W8 wr.heap.size 35 [.int .u16 t.m.x,.int .u16 t.m.y,.int .u16 t.m.z,.int .u16 t.m.t] by rw[hV];exact Bxs.new wr 35 [.int .u16 t.m.x,.int .u16 t.m.y,.int .u16 t.m.z,.int .u16 t.m.t]);obtain⟨A8,hA8⟩:∃ A,A=wr.heap.size:=⟨_,rfl⟩;rw[<- hV,<- hA8];rw[<- hA8] at B8;have HA8:=qh (show W.heap.size<=A8 by rw[hA8];exact HR.o.bel.size)
   have HAW:=qh (show ∀ b,(Z (t.m.at li)).v.ownBlock=some b->W.heap.size<=b/\b<A8 from fun b hb=>by
    obtain⟨L,h1,_⟩:=HR.o.er _ HCD.o;rw[hA8]
    exact World.ownsRow.lt h1.row b hb)
   have HR:=qh (HR.o.below hb);clear hb hV hA8 c0 c1 c2 c3 c4 c5 c6 c7 hlt E1 hdp hdq;have hs0:=B8.o.cell (i:=li) (at4 t.m HI.o);have hsf:=B8.o.fz;have hsl:=B8.o.lt;have hi1:=HI1.o;have hi2:=HI2.o;have hi3:=HI3.o
   go_upto_region 9 with (fail)
   obtain⟨WV,hV⟩:∃ V,V=W8.setCell ⟨A8,li,none⟩ (.int .u16 0):=⟨_,rfl⟩;have HB:=qh (show Bxs WV A8 35 [.int .u16 (t.m.cut li).x,.int .u16 (t.m.cut li).y,.int .u16 (t.m.cut li).z,.int .u16 (t.m.cut li).t] by rw[hV];exact put_cut4 B8.o HI.o);have HR:=qh (show RC W g d li (P.take j) Z WV by rw[hV];exact HR.o.box B8.o li _ HA8.o);rw[<- hV];clear hV hs0 hsf hsl hi1 hi2 hi3 B8;obtain⟨L,hLe,hLm⟩:=HR.o.er _ HCD.o;have HLM:=qh hLm;obtain⟨ov9,hzv⟩:∃ v,v=(Z (t.m.at li)).v:=⟨_,rfl⟩;have HZV:=qh hzv;have HER:=qh (show ER WV W.heap.size ov9 L by rw[hzv];exact hLe)
   have HLN:=qh (show L.length<=1000000 by
    have h1:=congrArg List.length hLm;rw[List.length_map] at h1
    have h2:(coefP (P.take j) li (t.m.at li)).length<=(P.take j).length:=by
     unfold coefP;rw[List.length_map];exact List.length_filter_le ..
    rw[List.length_take] at h2;have:=HJ.o;have:=HYN.o
    omega)
   have HSZ:=qh HR.o.bel.size;have HOA:=qh (show ∀ b,ov9.ownBlock=some b->W.heap.size<=b/\b<A8 from fun b hb=>HAW.o b (by rw[<- hzv];exact hb));have HOB:=qh (show ∀ b,ov9.ownBlock=some b->b<WV.heap.size from fun b hb=>by have h1:=(HOA.o b hb).2;have h2:=HB.o.lt;omega)
   have HGC:=qh (show ∀ w',GR W.heap.size L (t.m.cut li) q ov9 WV w'->w'.cell? ⟨g,t.m.at li,none⟩=some ov9 from fun w' h=>by
    have h1:=HR.o.row;have hcd:=HCD.o;rw[hzv];refine(h1.of_block (h.1.block g h1.lt fun e=>?_)).cell (i:=t.m.at li) (by omega);rw[hzv] at e;obtain⟨c,h2,_⟩:=h1
    rcases hLe.row.2 with ⟨hv,_⟩ | ⟨g',cap,cur,hv,_,hg',_⟩
    ·rw[hv] at e;cases e
    ·rw[hv] at e;have e:some g=some g':=e
     injection e with e
     rw[e,hg'] at h2
     cases h2)
   have HBW:=qh (show ∀ w',GR W.heap.size L (t.m.cut li) q ov9 WV w'->Below W.heap.size W w' from fun w' h=>HR.o.bel.grown h.1 HR.o.bel.size fun b hb=>(HOA.o b hb).1);have HBM:=qh (show ∀ w',GR W.heap.size L (t.m.cut li) q ov9 WV w'->Bxs w' A8 35 [.int .u16 (t.m.cut li).x,.int .u16 (t.m.cut li).y,.int .u16 (t.m.cut li).z,.int .u16 (t.m.cut li).t] from fun w' h=>(h.1.block A8 HB.o.lt fun e=>by have:=(HOA.o A8 e.symm).2;omega).trans HB.o);clear hLe hLm hzv
   refine Go.FreshG.wp_region_fresh 16 (Go.FreshG.spOf [(11,Go.FreshG.Sp.made (fun x:FV=>x.v) (fun x w'=>EF w' WV.heap.size x q)),
     (13,Go.FreshG.Sp.made (fun x:FV=>aggT (t.m.cut li) x) (fun x w'=>EF w' WV.heap.size x q)),
     (14,Go.FreshG.Sp.made (fun b:Nat=>Value.slice (some ⟨b,0,none⟩) 1 1) (fun b w'=>NewT w' WV.heap.size b (t.m.cut li) q/\WV.heap.size<=b)),
     (15,Go.FreshG.Sp.made (fun z:PV=>z.v) (fun z w'=>EX w' W.heap.size L (t.m.cut li) q z/\∀ b,z.v.ownBlock=some b->ov9.ownBlock=some b\/WV.heap.size<=b))])
    (G:=GR W.heap.size L (t.m.cut li) q ov9) (fun w'=>GR W.heap.size L (t.m.cut li) q ov9 WV w'/\ER w' W.heap.size ov9 L) (by kernel_rfl) (by kernel_rfl)
    (Go.FreshG.spOf_cons (Go.FreshG.Sp.made_keeps fun x w w' h hG=>h.gr hG HOB.o) (Go.FreshG.spOf_cons (Go.FreshG.Sp.made_keeps fun x w w' h hG=>h.gr hG HOB.o) (Go.FreshG.spOf_cons (Go.FreshG.Sp.made_keeps fun b w w' h hG=>⟨h.1.gr hG HOB.o h.2,h.2⟩) (Go.FreshG.spOf_cons (Go.FreshG.Sp.made_keeps fun z w w' h hG=>⟨hG.2.2 z h.1,h.2⟩) Go.FreshG.spOf_nil))))
    ⟨fun w=>GR.refl _ _ _ _ _ w,fun _ _ h hG=>⟨h.1.trans hG,hG.2.1 h.2⟩⟩ ⟨GR.of_below (zk.drew),HER.o.below (zk.drew)⟩ ?_
   simp only[zu,zi,ze,zx,zy,zv,zw]
   iterate 4
    refine Go.FreshG.wpF_reads rfl rfl ?_ (fun w' hw'=>?_) ?_;rotate_left
    ·have hb':=Go.FreshG.Has.world hw';skip;clear hw';go_simp
     try rfl
    conv=>arg 10;simp only[Act.put,zq0,zq1,zq2]
   refine Go.FreshG.wpF_reads rfl rfl ?_ (fun w' hw'=>?_) ?_;rotate_left
   ·have hb':=Go.FreshG.Has.world hw';have hc:=HC.o;have hc2:=HC2.o;have hc3:=HC3.o;clear hw';go_simp
    try rfl
   conv=>arg 10;simp only[Act.put,zq0,zq1,zq2]
   refine Go.FreshG.wpF_reads rfl rfl ?_ (fun w' hw'=>?_) ?_;rotate_left
   ·have hb':=Go.FreshG.Has.world hw';have hs:=HGC.o w' hb'.1;clear hw';go_simp
    try rfl
   conv=>arg 10;simp only[Act.put,zq0,zq1,zq2]
   iterate 2
    refine Go.FreshG.wpF_reads rfl rfl ?_ (fun w' hw'=>?_) ?_;rotate_left
    ·have hb':=Go.FreshG.Has.world hw';skip;clear hw';go_simp
     try rfl
    conv=>arg 10;simp only[Act.put,zq0,zq1,zq2]
   refine Go.FreshG.wpF_reads rfl rfl ?_ (fun w' hw'=>?_) ?_;rotate_left
   ·have hb':=Go.FreshG.Has.world hw';have hlt:=HLT.o;clear hw';go_simp
    try rfl
   conv=>arg 10;simp only[Act.put,zq0,zq1,zq2]
   refine Go.FreshG.wpF_reads rfl rfl ?_ (fun w' hw'=>?_) ?_;rotate_left
   ·have hb':=Go.FreshG.Has.world hw';skip;clear hw';go_simp
    try rfl
   conv=>arg 10;simp only[Act.put,zq0,zq1,zq2]
   refine Go.FreshG.wpF_reads rfl rfl ?_ (fun w' hw'=>?_) ?_;rotate_left
   ·have hb':=Go.FreshG.Has.world hw';obtain⟨hs0,hs1,hs2,hs3,hs4,hs5,hs6,hs7⟩:=(HRE.o.below (HBW.o w' hb'.1)).eight;clear hw';go_simp
    try rfl
   conv=>arg 10;simp only[Act.put,zq0,zq1,zq2]
   refine Go.FreshG.wpF_spec rfl rfl (fun w' hw'=>?_) ?_
   ·have hb':=Go.FreshG.Has.world hw';clear hw';go_simp;have CB:=(show Calls Tryz.prog 38 #[.agg #[.bool t.c.t.s,.slice t.c.t.a t.c.t.n t.c.t.c,.bool t.c.l.s,.slice t.c.l.a t.c.l.n t.c.l.c]] w' _ from rtwinV (c:=t.c) (HNF.o.below (HBW.o w' hb'.1)).any HLF.o HLQ.o);with_reducible refine CB.mono ?_
    rintro e2 w'' ⟨y,rfl,hy,hb⟩;exact⟨_,rfl,⟨⟨y,rfl⟩,⟨y,rfl,hy.mono hb'.1.1.size⟩⟩,GR.of_below hb⟩
   rintro _ ⟨y11,rfl⟩
   conv=>arg 10;simp only[Act.put,zq0,zq1,zq2]
   refine Go.FreshG.wpF_reads rfl rfl ?_ (fun w' hw'=>?_) ?_;rotate_left
   ·have hb':=Go.FreshG.Has.world hw';have hB:=HBM.o w' hb'.1;have hs0:=hB.ce 0;have hs1:=hB.ce 1;have hs2:=hB.ce 2;have hs3:=hB.ce 3;have hsf:=hB.fz;have hsl:=hB.lt;clear hw';go_simp
    try rfl
   conv=>arg 10;simp only[Act.put,zq0,zq1,zq2]
   refine Go.FreshG.wpF_spec rfl rfl (fun w' hw'=>?_) ?_
   ·have h11:=hw'.fact 11 (by kernel_rfl);clear hw';obtain⟨x,ex,hx⟩:=h11;obtain rfl:y11=x:=FV.inj ex;go_simp;exact⟨⟨⟨y11,rfl⟩,⟨y11,rfl,hx⟩⟩,GR.refl _ _ _ _ _ _⟩
   rintro _ ⟨y13,rfl⟩
   conv=>arg 10;simp only[Act.put,zq0,zq1,zq2]
   rw[show aggT (t.m.cut li) y13=Value.agg #[.bool y13.t.s,.slice y13.t.a y13.t.n y13.t.c,.bool y13.l.s,.slice y13.l.a y13.l.n y13.l.c,.int .u16 (t.m.cut li).x,.int .u16 (t.m.cut li).y,.int .u16 (t.m.cut li).z,.int .u16 (t.m.cut li).t] from rfl];refine Go.FreshG.wpF_spec rfl rfl (fun w' hw'=>?_) ?_
   ·have h13:=hw'.fact 13 (by kernel_rfl);have hb':=Go.FreshG.Has.world hw';clear hw';obtain⟨x,ex,hx⟩:=h13;obtain rfl:y13=x:=agg8 ex;go_simp;have hN:NewT (w'.alloc (.cells #[.bool y13.t.s,.slice y13.t.a y13.t.n y13.t.c,.bool y13.l.s,.slice y13.l.a y13.l.n y13.l.c,.int .u16 (t.m.cut li).x,.int .u16 (t.m.cut li).y,.int .u16 (t.m.cut li).z,.int .u16 (t.m.cut li).t] 37)) WV.heap.size w'.heap.size (t.m.cut li) q:=⟨⟨y13,Bxs.new w' _ (TV.cells ⟨y13,t.m.cut li⟩),hx.alloc _⟩⟩;exact⟨⟨hN,hb'.1.1.size⟩,GR.of_below (zk.alloc zj _)⟩
   rintro _ ⟨gs,rfl⟩
   conv=>arg 10;simp only[Act.put,zq0,zq1,zq2]
   refine Go.FreshG.wpF_spec rfl rfl (fun w' hw'=>?_) ?_
   ·have hb':=Go.FreshG.Has.world hw';have h14:=hw'.fact 14 (by kernel_rfl);obtain⟨g',eg,⟨⟨y,hB,hE⟩⟩,hg2⟩:=h14
    cases eg
    obtain⟨z,w'',hrun,h1,h2,h3⟩:=push_x hb'.2 HLN.o (zm HSZ.o hb'.1.1.size) hB (hE.mono HSZ.o) 23 1;clear hw';refine gives_app (v:=ov9) (u:=.slice (some ⟨gs,0,none⟩) 1 1) _ _ 23 (by rfl) (by(go_simp;try rfl)) (by(go_simp;try rfl)) hrun ?_;exact⟨⟨⟨z,rfl⟩,⟨z,rfl,h2,fun b hb=>(h3 b hb).imp id fun h=>zm hb'.1.1.size h⟩⟩,h1⟩
   rintro _ ⟨z,rfl⟩
   conv=>arg 10;simp only[Act.put,zq0,zq1,zq2]
   refine Go.FreshG.wpF_nil (fun w6 hC1 hF=>?_);obtain⟨z',ez,hZ1,hZ2⟩:=hF 15;obtain rfl:z=z':=PV.inj ez;have HZ1:=qh hZ1;have HZ2:=qh hZ2;have HG6:=qh hC1.1;clear hF hC1 hZ1 hZ2 ez;have hc:=HC.o;have hc2:=HC2.o;have hc3:=HC3.o;have ek:=HEK.o
   have HR9:=qh (show RC W g d li (P.take j++[(t.m,q)]) (fun k=>if k=t.m.at li then z else Z k) (w6.setCell ⟨g,t.m.at li,none⟩ z.v) from
    HR.o.push HCD.o HGW.o HLM.o (by rw[<- HZV.o];exact HER.o) HZ1.o (by rw[<- HZV.o];exact HG6.o.1) (by rw[<- HZV.o];exact HZ2.o))
   have hrg:=(HR.o.row.of_block (HG6.o.1.block g HR.o.row.lt fun e=>by
    have h2:=HGC.o WV (GR.refl _ _ _ _ _ _);obtain⟨c,h3,_⟩:=HR.o.row
    rcases HER.o.row.2 with ⟨hv,_⟩ | ⟨g',cap,cur,hv,_,hg',_⟩
    ·rw[hv] at e;cases e
    ·rw[hv] at e;have e:some g=some g':=e
     injection e with e
     rw[e,hg'] at h3
     cases h3))
   have hgf:=hrg.frozen (t.m.at li);have hgl:=hrg.lt;have hgc:=hrg.cell (i:=t.m.at li) (by have:=HCD.o;omega);obtain⟨za,zn,zc⟩:=z;clear hrg;go_wp2_with fail
   go_roundw
   case rel =>
    refine⟨j+1,(fun k=>if k=t.m.at li then ⟨za,zn,zc⟩ else Z k),HJN.o,rfl,?_⟩;rw[List.take_add_one,HTP.o];exact HR9.o
   case measure=>simp[intOf];have:=HJN.o;omega
  ·have HJE:=qh (show j=yn by have:=HJ.o;omega)
   have hge:¬((j:Int)<(yn:Int)):=by omega
   clear hjn;go_wp2_with fail
   go_ret;have hall:P.take j=P:=List.take_of_length_le (by rw[HJE.o,HPL.o];exact zj);have hR:=HR.o;rw[hall] at hR;refine⟨g,d+1,Z,rfl,by rw[<- HD.o];rfl,hR.row,fun k hk=>?_,KG.o.trans (hR.bel.mono KG.o.size)⟩;obtain⟨L,h1,h2⟩:=hR.er k (by omega)
   exact EP.k ⟨⟨L,h1,h2⟩,coefP_canon HCA.o li k,fun u hu=>by
    obtain⟨s,hs,rfl⟩:=List.mem_map.1 hu
    exact cut_small (HSM.o s (List.mem_filter.1 hs).1) li⟩
end Pol
namespace Book
open Go.RowKit Go.Sort Go.FreshG Limb Pol
structure DPL (w:World) (lo:Nat) (x:PV) (P:List Tm) (L:List TE):Prop where
 row:OT w lo x.v (L.map Prod.fst)
 num:∀ e∈L,DF w lo e.1.c e.2
 ap:L.Pairwise (fun e f=>FV.apart e.1.c f.1.c)
 val:L.map tm=P
theorem DPL.rows {w w':World} {lo:Nat} {x:PV} {P:List Tm} {L:List TE} (h:DPL w lo x P L) (hs:∀ (b:Nat) (c:Array Value) (T:TypeId),w.heap[b]?=some (.cells c T (0,0))->rowT T=true->w'.heap[b]?=w.heap[b]?):DPL w' lo x P L:=by
 obtain⟨h1,h2,h3,h4⟩:=h;refine⟨⟨h1.1,h1.2.imp id ?_⟩,fun e he=>(h2 e he).kept fun b hb=>?_,h3,h4⟩
 ·rintro⟨g,cap,cur,hv,hlo,hgk,h3⟩;exact⟨g,cap,cur,hv,hlo,(hs g _ _ hgk rfl).trans hgk,h3⟩
 ·obtain⟨cur,h5⟩:=DF.blkc (h2 e he) hb;exact hs b _ _ h5 rfl
theorem DPL.ps {w:World} {lo:Nat} {x:PV} {P:List Tm} {L:List TE} (h:DPL w lo x P L) (hl:∀ t∈P,LQ t.2 900000) (hn:P.length<=10000):PS w lo x (L.map Prod.fst) (Bw lo w.heap.size):=by
 obtain⟨h1,h2,h3,h4⟩:=h;obtain⟨xa,xn,xc⟩:=x;obtain⟨a',c',e,hc,hr⟩:=OT.slice h1;change Value.slice xa xn xc=_ at e
 injection e with e1 e2 e3
 subst e1 e3
 have hxn:xn=P.length:=by rw[<- h4,List.length_map,e2,List.length_map]
 obtain⟨o,ho⟩:=OT.ownT (n:=xn) h1 zj;refine⟨hr,e2.symm,fun q hq=>?_⟩;have hq:q+2*xn<=30000:=hq
 have hh:=terms_hg (q:=q) (fun t ht=>by
  obtain⟨e,he,rfl⟩:=List.mem_map.1 ht
  exact DF.town (h2 e he) (hl (e.1.m,e.2) (by rw[<- h4];exact List.mem_map.2 ⟨e,he,rfl⟩))) (List.pairwise_map.2 h3) ho (by omega) (by rw[<- e2];omega)
 rw[<- e2] at hh;exact hh
def Born (w:World) (lo hi:Nat) (x:PV) (P:List Tm):Prop:=Canon P/\(∀ t∈P,t.1.Small)/\∃ (u:World) (L:List TE),u.heap.size=hi/\DPL u lo x P L/\∀ (b:Nat) (c:Array Value) (T:TypeId),u.heap[b]?=some (.cells c T (0,0))->rowT T=true->w.heap[b]?=u.heap[b]?
theorem Born.new {w:World} {lo:Nat} {x:PV} {P:List Tm} (h:DP w lo x P):Born w lo w.heap.size x P:=by
 obtain⟨L,h1,h2,h3,h4⟩:=h.ex;exact⟨h.canon,h.small,w,L,rfl,⟨h1,h2,h3,h4⟩,fun _ _ _ _ _=>rfl⟩
theorem Born.rows {w w':World} {lo hi:Nat} {x:PV} {P:List Tm} (h:Born w lo hi x P) (hs:∀ (b:Nat) (c:Array Value) (T:TypeId),w.heap[b]?=some (.cells c T (0,0))->rowT T=true->w'.heap[b]?=w.heap[b]?):Born w' lo hi x P:=by
 obtain⟨hc,hsm,u,L,h1,h2,h3⟩:=h;exact⟨hc,hsm,u,L,h1,h2,fun b c T hb hT=>(hs b c T ((h3 b c T hb hT).trans hb) hT).trans (h3 b c T hb hT)⟩
theorem Born.below {w w':World} {lo hi:Nat} {x:PV} {P:List Tm} (h:Born w lo hi x P) (hb:Below w.heap.size w w'):Born w' lo hi x P:=h.rows fun b _ _ h1 _=>hb.block b (lt_of_block h1)
structure Sep (w:World) (lo:Nat) (zs:List (PV × List Tm)):Prop where
 ex:∃ A B:Nat->Nat,(∀ i z,zs[i]?=some z->lo<=A i/\A i<=B i/\B i<=w.heap.size/\Born w (A i) (B i) z.1 z.2)/\∀ i j,i<zs.length->j<zs.length->i≠j->B i<=A j\/B j<=A i
theorem Sep.rows {w w':World} {lo:Nat} {zs:List (PV × List Tm)} (h:Sep w lo zs) (hw:w.heap.size<=w'.heap.size) (hs:∀ (b:Nat) (c:Array Value) (T:TypeId),w.heap[b]?=some (.cells c T (0,0))->rowT T=true->w'.heap[b]?=w.heap[b]?):Sep w' lo zs:=by
 obtain⟨A,B,h1,h2⟩:=h.ex;refine⟨A,B,fun i z hz=>?_,h2⟩;obtain⟨g1,g2,g3,g4⟩:=h1 i z hz;exact⟨g1,g2,zm g3 hw,g4.rows hs⟩
theorem Sep.below {w w':World} {lo:Nat} {zs:List (PV × List Tm)} (h:Sep w lo zs) (hb:Below w.heap.size w w'):Sep w' lo zs:=h.rows hb.size fun b _ _ h1 _=>hb.block b (lt_of_block h1)
theorem Sep.set {w w':World} {lo:Nat} {zs:List (PV × List Tm)} (h:Sep w lo zs) (hb:Below w.heap.size w w') (hlo:lo<=w.heap.size) (i:Nat) {x:PV} {P:List Tm} (hx:DP w' w.heap.size x P):Sep w' lo (zs.set i (x,P)):=by
 obtain⟨A,B,h1,h2⟩:=(h.below hb).ex;obtain⟨A0,B0,h3,h4⟩:=h.ex;clear h1 h2;refine⟨fun k=>if k=i then w.heap.size else A0 k,fun k=>if k=i then w'.heap.size else B0 k,fun k z hz=>?_,fun k j hk hj hne=>?_⟩
 ·by_cases hki:k=i
  ·subst hki
   have hkl:k<zs.length:=by have:=(List.getElem?_eq_some_iff.1 hz).1;rwa [List.length_set] at this
   rw[List.getElem?_set_self hkl] at hz
   cases hz
   simp only[if_true];exact⟨hlo,hb.size,zj,Born.new hx⟩
  ·rw[List.getElem?_set_ne (Ne.symm hki)] at hz;obtain⟨g1,g2,g3,g4⟩:=h3 k z hz;simp only[if_neg hki];exact⟨g1,g2,zm g3 hb.size,g4.below hb⟩
 ·rw[List.length_set] at hk hj
  have e1:∀ k,k<zs.length->B0 k<=w.heap.size:=fun k hk=>(h3 k _ (List.getElem?_eq_getElem hk)).2.2.1
  by_cases hki:k=i
  ·by_cases hji:j=i
   ·omega
   ·simp only[if_pos hki,if_neg hji];exact Or.inr (e1 j hj)
  ·by_cases hji:j=i
   ·simp only[if_pos hji,if_neg hki];exact Or.inl (e1 k hk)
   ·simp only[if_neg hki,if_neg hji];exact h4 k j hk hj hne
end Book
namespace Pol
open Go.RowKit Go.Sort Limb
theorem SA.lq {w:World} {x:PV} {P:List Tm} {ok:Bool} {n k e m:Nat} (h:SA w x P ok n k e) (hm:k<=m):∀ t∈P,LQ t.2 m:=fun t ht=>(h.b.lq zj t ht).up hm
theorem twin_sa {w:World} {x:PV} {P:List Tm} {ok:Bool} {n k e:Nat} (h:SA w x P ok n k e) (hk:k<=900000) :
  Calls Tryz.prog 7 #[x.v] w fun en w'=>∃ y:PV,en=.returned y.v/\y.n=x.n/\SA w' y P ok n k e/\Tw2 w w' w.heap.size y x/\Below w.heap.size w w':=by
 have hl:=h.le;have hb:=h.b;have hq:=h.lq hk
 rcases h.h with ⟨e1,hx⟩ | ⟨e1,hx,e2⟩
 ·exact(twin_k x P w hx hq hl).mono fun en w' ⟨y,g1,g2,g3,g4,g5⟩=>⟨y,g1,g2,⟨Or.inl ⟨e1,g3⟩,hb,by omega⟩,g4,g5⟩
 ·exact(twin_b x w hx hl).mono fun en w' ⟨y,g1,g2,g3,g4,g5⟩=>⟨y,g1,g2,⟨Or.inr ⟨e1,g3,e2⟩,hb,by omega⟩,g4,g5⟩
open Book
def zeroF:FV:=⟨⟨false,none,0,0⟩,⟨false,none,0,0⟩⟩
def DO (w:World) (lo:Nat) (x:FV):Option Rat->Prop
 | some q=>DF w lo x q
 | none=>x=zeroF
def EO (w:World) (lo:Nat) (x:FV):Option Rat->Prop
 | some q=>EF w lo x q
 | none=>x=zeroF
def LO:Option Rat->Prop
 | some q=>LQ q 900000
 | none=>True
theorem DO.below {w w':World} {lo:Nat} {x:FV} {o:Option Rat} (h:DO w lo x o) (hb:Below w.heap.size w w'):DO w' lo x o:=by
 cases o with
 | some q=>exact DF.below h hb
 | none=>exact h
theorem EO.below {w w':World} {lo:Nat} {x:FV} {o:Option Rat} (h:EO w lo x o) (hb:Below w.heap.size w w'):EO w' lo x o:=by
 cases o with
 | some q=>exact EF.below h hb
 | none=>exact h
theorem zero_town (w:World) (lo:Nat):TOwn w lo zeroF :=
 ⟨⟨fun _=>0,⟨zj,Or.inl ⟨rfl,rfl,rfl⟩,fun i h=>absurd h (Nat.not_lt_zero _)⟩⟩,⟨fun _=>0,⟨zj,Or.inl ⟨rfl,rfl,rfl⟩,fun i h=>absurd h (Nat.not_lt_zero _)⟩⟩,(fun p q hp _=>by cases hp),by decide⟩
theorem DO.gf {w:World} {lo:Nat} {x:FV} {o:Option Rat} (h:DO w lo x o) (hl:LO o) (hw:lo<=w.heap.size) {q:Nat} (hq:q+1<=30000):GF w x q lo w.heap.size:=by
 cases o with
 | some r=>exact(DF.town h hl).gf hw hq
 | none=>rw[show x=zeroF from h];exact(zero_town _ _).gf hw hq
theorem same_zero (w:World):Calls Tryz.prog 41 #[.agg #[.bool false,.slice none 0 0,.bool false,.slice none 0 0],.agg #[.bool false,.slice none 0 0,.bool false,.slice none 0 0]] w fun e w'=>e=.returned (.bool true)/\Below w.heap.size w w':=by
 have KG:=qh (Below.refl w.heap.size w);go_enter Tryz.func41,Tryz.ntmps41
 go_upto_region 1 with (fail)
 obtain⟨v3,hV⟩:∃ V,V=(w.alloc (.cells #[.bool false,.slice none 0 0,.bool false,.slice none 0 0] 32)).alloc (.cells #[.bool false,.slice none 0 0,.bool false,.slice none 0 0] 32):=⟨_,rfl⟩
 have hbV:Below w.heap.size w v3:=by rw[hV];exact((zk.alloc zj _).alloc (by go_size) _)
 have BX1:=qh (show Bxs v3 (w.heap.size) 32 [.bool false,.slice none 0 0,.bool false,.slice none 0 0] by have h:=(Bxs.new (w) 32 [.bool false,.slice none 0 0,.bool false,.slice none 0 0]).alloc (.cells #[.bool false,.slice none 0 0,.bool false,.slice none 0 0] 32);rw[hV];exact h);have BX2:=qh (show Bxs v3 (w.heap.size+1) 32 [.bool false,.slice none 0 0,.bool false,.slice none 0 0] by have h:=Bxs.new (w.alloc (.cells #[.bool false,.slice none 0 0,.bool false,.slice none 0 0] 32)) 32 [.bool false,.slice none 0 0,.bool false,.slice none 0 0];simp only[World.size_alloc] at h;rw[hV];exact h);rw[show(w.alloc (.cells #[.bool false,.slice none 0 0,.bool false,.slice none 0 0] 32)).alloc (.cells #[.bool false,.slice none 0 0,.bool false,.slice none 0 0] 32)=v3 from hV.symm];have KG:=qk KG hbV;clear hV hbV;have cBX10:=BX1.o.ce 0;have cBX11:=BX1.o.ce 1;have cBX12:=BX1.o.ce 2;have cBX13:=BX1.o.ce 3;have cBX1f:=BX1.o.fz;have cBX1l:=BX1.o.lt;have cBX20:=BX2.o.ce 0;have cBX21:=BX2.o.ce 1;have cBX22:=BX2.o.ce 2;have cBX23:=BX2.o.ce 3;have cBX2f:=BX2.o.fz;have cBX2l:=BX2.o.lt;go_wp2_with fail
 have CT:=qh (sameN (kn0 v3) (Nat.zero_le _) (kn0 _) (Nat.zero_le _));rw[show decide ((0:Int)=0)=true from rfl] at CT;with_reducible refine CT.o.mono ?_
 rintro e w4 ⟨rfl,hb⟩;clear CT;clear cBX10 cBX11 cBX12 cBX13 cBX1f cBX1l;clear cBX20 cBX21 cBX22 cBX23 cBX2f cBX2l;have BX1:=qh (BX1.o.bl hb);have BX2:=qh (BX2.o.bl hb);have KG:=qk KG hb;clear hb;have cBX10:=BX1.o.ce 0;have cBX11:=BX1.o.ce 1;have cBX12:=BX1.o.ce 2;have cBX13:=BX1.o.ce 3;have cBX1f:=BX1.o.fz;have cBX1l:=BX1.o.lt;have cBX20:=BX2.o.ce 0;have cBX21:=BX2.o.ce 1;have cBX22:=BX2.o.ce 2;have cBX23:=BX2.o.ce 3;have cBX2f:=BX2.o.fz;have cBX2l:=BX2.o.lt;go_wp2_with fail
 have CT:=qh (sameN (kn0 w4) (Nat.zero_le _) (kn0 _) (Nat.zero_le _));rw[show decide ((0:Int)=0)=true from rfl] at CT;with_reducible refine CT.o.mono ?_
 rintro e w5 ⟨rfl,hb⟩;clear CT;clear cBX10 cBX11 cBX12 cBX13 cBX1f cBX1l;clear cBX20 cBX21 cBX22 cBX23 cBX2f cBX2l;clear BX1;clear BX2;have KG:=qk KG hb;clear hb;go_wp2_with fail
 go_ret;exact⟨rfl,KG.o⟩
theorem DO.same {w:World} {lo lo2:Nat} {x y:FV} {o:Option Rat} (h:DO w lo x o) (k:EO w lo2 y o) (hl:LO o) :
  Calls Tryz.prog 41 #[x.v,y.v] w fun e w'=>e=.returned (.bool true)/\Below w.heap.size w w':=by
 cases o with
 | some q =>
  have hl2:LQ q 900000:=hl;have h2:=qsameFrD (DF.k h) ((DF.k h).len hl2 zj) (EF.k k) ((EF.k k).len hl2 zj)
  rwa [decide_eq_true rfl] at h2
 | none=>rw[show x=zeroF from h,show y=zeroF from k];exact same_zero w
theorem SA.kpn {w:World} {x:PV} {P:List Tm} {ok:Bool} {n k e:Nat} (h:SA w x P ok n k e) (hne:P≠[]):KP w x P:=h.h.elim (fun h=>h.2) fun h=>absurd h.2.2 hne
theorem SA.l9 {w:World} {x:PV} {P:List Tm} {ok:Bool} {n k e:Nat} (h:SA w x P ok n k e) (hk:k<=10):∀ t∈P,LQ t.2 900000:=fun t ht=>(h.b.b.lq t ht).up (by omega)
theorem both_lead {w:World} {x:PV} {P:List Tm} {ok:Bool} {n k e:Nat} (o:Int) (hx:SA w x P ok n k e) (he:e<=65535) (hk:k<=10) (hn:n<=1000000) :
  ∃ (m:Mo) (r:Option Rat) (b:Bool),LO r /\
   (∀ (W:World) (a:PV),SA W a P ok n k e->Calls Tryz.prog 8 #[.int .u8 o,a.v] W fun e w'=>∃ y:FV,e=.returned (.tuple #[TV.v ⟨y,m⟩,.bool b])/\DO w' W.heap.size y r/\Below W.heap.size W w') /\
   ∀ (W:World) (a:PV),SA W a P ok n k e->Calls Tryz.prog 9 #[.int .u8 o,a.v] W fun e w'=>∃ y:FV,e=.returned (.tuple #[TV.v ⟨y,m⟩,.bool b])/\EO w' W.heap.size y r/\Below W.heap.size W w':=by
 by_cases hne:P=[]
 ·subst hne;refine⟨⟨0,0,0,0⟩,none,false,trivial,fun W a ha=>?_,fun W a ha=>?_⟩
  ·exact(lead_nil o a W ha.ap ha.le).mono fun e w' ⟨h1,h2⟩=>⟨zeroF,h1,rfl,h2⟩
  ·exact(rlead_nil o a W ha.ap ha.le).mono fun e w' ⟨h1,h2⟩=>⟨zeroF,h1,rfl,h2⟩
 ·obtain⟨t,hl⟩:=lead_ex (keyO o) hne;have hb:=hx.b
  have hsm:∀ t∈P,t.1.le 65535:=fun t ht=>(hb.b.ex t ht).up he
  refine⟨t.1,some t.2,true,(hb.b.lq _ hl.1).up (by omega),fun W a ha=>?_,fun W a ha=>?_⟩
  ·refine(plead o (ha.kpn hne) ha.b (by omega) hn hne).mono fun e w' ⟨y,t2,h1,h2,h3,h4⟩=>?_
   obtain rfl:=lead_uniq (keyO_key o) hb.c hsm h3 hl;exact⟨y,h1,h2,h4⟩
  ·refine(rlead_any o a P W ha.ap (ha.l9 hk) ha.le hne).mono fun e w' ⟨y,t2,h1,h2,h3,h4⟩=>?_
   obtain rfl:=lead_uniq (keyO_key o) hb.c hsm h3 hl;exact⟨y,h1,h2,h4⟩
theorem both_degree {P:List Tm} {ok:Bool} {n k e:Nat} (l:Int) (hk:k<=10) :
  ∃ D:Int,(∀ (W:World) (a:PV),SA W a P ok n k e->Calls Tryz.prog 12 #[a.v,.int .i64 l] W fun e w'=>e=.returned (.int .i64 D)/\Below W.heap.size W w') /\
   ∀ (W:World) (a:PV),SA W a P ok n k e->Calls Tryz.prog 13 #[a.v,.int .i64 l] W fun e w'=>e=.returned (.int .i64 D)/\Below W.heap.size W w':=by
 by_cases h:l<0\/4<=l
 ·exact⟨-1,fun W a ha=>degree_out a l h W,fun W a ha=>rdegree_out a P l h W ha.ap (ha.l9 hk) ha.le⟩
 ·obtain⟨j,rfl⟩:∃ j:Nat,l=(j:Int):=⟨l.toNat,by omega⟩
  have hj:j<4:=by omega
  exact⟨degP P j,fun W a ha=>degree_k j hj a P W ha.ap (ha.l9 hk) ha.le,fun W a ha=>rdegree_k j hj a P W ha.ap (ha.l9 hk) ha.le⟩
theorem coefs_out (x:PV) (l:Int) (hl:l<0\/4<=l) (w:World):Calls Tryz.prog 10 #[x.v,.int .i64 l] w fun e w'=>e=.returned (.slice none 0 0)/\Below w.heap.size w w':=by
 have DG:=qh (degree_out x l hl w);obtain⟨xa,xn,xc⟩:=x;change Calls Tryz.prog 10 #[.slice xa xn xc,.int .i64 l] w _;clear hl;go_enter Tryz.func10,Tryz.ntmps10;go_wp2_with fail
 with_reducible refine DG.o.mono ?_
 rintro e w1 ⟨rfl,hb⟩;go_wp2_with fail
 go_ret;exact⟨rfl,hb⟩
def CSep (w:World) (lo:Nat) (P:List Tm) (i:Nat) (Zs:List PV) (Ds:Nat->List TE):Prop :=
 (∀ k z,Zs[k]?=some z->CZ w lo z (coefP P i k) (Ds k))/\∀ (k l:Nat) (z y:PV),k<l->Zs[k]?=some z->Zs[l]?=some y->(∀ p q:Addr,z.a=some p->y.a=some q->p.block≠q.block)/\∀ e∈Ds k,∀ f∈Ds l,FV.apart e.1.c f.1.c
theorem CSep.below {w w':World} {lo:Nat} {P:List Tm} {i:Nat} {Zs:List PV} {Ds:Nat->List TE} (h:CSep w lo P i Zs Ds) (hb:Below w.heap.size w w'):CSep w' lo P i Zs Ds:=⟨fun k z hk=>(h.1 k z hk).below hb,h.2⟩
theorem RS.of_rowIs {w:World} {g n:Nat} {Z:Nat->PV} (h:w.rowIs g 23 n (fun k=>(Z k).v)):RS w (some ⟨g,0,none⟩) ((List.range n).map Z):=by
 refine⟨fun _=>⟨g,0,rfl,fun i p hi=>?_⟩⟩;rw[List.getElem?_map] at hi;obtain⟨j,hj,rfl⟩:=Option.map_eq_some_iff.1 hi;have hl:=(List.getElem?_eq_some_iff.1 hj).1;rw[List.length_range] at hl;rw[List.getElem?_range hl] at hj
 cases hj
 rw[Nat.zero_add];exact h.cell hl
theorem both_coefs {P:List Tm} {ok:Bool} {n k e:Nat} (l:Int) (hk:k<=10) (hb:PC P n k e) :
  ∃ (i N:Nat),N<=e+1 /\
   (∀ (W:World) (a:PV),SA W a P ok n k e->Calls Tryz.prog 10 #[a.v,.int .i64 l] W fun e w'=>∃ (v:PV) (Zs:List PV) (Ds:Nat->List TE),e=.returned v.v/\v.n=N/\Zs.length=N/\OC w' W.heap.size v.v Zs/\CSep w' W.heap.size P i Zs Ds/\Below W.heap.size W w') /\
   ∀ (W:World) (a:PV),SA W a P ok n k e->Calls Tryz.prog 15 #[a.v,.int .i64 l] W fun e w'=>∃ (g:Nat) (ys:List PV),e=.returned (.slice (some ⟨g,0,none⟩) N N)/\ys.length=N/\RS w' (some ⟨g,0,none⟩) ys/\(∀ k y,ys[k]?=some y->KP w' y (coefP P i k))/\Below W.heap.size W w':=by
 by_cases h:l<0\/4<=l
 ·refine⟨0,0,Nat.zero_le _,fun W a ha=>?_,fun W a ha=>?_⟩
  ·exact(coefs_out a l h W).mono fun e w' ⟨h1,h2⟩=>⟨⟨none,0,0⟩,[],fun _=>[],h1,rfl,rfl,World.ownsRow_nil _ _ _ _,⟨fun k z h=>(by simp at h),fun k l z y _ h=>(by simp at h)⟩,h2⟩
  ·exact(rcoefs_none a P l W ha.ap (ha.l9 hk) ha.le fun y V hy hyn=>rdegree_out y P l h V hy (ha.l9 hk) hyn).mono fun e w' ⟨g,h1,h2⟩=>⟨g,[],h1,rfl,RS.nil _ _,fun k y h=>(by simp at h),h2⟩
 ·obtain⟨j,rfl⟩:∃ j:Nat,l=(j:Int):=⟨l.toNat,by omega⟩
  have hj:j<4:=by omega
  have hown:∀ (W:World) (a:PV) (N:Nat),(N:Int)=degP P j+1->SA W a P ok n k e->Calls Tryz.prog 10 #[a.v,.int .i64 (j:Int)] W fun e w'=>∃ (v:PV) (Zs:List PV) (Ds:Nat->List TE),e=.returned v.v/\v.n=N/\Zs.length=N/\OC w' W.heap.size v.v Zs/\CSep w' W.heap.size P j Zs Ds/\Below W.heap.size W w':=fun W a N hN ha=>by
   refine(coefs_s j hj a P k W ha.ap (fun t ht=>ha.b.b.lq t ht) ha.le (by omega)).mono fun e w' ⟨v,Zs,Ds,h1,h2,h3,h4,h5,h6⟩=>?_
   have hl:Zs.length=N:=by omega
   obtain⟨va,vc,hv⟩:∃ va vc,v=.slice va Zs.length vc:=by
    rcases h2.2 with ⟨hv,h0⟩ | ⟨g,cap,cur,hv,_⟩
    ·exact⟨none,0,by rw[hv,h0]⟩
    ·exact⟨_,cap,hv⟩
   subst hv;exact⟨⟨va,Zs.length,vc⟩,Zs,Ds,h1,hl,hl,h2,⟨h4,h5⟩,h6⟩
  by_cases hne:P=[]
  ·subst hne;refine⟨j,0,Nat.zero_le _,fun W a ha=>hown W a 0 rfl ha,fun W a ha=>?_⟩
   exact(rcoefs_none a [] (j:Int) W ha.ap (ha.l9 hk) ha.le fun y V hy hyn=>rdegree_k j hj y [] V hy (ha.l9 hk) hyn).mono fun e w' ⟨g,h1,h2⟩=>⟨g,[],h1,rfl,RS.nil _ _,fun k y h=>(by simp at h),h2⟩
  ·obtain⟨t,ht,hd⟩:=degP_has hne j
   have hat:t.1.at j<=e:=by
    have h1:=hb.b.ex t ht;obtain⟨g1,g2,g3,g4⟩:=h1;unfold Mo.at;split
    ·exact g1
    ·split
     ·exact g2
     ·split
      ·exact g3
      ·exact g4
   refine⟨j,t.1.at j+1,by omega,fun W a ha=>hown W a _ (by rw[hd];rfl) ha,fun W a ha=>?_⟩
   refine(rcoefs_k j hj a P W ha.ap (ha.l9 hk) ha.le hne).mono fun e w' ⟨g,N,Z,h1,h2,h3,h4,h5⟩=>?_
   obtain rfl:N=t.1.at j+1:=by omega
   refine⟨g,(List.range (t.1.at j+1)).map Z,h1,by rw[List.length_map,List.length_range],RS.of_rowIs h3,fun k y hy=>?_,h5⟩;rw[List.getElem?_map] at hy;obtain⟨i,hi,rfl⟩:=Option.map_eq_some_iff.1 hy;have hl:=(List.getElem?_eq_some_iff.1 hi).1;rw[List.length_range] at hl;rw[List.getElem?_range hl] at hi
   cases hi
   exact h4 _ hl
theorem OC.rs {w:World} {lo:Nat} {v:Value} {Zs:List PV} (h:OC w lo v Zs):∃ a c,v=.slice a Zs.length c/\RS w a Zs:=by
 rcases h.2 with ⟨hv,h0⟩ | ⟨g,cap,cur,hv,_⟩
 ·have hz:Zs=[]:=List.length_eq_zero_iff.1 h0;subst hz;exact⟨none,0,hv,RS.nil _ _⟩
 ·refine⟨some ⟨g,0,none⟩,cap,hv,⟨fun _=>⟨g,0,rfl,fun i p hi=>?_⟩⟩⟩;have h1:=World.ownsRow.cells h (g:=g) (by rw[hv];rfl) i p.v (by rw[List.getElem?_map,hi];rfl);rwa [Addr.add_lit] at h1
theorem OT.noNum {w:World} {lo:Nat} {z:PV} {ts:List TV} (h:OT w lo z.v ts) {p:Addr} (hp:z.a=some p) {cur:Array Value} (h3:w.heap[p.block]?=some (.cells cur 128 (0,0))):False:=by
 rcases h.2 with ⟨hv,_⟩ | ⟨g,cap,cur2,hv,_,hg,_⟩
 ·injection hv with h1
  rw[hp] at h1
  cases h1
 ·injection hv with h1
  rw[hp] at h1
  cases h1
  rw[hg] at h3;simp at h3
def Blk (z:PV) (D:List TE) (b:Nat):Prop:=(∃ p:Addr,z.a=some p/\p.block=b)\/∃ e∈D,FV.blk e.1.c b
theorem termsL_in:∀ (ts:List TV) (q:Nat) (x:HL),x∈termsL ts q->∃ t∈ts,x.a=t.c.t.a\/x.a=t.c.l.a
 | [],_,x,h=>by cases h
 | t :: r,q,x,h=>by
  rcases List.mem_cons.1 h with rfl | h
  ·exact⟨t,List.mem_cons_self ..,Or.inl rfl⟩
  ·rcases List.mem_cons.1 h with rfl | h
   ·exact⟨t,List.mem_cons_self ..,Or.inr rfl⟩
   ·obtain⟨u,hu,h2⟩:=termsL_in r (q+2) x h;exact⟨u,List.mem_cons_of_mem _ hu,h2⟩
theorem CZ.ps {w:World} {lo:Nat} {z:PV} {P:List Tm} {D:List TE} (h:CZ w lo z P D) (hl:∀ t∈P,LQ t.2 900000) (hn:P.length<=10000):PS w lo z (D.map Prod.fst) (Blk z D):=by
 have g:=DPL.ps (x:=z) (P:=P) (L:=D) ⟨h.row,h.df,h.ap,h.val⟩ hl hn;refine⟨g.rt,g.len,fun q hq=>?_⟩;have k:=g.hg q hq;refine⟨k.num,k.row,fun x hx p hp=>?_,k.nq,k.al,k.am⟩
 rcases List.mem_append.1 hx with hx | hx
 ·obtain⟨t,ht,h2⟩:=termsL_in _ _ x hx;obtain⟨e,he,rfl⟩:=List.mem_map.1 ht;refine Or.inr ⟨e,he,?_⟩
  rcases h2 with h2 | h2
  ·exact Or.inl ⟨p,h2▸hp,rfl⟩
  ·exact Or.inr ⟨p,h2▸hp,rfl⟩
 ·rw[List.mem_singleton.1 hx] at hp;exact Or.inl ⟨p,hp,rfl⟩
theorem CZ.in_ {w:World} {lo:Nat} {z:PV} {P:List Tm} {D:List TE} (h:CZ w lo z P D) {b:Nat} (hb:Blk z D b):lo<=b/\b<w.heap.size:=by
 rcases hb with ⟨p,hp,rfl⟩ | ⟨e,he,hb⟩
 ·exact OT.blk h.row hp
 ·exact(h.df e he).blks b hb
theorem cntQ_le {K:Nat}:∀ (l:List PT),(∀ e∈l,e.1.n<=K)->cntQ l<=(2*K+1)*l.length
 | [],_=>Nat.zero_le _
 | e :: r,h=>by
  have h1:=cntQ_le r fun x hx=>h x (List.mem_cons_of_mem _ hx)
  have h2:=h e (List.mem_cons_self ..);show 2*e.1.n+1+cntQ r<=(2*K+1)*(r.length+1);rw[Nat.mul_succ];omega
theorem CSep.gq {w:World} {lo q:Nat} {P:List Tm} {i:Nat} {v:PV} {Zs:List PV} {Ds:Nat->List TE} (ho:OC w lo v.v Zs) (h:CSep w lo P i Zs Ds) (hl:∀ t∈P,LQ t.2 900000) (hn:P.length<=40) (hz:Zs.length<=301) (hlo:lo<=w.heap.size) (hq:q<=4000) :
  ∃ es:List PT,es.length=Zs.length/\GQ w v.a es q lo w.heap.size/\cntQ es<=24381:=by
 have hzn:∀ (k:Nat) (z:PV),Zs[k]?=some z->z.n<=40:=fun k z hk=>by
  have h1:=(h.1 k z hk).row;obtain⟨a,c,e,-,-⟩:=OT.slice h1;have h2:=(h.1 k z hk).val;have h3:=congrArg List.length h2;rw[List.length_map] at h3;rw[List.length_map] at e
  injection e with _ e _
  rw[e,h3];refine zm ?_ hn;unfold coefP;rw[List.length_map];exact List.length_filter_le ..
 let es:List PTS:=(List.range Zs.length).map fun k=>((Zs.getD k ⟨none,0,0⟩,(Ds k).map Prod.fst),Blk (Zs.getD k ⟨none,0,0⟩) (Ds k))
 have hget:∀ (k:Nat) (e:PTS),es[k]?=some e->∃ z,Zs[k]?=some z/\e=((z,(Ds k).map Prod.fst),Blk z (Ds k)):=fun k e hk=>by
  rw[List.getElem?_map] at hk;obtain⟨j,hj,rfl⟩:=Option.map_eq_some_iff.1 hk;have hl:=(List.getElem?_eq_some_iff.1 hj).1;rw[List.length_range] at hl;rw[List.getElem?_range hl] at hj
  cases hj
  refine⟨Zs[k],List.getElem?_eq_getElem hl,?_⟩;rw[List.getD_eq_getElem?_getD,List.getElem?_eq_getElem hl];rfl
 have hmem:∀ e∈es,∃ (k:Nat) (z:PV),Zs[k]?=some z/\e=((z,(Ds k).map Prod.fst),Blk z (Ds k)):=fun e he=>by
  obtain⟨k,hk⟩:=List.mem_iff_getElem?.1 he;obtain⟨z,h1,h2⟩:=hget k e hk;exact⟨k,z,h1,h2⟩
 have hlen:es.length=Zs.length:=by show(List.map _ _).length=_;rw[List.length_map,List.length_range]
 have hcnt:cntQ (es.map Prod.fst)<=24381:=by
  have h1:=cntQ_le (K:=40) (es.map Prod.fst) fun e he=>by
   obtain⟨f,hf,rfl⟩:=List.mem_map.1 he;obtain⟨k,z,h1,rfl⟩:=hmem f hf;exact hzn k z h1
  rw[List.length_map,hlen] at h1;omega
 have hps:∀ e∈es,PS w lo e.1.1 e.1.2 e.2:=fun e he=>by
  obtain⟨k,z,h1,rfl⟩:=hmem e he;refine(h.1 k z h1).ps (coefP_lq hl i k) ?_;unfold coefP;rw[List.length_map];exact zm (List.length_filter_le ..) (by omega)
 have hrs:RS w v.a (es.map fun e=>e.1.1):=by
  have e1:(es.map fun e=>e.1.1)=Zs:=by
   apply List.ext_getElem?;intro k;rw[List.getElem?_map]
   cases hk:es[k]? with
   | none =>
    have h1:=List.getElem?_eq_none_iff.1 hk;rw[hlen] at h1;rw[List.getElem?_eq_none h1]
    rfl
   | some e =>
    obtain⟨z,h1,rfl⟩:=hget k e hk;rw[h1];rfl
  rw[e1];obtain⟨a,c,e,hr⟩:=ho.rs
  injection e with e _ _
  rw[e];exact hr
 have hfar:∀ p,v.a=some p->p.block<w.heap.size:=fun p hp=>(World.ownsRow.lt ho p.block (by show Value.ownBlock (.slice v.a v.n v.c)=_;rw[hp];rfl)).2
 refine⟨es.map Prod.fst,by rw[List.length_map,hlen],GQ.of es hrs hfar hps ?_ (fun e he b hb=>?_) (by omega) zj hlo,hcnt⟩
 ·rw[List.pairwise_iff_getElem];intro i1 j1 hi hj hij b hb1 hb2;obtain⟨z,h1,e1⟩:=hget i1 _ (List.getElem?_eq_getElem hi);obtain⟨y,h2,e2⟩:=hget j1 _ (List.getElem?_eq_getElem hj);rw[e1] at hb1;rw[e2] at hb2;obtain⟨g1,g2⟩:=h.2 i1 j1 z y hij h1 h2
  rcases hb1 with ⟨p,hp,rfl⟩ | ⟨e,he,hb1⟩
  ·rcases hb2 with ⟨p2,hp2,e3⟩ | ⟨f,hf,hb2⟩
   ·exact g1 p p2 hp hp2 e3.symm
   ·obtain⟨cur,h3⟩:=DF.blkc ((h.1 j1 y h2).df f hf) hb2;exact OT.noNum (h.1 i1 z h1).row hp h3
  ·rcases hb2 with ⟨p2,hp2,rfl⟩ | ⟨f,hf,hb2⟩
   ·obtain⟨cur,h3⟩:=DF.blkc ((h.1 i1 z h1).df e he) hb1;exact OT.noNum (h.1 j1 y h2).row hp2 h3
   ·exact g2 e he f hf b hb1 hb2
 ·obtain⟨k,z,h1,rfl⟩:=hmem e he;exact(h.1 k z h1).in_ hb
theorem DO.sameT {w:World} {lo lo2:Nat} {x y:FV} {r:Option Rat} {m:Mo} (h:DO w lo x r) (k:EO w lo2 y r) (hl:LO r):Calls Tryz.prog 11 #[TV.v ⟨x,m⟩,TV.v ⟨y,m⟩] w fun e w'=>e=.returned (.bool true)/\Below w.heap.size w w':=by
 obtain⟨V,hV⟩:∃ V,V=(w.alloc (.cells #[.bool x.t.s,.slice x.t.a x.t.n x.t.c,.bool x.l.s,.slice x.l.a x.l.n x.l.c,.int .u16 m.x,.int .u16 m.y,.int .u16 m.z,.int .u16 m.t] 37)).alloc (.cells #[.bool y.t.s,.slice y.t.a y.t.n y.t.c,.bool y.l.s,.slice y.l.a y.l.n y.l.c,.int .u16 m.x,.int .u16 m.y,.int .u16 m.z,.int .u16 m.t] 37):=⟨_,rfl⟩
 have hbV:Below w.heap.size w V:=by rw[hV];exact(zk.alloc zj _).alloc (by go_size) _
 have B1:=qh (show Bxs V w.heap.size 37 [.bool x.t.s,.slice x.t.a x.t.n x.t.c,.bool x.l.s,.slice x.l.a x.l.n x.l.c,.int .u16 m.x,.int .u16 m.y,.int .u16 m.z,.int .u16 m.t] by rw[hV];exact(Bxs.new w 37 [.bool x.t.s,.slice x.t.a x.t.n x.t.c,.bool x.l.s,.slice x.l.a x.l.n x.l.c,.int .u16 m.x,.int .u16 m.y,.int .u16 m.z,.int .u16 m.t]).alloc _)
 have B2:=qh (show Bxs V (w.heap.size+1) 37 [.bool y.t.s,.slice y.t.a y.t.n y.t.c,.bool y.l.s,.slice y.l.a y.l.n y.l.c,.int .u16 m.x,.int .u16 m.y,.int .u16 m.z,.int .u16 m.t] by
  have h:=Bxs.new (w.alloc (.cells #[.bool x.t.s,.slice x.t.a x.t.n x.t.c,.bool x.l.s,.slice x.l.a x.l.n x.l.c,.int .u16 m.x,.int .u16 m.y,.int .u16 m.z,.int .u16 m.t] 37)) 37 [.bool y.t.s,.slice y.t.a y.t.n y.t.c,.bool y.l.s,.slice y.l.a y.l.n y.l.c,.int .u16 m.x,.int .u16 m.y,.int .u16 m.z,.int .u16 m.t];rw[World.size_alloc] at h
  rw[hV];exact h)
 have KG:=qh hbV;have SF:=qh ((h.below hbV).same (k.below hbV) hl);have HV:=qh hV;have hqe:=eqM_run m m;rw[decide_eq_true (rfl:m=m)] at hqe;clear hV hbV h k hl;go_enter Tryz.func11,Tryz.ntmps11
 go_upto_region 1 with (fail)
 rw[show(w.alloc (.cells #[.bool x.t.s,.slice x.t.a x.t.n x.t.c,.bool x.l.s,.slice x.l.a x.l.n x.l.c,.int .u16 m.x,.int .u16 m.y,.int .u16 m.z,.int .u16 m.t] 37)).alloc (.cells #[.bool y.t.s,.slice y.t.a y.t.n y.t.c,.bool y.l.s,.slice y.l.a y.l.n y.l.c,.int .u16 m.x,.int .u16 m.y,.int .u16 m.z,.int .u16 m.t] 37)=V from HV.o.symm];have c10:=B1.o.ce 0;have c11:=B1.o.ce 1;have c12:=B1.o.ce 2;have c13:=B1.o.ce 3;have c14:=B1.o.ce 4;have c15:=B1.o.ce 5;have c16:=B1.o.ce 6;have c17:=B1.o.ce 7;have c20:=B2.o.ce 0;have c21:=B2.o.ce 1;have c22:=B2.o.ce 2;have c23:=B2.o.ce 3;have c24:=B2.o.ce 4;have c25:=B2.o.ce 5;have c26:=B2.o.ce 6;have c27:=B2.o.ce 7;go_wp2_with fail
 with_reducible refine SF.o.mono ?_
 rintro e w1 ⟨rfl,hb⟩;have KG:=qk KG hb;have B1:=qh (B1.o.bl hb);have B2:=qh (B2.o.bl hb);clear hb SF c10 c11 c12 c13 c14 c15 c16 c17 c20 c21 c22 c23 c24 c25 c26 c27;have c10:=B1.o.ce 0;have c11:=B1.o.ce 1;have c12:=B1.o.ce 2;have c13:=B1.o.ce 3;have c14:=B1.o.ce 4;have c15:=B1.o.ce 5;have c16:=B1.o.ce 6;have c17:=B1.o.ce 7;have c20:=B2.o.ce 0;have c21:=B2.o.ce 1;have c22:=B2.o.ce 2;have c23:=B2.o.ce 3;have c24:=B2.o.ce 4;have c25:=B2.o.ce 5;have c26:=B2.o.ce 6;have c27:=B2.o.ce 7;go_wp2_with fail
 go_ret;exact⟨rfl,KG.o⟩
theorem coefs_same {w:World} {lo g N vc i:Nat} {P:List Tm} {va:Option Addr} {Zs ys:List PV} {Ds:Nat->List TE} (ho:OW w lo (.slice va N vc) Zs) (h:CSep w lo P i Zs Ds) (hc:Canon P) (hl:∀ t∈P,LQ t.2 900000) (hn:P.length<=40) (hz:Zs.length=N) (hr:RS w (some ⟨g,0,none⟩) ys) (hy:ys.length=N)
  (hk:∀ k y,ys[k]?=some y->KP w y (coefP P i k)) (hN:N<=301) (c d:Nat):Calls Tryz.prog 14 #[.slice va N c,.slice (some ⟨g,0,none⟩) N d] w fun e w'=>e=.returned (.bool true)/\Below w.heap.size w w':=by
 obtain⟨a,c2,e,h2⟩:=OC.rs ho
 injection e with e _ _
 subst e
 refine samePolys_k va _ N c d Zs ys w h2 hr hz hy (by omega) fun k x y h3 h4=>⟨coefP P i k,((h.1 k x h3).dp (coefP_canon hc i k)).k,hk k y h4,coefP_lq hl i k,?_⟩
 unfold coefP;rw[List.length_map];exact zm (List.length_filter_le ..) (by omega)
theorem polysParts_law (x1:PV) (L1:List TO) (o n:Int) (w:World) (h1:RawQ w x1 L1) (_hn1:-9223372036854775808<=n) (_hn2:n<=9223372036854775807) :
  Calls Tryz.prog 3 #[.slice x1.a x1.n x1.c,.int .u8 o,.int .i64 n] w fun e w'=>e=.returned (.bool true)/\Below w.heap.size w w':=by
 have KG:=qh (Below.refl w.heap.size w);have N1:=qh h1;clear h1 _hn1 _hn2;go_enter Tryz.func3,Tryz.ntmps3;go_wp2_with fail
 obtain⟨w1,hV⟩:∃ V,V=w.alloc (.cells #[.slice x1.a x1.n x1.c] 23):=⟨_,rfl⟩
 have hb:Below w.heap.size w w1:=by rw[hV];exact zk.alloc zj _
 have BXG:=qh (show Bxs w1 w.heap.size 23 [.slice x1.a x1.n x1.c] by rw[hV];exact Bxs.new w 23 [.slice x1.a x1.n x1.c]);rw[<- hV];have KG:=qk KG hb;clear hV hb;have CT:=qh (show Calls Tryz.prog 5 #[.int .i64 40,.slice (some ⟨w.heap.size,0,none⟩) 1 1] w1 _ from great1P (m:=40) BXG.o (N1.o.below KG.o) (by decide));with_reducible refine CT.o.mono ?_
 rintro e w2 ⟨gb,rfl,hn,hb⟩;clear CT BXG;have KG:=qk KG hb;clear hb
 rcases Bool.eq_false_or_eq_true gb with rfl | rfl
 ·clear hn;go_wp2_with fail
  go_ret;exact⟨rfl,KG.o⟩
 have GX:=qh (hn rfl);clear hn;have CT:=qh (show Calls Tryz.prog 6 #[.slice x1.a x1.n x1.c] w2 _ from pwide (N1.o.below KG.o) GX.o (by decide));go_wp2_with fail
 with_reducible refine CT.o.mono ?_
 rintro e w3 ⟨wb,rfl,hwn,hb⟩;clear CT;have KG:=qk KG hb;clear hb
 rcases Bool.eq_false_or_eq_true wb with rfl | rfl
 ·clear hwn;go_wp2_with fail
  go_ret;exact⟨rfl,KG.o⟩
 have WX:=qh (hwn rfl);clear hwn;obtain⟨P1,ok1,hsa⟩:=sa_of (E:=300) N1.o GX.o WX.o (by decide);have HXN1:=qh (show x1.n<=40 from by have h1:=(GX.o).1;have h2:=N1.o.2.1;rw[List.length_map] at h1;omega);have HPC1:=qh hsa.b;have HA1:=qh (hsa.below KG.o);clear hsa;obtain⟨tm1,r1,tb,hlo,hl1,hl2⟩:=both_lead o HA1.o (by decide) (by decide) (by decide);obtain⟨dg,hd1,hd2⟩:=both_degree (P:=P1) (ok:=ok1) (n:=40) (k:=4) (e:=300) n (by decide);obtain⟨ci,cN,hcn,hc1,hc2⟩:=both_coefs (ok:=ok1) n (by decide) HPC1.o;have LO1:=qh hlo;have BL1:=qh hl1;have BL2:=qh hl2;have BD1:=qh hd1;have BD2:=qh hd2;have BC1:=qh hc1;have BC2:=qh hc2;have HCN:=qh (show cN<=301 from hcn);have LQ9:=qh (HA1.o.l9 (by decide));have PN1:=qh (show P1.length<=40 from HPC1.o.b.len);clear hlo hl1 hl2 hd1 hd2 hc1 hc2 hcn N1 GX WX;have W1:=qh (show Bt w3 w3 from⟨zk⟩);have IG1:=qh (KG.o.size);have CT:=qh (show Calls Tryz.prog 7 #[.slice x1.a x1.n x1.c] w3 _ from twin_sa HA1.o (by decide));go_wp2_with fail
 with_reducible refine CT.o.mono ?_
 rintro e w4 ⟨y1,rfl,hyn,hya,htw,hb⟩;clear CT;have KG:=qk KG hb;have HA1:=qh (HA1.o.below hb);have W1:=qh (W1.o.below hb);have HYN1:=qh hyn;have HY1:=qh hya;have HT1:=qh htw;clear hyn hya;have G1:=qh (show GP w4 y1 (0) w3.heap.size w4.heap.size from Tw2.gp htw (by have:=HXN1.o;have:=HCN.o;omega) hb.size (by have:=HXN1.o;have:=HCN.o;omega));clear hb;clear htw;have IG2:=qh (G1.o.le);have CT:=qh (show Calls Tryz.prog 8 #[.int .u8 o,.slice y1.a y1.n y1.c] w4 _ from BL1.o _ y1 HY1.o);go_wp2_with fail
 with_reducible refine CT.o.mono ?_
 rintro e w5 ⟨t1,he,ht,hb⟩;clear CT;have KG:=qk KG hb;have HA1:=qh (HA1.o.below hb);have W1:=qh (W1.o.below hb);have G1:=qh (G1.o.below hb);have HY1:=qh (HY1.o.below hb);have HT1:=qh (HT1.o.below hb);obtain rfl:e=.returned (.tuple #[.agg #[.bool t1.t.s,.slice t1.t.a t1.t.n t1.t.c,.bool t1.l.s,.slice t1.l.a t1.l.n t1.l.c,.int .u16 tm1.x,.int .u16 tm1.y,.int .u16 tm1.z,.int .u16 tm1.t],.bool tb]):=he;have D1:=qh ht;have G2:=qh (show GF w5 t1 (0+2*y1.n+1) w4.heap.size w5.heap.size from DO.gf ht LO1.o hb.size (by have:=HXN1.o;have:=HCN.o;have:=HYN1.o;omega));clear hb;clear ht
 go_upto_region 5 with (fail)
 obtain⟨w6,hV⟩:∃ V,V=w5.alloc (.cells #[.bool t1.t.s,.slice t1.t.a t1.t.n t1.t.c,.bool t1.l.s,.slice t1.l.a t1.l.n t1.l.c,.int .u16 tm1.x,.int .u16 tm1.y,.int .u16 tm1.z,.int .u16 tm1.t] 37):=⟨_,rfl⟩
 have hb:Below w5.heap.size w5 w6:=by rw[hV];exact zk.alloc zj _
 have BX8:=qh (show Bxs w6 w5.heap.size 37 [.bool t1.t.s,.slice t1.t.a t1.t.n t1.t.c,.bool t1.l.s,.slice t1.l.a t1.l.n t1.l.c,.int .u16 tm1.x,.int .u16 tm1.y,.int .u16 tm1.z,.int .u16 tm1.t] by rw[hV];exact Bxs.new w5 37 [.bool t1.t.s,.slice t1.t.a t1.t.n t1.t.c,.bool t1.l.s,.slice t1.l.a t1.l.n t1.l.c,.int .u16 tm1.x,.int .u16 tm1.y,.int .u16 tm1.z,.int .u16 tm1.t]);obtain⟨ABX8,hA⟩:∃ A,A=w5.heap.size:=⟨_,rfl⟩;rw[<- hV,<- hA];rw[<- hA] at BX8;have HBX8:=qh hA;clear hA hV;have KG:=qk KG hb;have HA1:=qh (HA1.o.below hb);have W1:=qh (W1.o.below hb);have G1:=qh (G1.o.below hb);have HY1:=qh (HY1.o.below hb);have HT1:=qh (HT1.o.below hb);have G2:=qh (G2.o.below hb);have D1:=qh (D1.o.below hb);clear hb;have cBX80:=BX8.o.ce 0;have cBX81:=BX8.o.ce 1;have cBX82:=BX8.o.ce 2;have cBX83:=BX8.o.ce 3;have cBX84:=BX8.o.ce 4;have cBX85:=BX8.o.ce 5;have cBX86:=BX8.o.ce 6;have cBX87:=BX8.o.ce 7;have CT:=qh (show Calls Tryz.prog 9 #[.int .u8 o,.slice x1.a x1.n x1.c] w6 _ from BL2.o _ x1 HA1.o);go_wp2_with fail
 with_reducible refine CT.o.mono ?_
 rintro e w7 ⟨u1,he,hu,hb⟩;clear CT cBX80 cBX81 cBX82 cBX83 cBX84 cBX85 cBX86 cBX87;have KG:=qk KG hb;have HA1:=qh (HA1.o.below hb);have W1:=qh (W1.o.below hb);have G1:=qh (G1.o.below hb);have HY1:=qh (HY1.o.below hb);have HT1:=qh (HT1.o.below hb);have G2:=qh (G2.o.below hb);have D1:=qh (D1.o.below hb);have BX8:=qh (BX8.o.bl hb);obtain rfl:e=.returned (.tuple #[.agg #[.bool u1.t.s,.slice u1.t.a u1.t.n u1.t.c,.bool u1.l.s,.slice u1.l.a u1.l.n u1.l.c,.int .u16 tm1.x,.int .u16 tm1.y,.int .u16 tm1.z,.int .u16 tm1.t],.bool tb]):=he;have E1:=qh hu;clear hu;clear hb;have cBX80:=BX8.o.ce 0;have cBX81:=BX8.o.ce 1;have cBX82:=BX8.o.ce 2;have cBX83:=BX8.o.ce 3;have cBX84:=BX8.o.ce 4;have cBX85:=BX8.o.ce 5;have cBX86:=BX8.o.ce 6;have cBX87:=BX8.o.ce 7
 go_upto_region 6 with (fail)
 obtain⟨w8,hV⟩:∃ V,V=w7.alloc (.cells #[.bool u1.t.s,.slice u1.t.a u1.t.n u1.t.c,.bool u1.l.s,.slice u1.l.a u1.l.n u1.l.c,.int .u16 tm1.x,.int .u16 tm1.y,.int .u16 tm1.z,.int .u16 tm1.t] 37):=⟨_,rfl⟩
 have hb:Below w7.heap.size w7 w8:=by rw[hV];exact zk.alloc zj _
 have BX10:=qh (show Bxs w8 w7.heap.size 37 [.bool u1.t.s,.slice u1.t.a u1.t.n u1.t.c,.bool u1.l.s,.slice u1.l.a u1.l.n u1.l.c,.int .u16 tm1.x,.int .u16 tm1.y,.int .u16 tm1.z,.int .u16 tm1.t] by rw[hV];exact Bxs.new w7 37 [.bool u1.t.s,.slice u1.t.a u1.t.n u1.t.c,.bool u1.l.s,.slice u1.l.a u1.l.n u1.l.c,.int .u16 tm1.x,.int .u16 tm1.y,.int .u16 tm1.z,.int .u16 tm1.t]);obtain⟨ABX10,hA⟩:∃ A,A=w7.heap.size:=⟨_,rfl⟩;rw[<- hV,<- hA];rw[<- hA] at BX10;have HBX10:=qh hA;clear hA hV cBX80 cBX81 cBX82 cBX83 cBX84 cBX85 cBX86 cBX87;have KG:=qk KG hb;have HA1:=qh (HA1.o.below hb);have W1:=qh (W1.o.below hb);have G1:=qh (G1.o.below hb);have HY1:=qh (HY1.o.below hb);have HT1:=qh (HT1.o.below hb);have G2:=qh (G2.o.below hb);have D1:=qh (D1.o.below hb);have BX8:=qh (BX8.o.bl hb);have E1:=qh (E1.o.below hb);clear hb;have IG3:=qh G2.o.le;have cBX80:=BX8.o.ce 0;have cBX81:=BX8.o.ce 1;have cBX82:=BX8.o.ce 2;have cBX83:=BX8.o.ce 3;have cBX84:=BX8.o.ce 4;have cBX85:=BX8.o.ce 5;have cBX86:=BX8.o.ce 6;have cBX87:=BX8.o.ce 7;have cBX100:=BX10.o.ce 0;have cBX101:=BX10.o.ce 1;have cBX102:=BX10.o.ce 2;have cBX103:=BX10.o.ce 3;have cBX104:=BX10.o.ce 4;have cBX105:=BX10.o.ce 5;have cBX106:=BX10.o.ce 6;have cBX107:=BX10.o.ce 7;have CT:=qh (show Calls Tryz.prog 10 #[.slice y1.a y1.n y1.c,.int .i64 n] w8 _ from BC1.o _ y1 HY1.o)
 go_wp2_with fail
 with_reducible refine CT.o.mono ?_
 rintro e w9 ⟨⟨va,vn,vc⟩,Zs,Ds,he,hvn,hzl,hoc,hcs,hb⟩;clear CT cBX80 cBX81 cBX82 cBX83 cBX84 cBX85 cBX86 cBX87 cBX100 cBX101 cBX102 cBX103 cBX104 cBX105 cBX106 cBX107;have KG:=qk KG hb;have HA1:=qh (HA1.o.below hb);have W1:=qh (W1.o.below hb);have G1:=qh (G1.o.below hb);have HY1:=qh (HY1.o.below hb);have HT1:=qh (HT1.o.below hb);have G2:=qh (G2.o.below hb);have D1:=qh (D1.o.below hb);have BX8:=qh (BX8.o.bl hb);have E1:=qh (E1.o.below hb);have BX10:=qh (BX10.o.bl hb);obtain rfl:e=.returned (.slice va vn vc):=he;obtain rfl:vn=cN:=hvn;obtain⟨es,hel,hgq,hcnt⟩:=CSep.gq (q:=0+2*y1.n+1+2) hoc hcs LQ9.o PN1.o (by rw[hzl];exact HCN.o) hb.size (by have:=HXN1.o;have:=HCN.o;have:=HYN1.o;omega);have NG3:=qh (show es.length=vn by rw[hel,hzl]);have HCT:=qh hcnt;have G3:=qh hgq;have OC3:=qh (show OW w9 w8.heap.size (.slice va vn vc) Zs from hoc);have CS3:=qh hcs;have HZL:=qh hzl;clear hoc hcs hzl hel hcnt hgq;clear hb;have cBX80:=BX8.o.ce 0;have cBX81:=BX8.o.ce 1;have cBX82:=BX8.o.ce 2;have cBX83:=BX8.o.ce 3;have cBX84:=BX8.o.ce 4;have cBX85:=BX8.o.ce 5;have cBX86:=BX8.o.ce 6;have cBX87:=BX8.o.ce 7;have cBX100:=BX10.o.ce 0;have cBX101:=BX10.o.ce 1;have cBX102:=BX10.o.ce 2;have cBX103:=BX10.o.ce 3;have cBX104:=BX10.o.ce 4;have cBX105:=BX10.o.ce 5;have cBX106:=BX10.o.ce 6
 have cBX107:=BX10.o.ce 7;have CT:=qh (show Calls Tryz.prog 11 #[.agg #[.bool t1.t.s,.slice t1.t.a t1.t.n t1.t.c,.bool t1.l.s,.slice t1.l.a t1.l.n t1.l.c,.int .u16 tm1.x,.int .u16 tm1.y,.int .u16 tm1.z,.int .u16 tm1.t],.agg #[.bool u1.t.s,.slice u1.t.a u1.t.n u1.t.c,.bool u1.l.s,.slice u1.l.a u1.l.n u1.l.c,.int .u16 tm1.x,.int .u16 tm1.y,.int .u16 tm1.z,.int .u16 tm1.t]] w9 _ from DO.sameT (m:=tm1) D1.o E1.o LO1.o);go_wp2_with fail
 with_reducible refine CT.o.mono ?_
 rintro e w10 ⟨rfl,hb⟩;clear CT cBX80 cBX81 cBX82 cBX83 cBX84 cBX85 cBX86 cBX87 cBX100 cBX101 cBX102 cBX103 cBX104 cBX105 cBX106 cBX107;have KG:=qk KG hb;have HA1:=qh (HA1.o.below hb);have W1:=qh (W1.o.below hb);have G1:=qh (G1.o.below hb);have HY1:=qh (HY1.o.below hb);have HT1:=qh (HT1.o.below hb);have G2:=qh (G2.o.below hb);have D1:=qh (D1.o.below hb);have BX8:=qh (BX8.o.bl hb);have E1:=qh (E1.o.below hb);have BX10:=qh (BX10.o.bl hb);have G3:=qh (G3.o.below hb);have OC3:=qh (OC3.o.below hb);have CS3:=qh (CS3.o.below hb);clear hb
 have e1:(tb != tb)=false:=by simp
 have cBX80:=BX8.o.ce 0;have cBX81:=BX8.o.ce 1;have cBX82:=BX8.o.ce 2;have cBX83:=BX8.o.ce 3;have cBX84:=BX8.o.ce 4;have cBX85:=BX8.o.ce 5;have cBX86:=BX8.o.ce 6;have cBX87:=BX8.o.ce 7;have cBX100:=BX10.o.ce 0;have cBX101:=BX10.o.ce 1;have cBX102:=BX10.o.ce 2;have cBX103:=BX10.o.ce 3;have cBX104:=BX10.o.ce 4;have cBX105:=BX10.o.ce 5;have cBX106:=BX10.o.ce 6;have cBX107:=BX10.o.ce 7;have CT:=qh (show Calls Tryz.prog 12 #[.slice y1.a y1.n y1.c,.int .i64 n] w10 _ from BD1.o _ y1 HY1.o);go_wp2_with fail
 with_reducible refine CT.o.mono ?_
 rintro e w11 ⟨rfl,hb⟩;clear CT cBX80 cBX81 cBX82 cBX83 cBX84 cBX85 cBX86 cBX87 cBX100 cBX101 cBX102 cBX103 cBX104 cBX105 cBX106 cBX107;have KG:=qk KG hb;have HA1:=qh (HA1.o.below hb);have W1:=qh (W1.o.below hb);have G1:=qh (G1.o.below hb);have HY1:=qh (HY1.o.below hb);have HT1:=qh (HT1.o.below hb);have G2:=qh (G2.o.below hb);have D1:=qh (D1.o.below hb);have BX8:=qh (BX8.o.bl hb);have E1:=qh (E1.o.below hb);have BX10:=qh (BX10.o.bl hb);have G3:=qh (G3.o.below hb);have OC3:=qh (OC3.o.below hb);have CS3:=qh (CS3.o.below hb);clear hb;have cBX80:=BX8.o.ce 0;have cBX81:=BX8.o.ce 1;have cBX82:=BX8.o.ce 2;have cBX83:=BX8.o.ce 3;have cBX84:=BX8.o.ce 4;have cBX85:=BX8.o.ce 5;have cBX86:=BX8.o.ce 6;have cBX87:=BX8.o.ce 7;have cBX100:=BX10.o.ce 0;have cBX101:=BX10.o.ce 1;have cBX102:=BX10.o.ce 2;have cBX103:=BX10.o.ce 3;have cBX104:=BX10.o.ce 4;have cBX105:=BX10.o.ce 5;have cBX106:=BX10.o.ce 6;have cBX107:=BX10.o.ce 7;have CT:=qh (show Calls Tryz.prog 13 #[.slice x1.a x1.n x1.c,.int .i64 n] w11 _ from BD2.o _ x1 HA1.o);go_wp2_with fail
 with_reducible refine CT.o.mono ?_
 rintro e w12 ⟨rfl,hb⟩;clear CT cBX80 cBX81 cBX82 cBX83 cBX84 cBX85 cBX86 cBX87 cBX100 cBX101 cBX102 cBX103 cBX104 cBX105 cBX106 cBX107;have KG:=qk KG hb;have HA1:=qh (HA1.o.below hb);have W1:=qh (W1.o.below hb);have G1:=qh (G1.o.below hb);have HY1:=qh (HY1.o.below hb);have HT1:=qh (HT1.o.below hb);have G2:=qh (G2.o.below hb);have D1:=qh (D1.o.below hb);have BX8:=qh (BX8.o.bl hb);have E1:=qh (E1.o.below hb);have BX10:=qh (BX10.o.bl hb);have G3:=qh (G3.o.below hb);have OC3:=qh (OC3.o.below hb);have CS3:=qh (CS3.o.below hb);clear hb
 have e2:(dg != dg)=false:=by simp
 have cBX80:=BX8.o.ce 0;have cBX81:=BX8.o.ce 1;have cBX82:=BX8.o.ce 2;have cBX83:=BX8.o.ce 3;have cBX84:=BX8.o.ce 4;have cBX85:=BX8.o.ce 5;have cBX86:=BX8.o.ce 6;have cBX87:=BX8.o.ce 7;have cBX100:=BX10.o.ce 0;have cBX101:=BX10.o.ce 1;have cBX102:=BX10.o.ce 2;have cBX103:=BX10.o.ce 3;have cBX104:=BX10.o.ce 4;have cBX105:=BX10.o.ce 5;have cBX106:=BX10.o.ce 6;have cBX107:=BX10.o.ce 7;have CT:=qh (show Calls Tryz.prog 15 #[.slice x1.a x1.n x1.c,.int .i64 n] w12 _ from BC2.o _ x1 HA1.o);go_wp2_with fail
 with_reducible refine CT.o.mono ?_
 rintro e w13 ⟨rg,ys,rfl,hyl,hrs,hky,hb⟩;clear CT cBX80 cBX81 cBX82 cBX83 cBX84 cBX85 cBX86 cBX87 cBX100 cBX101 cBX102 cBX103 cBX104 cBX105 cBX106 cBX107;have KG:=qk KG hb;have HA1:=qh (HA1.o.below hb);have W1:=qh (W1.o.below hb);have G1:=qh (G1.o.below hb);have HY1:=qh (HY1.o.below hb);have HT1:=qh (HT1.o.below hb);have G2:=qh (G2.o.below hb);have D1:=qh (D1.o.below hb);have BX8:=qh (BX8.o.bl hb);have E1:=qh (E1.o.below hb);have BX10:=qh (BX10.o.bl hb);have G3:=qh (G3.o.below hb);have OC3:=qh (OC3.o.below hb);have CS3:=qh (CS3.o.below hb);have HYL:=qh hyl;have RY:=qh hrs;have KY:=qh hky;clear hyl hrs hky;clear hb;have SP:=qh (coefs_same OC3.o CS3.o HPC1.o.c LQ9.o PN1.o HZL.o RY.o HYL.o KY.o HCN.o);have cBX80:=BX8.o.ce 0;have cBX81:=BX8.o.ce 1;have cBX82:=BX8.o.ce 2;have cBX83:=BX8.o.ce 3;have cBX84:=BX8.o.ce 4;have cBX85:=BX8.o.ce 5;have cBX86:=BX8.o.ce 6;have cBX87:=BX8.o.ce 7;have cBX100:=BX10.o.ce 0;have cBX101:=BX10.o.ce 1;have cBX102:=BX10.o.ce 2;have cBX103:=BX10.o.ce 3;have cBX104:=BX10.o.ce 4;have cBX105:=BX10.o.ce 5;have cBX106:=BX10.o.ce 6;have cBX107:=BX10.o.ce 7;have CT:=qh (show Calls Tryz.prog 14 #[.slice va vn vc,.slice (some ⟨rg,0,none⟩) vn vn] w13 _ from SP.o vc vn);go_wp2_with fail
 with_reducible refine CT.o.mono ?_
 rintro e w14 ⟨rfl,hb⟩;clear CT cBX80 cBX81 cBX82 cBX83 cBX84 cBX85 cBX86 cBX87 cBX100 cBX101 cBX102 cBX103 cBX104 cBX105 cBX106 cBX107;have KG:=qk KG hb;have HA1:=qh (HA1.o.below hb);have W1:=qh (W1.o.below hb);have G1:=qh (G1.o.below hb);have HY1:=qh (HY1.o.below hb);have HT1:=qh (HT1.o.below hb);have G2:=qh (G2.o.below hb);have D1:=qh (D1.o.below hb);have BX8:=qh (BX8.o.bl hb);have E1:=qh (E1.o.below hb);have BX10:=qh (BX10.o.bl hb);have G3:=qh (G3.o.below hb);have OC3:=qh (OC3.o.below hb);have CS3:=qh (CS3.o.below hb);have RY:=qh (RY.o.below hb);clear hb;clear SP KY;have cBX80:=BX8.o.ce 0;have cBX81:=BX8.o.ce 1;have cBX82:=BX8.o.ce 2;have cBX83:=BX8.o.ce 3;have cBX84:=BX8.o.ce 4;have cBX85:=BX8.o.ce 5;have cBX86:=BX8.o.ce 6;have cBX87:=BX8.o.ce 7;have cBX100:=BX10.o.ce 0;have cBX101:=BX10.o.ce 1;have cBX102:=BX10.o.ce 2;have cBX103:=BX10.o.ce 3;have cBX104:=BX10.o.ce 4;have cBX105:=BX10.o.ce 5;have cBX106:=BX10.o.ce 6;have cBX107:=BX10.o.ce 7;have CT:=qh (show Calls Tryz.prog 16 #[.slice y1.a y1.n y1.c,.slice x1.a x1.n x1.c] w14 _ from HT1.o.left W1.o.b (by have:=HXN1.o;omega));go_wp2_with fail
 with_reducible refine CT.o.mono ?_
 rintro e w15 ⟨rfl,hb⟩;clear CT cBX80 cBX81 cBX82 cBX83 cBX84 cBX85 cBX86 cBX87 cBX100 cBX101 cBX102 cBX103 cBX104 cBX105 cBX106 cBX107;have KG:=qk KG hb;have HA1:=qh (HA1.o.below hb);have W1:=qh (W1.o.below hb);have G1:=qh (G1.o.below hb);have HY1:=qh (HY1.o.below hb);have HT1:=qh (HT1.o.below hb);have G2:=qh (G2.o.below hb);have D1:=qh (D1.o.below hb);have BX8:=qh (BX8.o.bl hb);have E1:=qh (E1.o.below hb);have BX10:=qh (BX10.o.bl hb);have G3:=qh (G3.o.below hb);have OC3:=qh (OC3.o.below hb);have CS3:=qh (CS3.o.below hb);have RY:=qh (RY.o.below hb);clear hb;clear BX10 D1 E1 HT1 HA1 HY1 W1 OC3 CS3 RY;have HKW:=qh (show w.heap.size<=w15.heap.size from KG.o.size);have JG1:=qh G1.o.le;have JG2:=qh G2.o.le;have JG3:=qh G3.o.le;have cBX80:=BX8.o.ce 0;have cBX81:=BX8.o.ce 1;have cBX82:=BX8.o.ce 2;have cBX83:=BX8.o.ce 3;have cBX84:=BX8.o.ce 4;have cBX85:=BX8.o.ce 5;have cBX86:=BX8.o.ce 6;have cBX87:=BX8.o.ce 7
 go_upto_region 10 with (fail)
 obtain⟨w16,hV⟩:∃ V,V=w15.alloc (.cells book0 59):=⟨_,rfl⟩
 have hb:Below w15.heap.size w15 w16:=by rw[hV];exact zk.alloc zj _
 have HB:=qh (show BG w16 w15.heap.size w15.heap.size 0 w.heap.size w.heap.size 0 0 by rw[hV];exact BG.new w15 KG.o.size);rw[show w15.alloc (.cells #[.int .i64 0,.slice none 0 0,.slice none 0 0,.slice none 0 0,.slice none 0 0,.slice none 0 0,.slice none 0 0,.slice none 0 0,.slice none 0 0,.slice none 0 0,.slice none 0 0,.slice none 0 0,.slice none 0 0] 59)=w16 from hV.symm];have KG:=qk KG hb;have G1:=qh (G1.o.below hb);have G2:=qh (G2.o.below hb);have BX8:=qh (BX8.o.bl hb);have G3:=qh (G3.o.below hb);obtain⟨bs,hbs⟩:∃ b,b=w15.heap.size:=⟨_,rfl⟩;rw[<- hbs] at JG1;rw[<- hbs] at JG2;rw[<- hbs] at JG3;have HBW:=qh (show w.heap.size<=bs by rw[hbs];exact(show w.heap.size<=w15.heap.size from HKW.o));rw[<- hbs] at HB ⊢;clear hbs hV hb HKW cBX80 cBX81 cBX82 cBX83 cBX84 cBX85 cBX86 cBX87;have cBX80:=BX8.o.ce 0;have cBX81:=BX8.o.ce 1;have cBX82:=BX8.o.ce 2;have cBX83:=BX8.o.ce 3;have cBX84:=BX8.o.ce 4;have cBX85:=BX8.o.ce 5;have cBX86:=BX8.o.ce 6;have cBX87:=BX8.o.ce 7;have CT:=qh (show Calls Tryz.prog 17 #[.pointer (some ⟨bs,0,none⟩),.slice y1.a y1.n y1.c] w16 _ from HB.o.polyP G1.o IG1.o JG1.o (by have:=HXN1.o;have:=HCN.o;have:=HYN1.o;have:=HCT.o;omega));go_wp2_with fail
 with_reducible refine CT.o.mono ?_
 rintro e w17 ⟨⟨r,rfl⟩,hB,hk⟩;have HB:=qh hB;have KG:=qh (KG.o.trans (hk.bel.mono HBW.o));have G2:=qh (G2.o.keepB hk JG2.o);have G3:=qh (G3.o.keepB hk JG3.o);have BX8:=qh (Bxs.keepB BX8.o hk (by decide));clear CT hB hk G1 IG1 cBX80 cBX81 cBX82 cBX83 cBX84 cBX85 cBX86 cBX87;have cBX80:=BX8.o.ce 0;have cBX81:=BX8.o.ce 1;have cBX82:=BX8.o.ce 2;have cBX83:=BX8.o.ce 3;have cBX84:=BX8.o.ce 4;have cBX85:=BX8.o.ce 5;have cBX86:=BX8.o.ce 6;have cBX87:=BX8.o.ce 7;have CT:=qh (show Calls Tryz.prog 18 #[.pointer (some ⟨bs,0,none⟩),.agg #[.bool t1.t.s,.slice t1.t.a t1.t.n t1.t.c,.bool t1.l.s,.slice t1.l.a t1.l.n t1.l.c,.int .u16 tm1.x,.int .u16 tm1.y,.int .u16 tm1.z,.int .u16 tm1.t]] w17 _ from HB.o.termP G2.o IG2.o JG2.o (by have:=HXN1.o;have:=HCN.o;have:=HYN1.o;have:=HCT.o;omega));go_wp2_with fail
 with_reducible refine CT.o.mono ?_
 rintro e w18 ⟨⟨r,rfl⟩,hB,hk⟩;have HB:=qh hB;have KG:=qh (KG.o.trans (hk.bel.mono HBW.o));have G3:=qh (G3.o.keepB hk JG3.o);have BX8:=qh (Bxs.keepB BX8.o hk (by decide));clear CT hB hk G2 IG2 cBX80 cBX81 cBX82 cBX83 cBX84 cBX85 cBX86 cBX87;have cBX80:=BX8.o.ce 0;have cBX81:=BX8.o.ce 1;have cBX82:=BX8.o.ce 2;have cBX83:=BX8.o.ce 3;have cBX84:=BX8.o.ce 4;have cBX85:=BX8.o.ce 5;have cBX86:=BX8.o.ce 6;have cBX87:=BX8.o.ce 7;have CT:=qh (show Calls Tryz.prog 19 #[.pointer (some ⟨bs,0,none⟩),.slice va vn vc] w18 _ from HB.o.polysP G3.o NG3.o IG3.o JG3.o (by have:=HXN1.o;have:=HCN.o;have:=HYN1.o;have:=HCT.o;omega));go_wp2_with fail
 with_reducible refine CT.o.mono ?_
 rintro e w19 ⟨⟨r,rfl⟩,hB,hk⟩;have HB:=qh hB;have KG:=qh (KG.o.trans (hk.bel.mono HBW.o));have BX8:=qh (Bxs.keepB BX8.o hk (by decide));clear CT hB hk G3 IG3 cBX80 cBX81 cBX82 cBX83 cBX84 cBX85 cBX86 cBX87;have CT:=qh (show Calls Tryz.prog 20 #[.pointer (some ⟨bs,0,none⟩)] w19 _ from HB.o.apartA (by omega) (by have:=HXN1.o;have:=HCN.o;have:=HYN1.o;have:=HCT.o;omega));go_wp2_with fail
 with_reducible refine CT.o.mono ?_
 rintro e w20 ⟨rfl,hb⟩;go_wp2_with fail
 go_ret;exact⟨rfl,KG.o.trans hb⟩
end Pol
namespace Limb
open Go.RowKit Go.Sort Pol
open Go.ChangeShapes Go.WideShapes Go.ChangeAt
namespace PolysPartsC
theorem own:ownKnob Tryz.prog.godebug=none:=by kernel_rfl
theorem laidOut:laidOutB Tryz.prog=true:=by kernel_rfl
noncomputable def laidWorld (os:Os):World :=
 { World.holding Tryz.prog os ⟨#[],#[],[]⟩ with heap:=((((World.holding Tryz.prog os ⟨#[],#[],[]⟩).heap.modify 0 fun
   | .cells _ t frozen=>.cells #[.int .u64 1,.int .u64 10,.int .u64 100,.int .u64 1000,.int .u64 10000,.int .u64 100000,.int .u64 1000000,.int .u64 10000000,.int .u64 100000000,.int .u64 1000000000,.int .u64 10000000000,.int .u64 100000000000,.int .u64 1000000000000,.int .u64 10000000000000,.int .u64 100000000000000,.int .u64 1000000000000000,.int .u64 10000000000000000,.int .u64 100000000000000000,.int .u64 1000000000000000000,.int .u64 10000000000000000000] t frozen
   | o=>o).modify 1 fun
   | .cells _ t frozen=>.cells #[.int .u8 0,.int .u8 1,.int .u8 28,.int .u8 2,.int .u8 29,.int .u8 14,.int .u8 24,.int .u8 3,.int .u8 30,.int .u8 22,.int .u8 20,.int .u8 15,.int .u8 25,.int .u8 17,.int .u8 4,.int .u8 8,.int .u8 31,.int .u8 27,.int .u8 13,.int .u8 23,.int .u8 21,.int .u8 19,.int .u8 16,.int .u8 7,.int .u8 26,.int .u8 12,.int .u8 18,.int .u8 6,.int .u8 11,.int .u8 5,.int .u8 10,.int .u8 9] t frozen
   | o=>o).modify 2 fun
   | .cells _ t frozen=>.cells #[.int .u8 0,.int .u8 1,.int .u8 56,.int .u8 2,.int .u8 57,.int .u8 49,.int .u8 28,.int .u8 3,.int .u8 61,.int .u8 58,.int .u8 42,.int .u8 50,.int .u8 38,.int .u8 29,.int .u8 17,.int .u8 4,.int .u8 62,.int .u8 47,.int .u8 59,.int .u8 36,.int .u8 45,.int .u8 43,.int .u8 51,.int .u8 22,.int .u8 53,.int .u8 39,.int .u8 33,.int .u8 30,.int .u8 24,.int .u8 18,.int .u8 12,.int .u8 5,.int .u8 63,.int .u8 55,.int .u8 48,.int .u8 27,.int .u8 60,.int .u8 41,.int .u8 37,.int .u8 16,.int .u8 46,.int .u8 35,.int .u8 44,.int .u8 21,.int .u8 52,.int .u8 32,.int .u8 23,.int .u8 11,.int .u8 54,.int .u8 26,.int .u8 40,.int .u8 15,.int .u8 34,.int .u8 20,.int .u8 31,.int .u8 10,.int .u8 25,.int .u8 14,.int .u8 19,.int .u8 9,.int .u8 13,.int .u8 8,.int .u8 7,.int .u8 6] t frozen
   | o=>o) }
noncomputable def witArgs:Array Value:=#[.slice none 0 0,.int .u8 0,.int .i64 0]
theorem laid_met (os:Os):laidMet Tryz.prog Rows.polysPartsRow.laid ((laidWorld os).forCall (fun _ _=>0) ⟨#[],witArgs,[]⟩).memory :=
 laidMet_of_run' 8 (by kernel_rfl) (by kernel_rfl)
theorem reads (os:Os) {H:Type} (enc:TypeId × Value->H):∃ places,DataW.whole enc Tryz.prog ((laidWorld os).forCall (fun _ _=>0) ⟨#[],witArgs,[]⟩).memory Tryz.f3.params.toList Rows.polysPartsSpec.vars false witArgs.toList 8=some ([.nil,.lit (.int .u8 0),.lit (.int .i64 0)],[],places) :=
 ⟨[],by kernel_rfl⟩
theorem lifted (os:Os) (started:os.Started) (H:Type) (enc:TypeId × Value->H) (F:Stop.Interp) :
  ReturnsInHanded {} Tryz.checked os 3 .any ((OpenSpec.ofChange Rows.polysPartsSpec).preRow enc Tryz.prog Tryz.f3 Rows.polysPartsRow.domain false Rows.polysPartsRow.laid) (((OpenSpec.ofChange Rows.polysPartsSpec).at F).post enc Tryz.prog Tryz.f3 false true false false):=by
 obtain⟨places,hx⟩:=reads os enc
 refine returnsInHanded_of_row (C:=Tryz.checked) (s:=OpenSpec.ofChange Rows.polysPartsSpec) own started (by kernel_rfl) Tryz.func3
  (witness_row_at (enc:=enc) (C:=Tryz.checked) false (laidWorld os) witArgs rfl (by kernel_rfl) (by kernel_rfl) (by kernel_rfl)
   (OpenSpec.preRow_of_cond 8 hx (by kernel_rfl) (fun k hk=>by cases hk) (by kernel_rfl) (laid_met os))) ?_
 intro W base args ds gs before hval0 hW _ _ _ _ _ _;have hval:∀ (j:Nat) t v,Tryz.f3.params[j]?=some t->args[j]?=some v->Value.okWide Tryz.prog W .any base t v:=hval0;have hW':=hW;obtain⟨p,q,hA0,hV,rfl,hfz,hnd⟩:=hW;have hA:DataW.TrodAll enc Tryz.prog W 0 (fun _=>true) true Tryz.f3.params.toList args.toList ds p:=hA0;rw[Tryz.params3] at hA hval;obtain⟨v0,v1,v2,d0,d1,d2,p0,p1,p2,rfl,rfl,rfl,h0,h1,h2⟩:=trodAll_three hA;obtain⟨rfl,rfl⟩:=trodVars_none hV;obtain⟨x0,L0,rfl,r0⟩:=open_poly (hval 0 23 v0 rfl rfl) h0;obtain⟨z1,rfl,-,-,wz1⟩:=open_int Tryz.underlying24 (hval 1 24 v1 rfl rfl) h1;obtain⟨z2,rfl,-,-,wz2⟩:=open_int Tryz.underlying3 (hval 2 3 v2 rfl rfl) h2
 refine(polysParts_law x0 L0 z1 z2 W r0 (bounds_i64 wz2).1 (bounds_i64 wz2).2).mono fun e W' ⟨he,hg⟩=>?_
 subst he;exact⟨_,rfl,LawPost.law_post laidOut (by kernel_rfl) (by kernel_rfl) Tryz.underlying4 hW' rfl rfl hg⟩
theorem k4:mapsRowed Tryz.prog=true:=by kernel_rfl
theorem k10:(Rows.polysPartsRow.inPlace==Tryz.prog.inPlace 3)=true:=by kernel_rfl
theorem k11:(Rows.polysPartsRow.unfollowed==Tryz.prog.unfollowed 3)=true:=by kernel_rfl
theorem k12:(Rows.polysPartsRow.recurses==Tryz.prog.recurses 3)=true:=by kernel_rfl
theorem k13:(Rows.polysPartsRow.named==Tryz.prog.varsNamed 3)=true:=by kernel_rfl
theorem closed:joinedFacts Tryz.prog 3 Tryz.f3 (OpenSpec.ofChange Rows.polysPartsSpec).bare Rows.polysPartsRow=true:=by
 unfold joinedFacts;rw[laidOut,k4,k10,k11,k12,k13]
 kernel_rfl
theorem said:Rows.PolysPartsSaid :=
 OpenClaim.holds_of_cond 3 Tryz.f3 rfl rfl rfl rfl rfl rfl rfl ⟨rfl,rfl,rfl,rfl,rfl⟩ rfl rfl rfl rfl rfl (by kernel_rfl) Tryz.func3 closed
  (of_decide_eq_true (by kernel_rfl)) (by unfold Func.isWrapper;first | (rw[if_pos (by decide +kernel)];kernel_rfl) | (rw[if_neg (by decide +kernel)];exact⟨rfl,rfl⟩))
  (fun os started H enc _ F=>by rw[OpenClaim.pre_eq_preRow];exact lifted os started H enc F)
theorem plain (f : FuncId) (fn : Func) (hf : Tryz.pinned.checked.prog.funcNamed "reckoner/reckonerlaw04.PolysParts" = some f) (hfn : Tryz.pinned.checked.prog.funcs[f]? = some fn) :
  false=Tryz.pinned.checked.prog.looks []/\∀ (j:Nat) t,fn.params[j]?=some t->Tryz.pinned.checked.prog.wantsStandIn t=false:=by
 obtain rfl : f = 3 := Option.some.inj ((show Tryz.prog.funcNamed "reckoner/reckonerlaw04.PolysParts" = some 3 by kernel_rfl).symm.trans hf) |>.symm
 obtain rfl:fn=Tryz.f3:=(Option.some.inj (Tryz.func3.symm.trans hfn)).symm;refine⟨by kernel_rfl,fun j t ht=>?_⟩;rw[Tryz.params3] at ht
 have hm:t=23\/t=24\/t=3:=by simpa using Array.mem_of_getElem? ht
 rcases hm with rfl | rfl | rfl
 ·exact(show Tryz.prog.wantsStandIn 23=false by kernel_rfl)
 ·exact(show Tryz.prog.wantsStandIn 24=false by kernel_rfl)
 ·exact(show Tryz.prog.wantsStandIn 3=false by kernel_rfl)
theorem card:Rows.PolysPartsCardSaid :=
 Claim7.holds_tied_plain_at .later [] _ _ _ _ said (fun _ h=>by cases h) (by kernel_rfl) (fun _ h=>by cases h) polysParts_row_tie rfl ⟨rfl,rfl⟩ (by kernel_rfl) rfl plain (by kernel_rfl)
#print axioms card
end PolysPartsC
end Limb
end Go.Proofs.YthacfgmdihcffaaGreatDoor
