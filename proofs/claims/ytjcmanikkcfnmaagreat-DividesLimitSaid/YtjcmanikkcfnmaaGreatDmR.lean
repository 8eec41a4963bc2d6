/-
  The statement of DividesLimit: whatever it is handed, it returns true, and what it was handed reads behind the call as it read before.
-/
import Derived.Test.YtjcmanikkcfnmaaGreatDmQ
import Derived.Lay
import Derived.MakeChecks
import Derived.Stop.LaidErr
import Derived.Deep.DeepWitnessRowRef
import Derived.WalkKit
import Derived.ProofKit
import Derived.OpenShut
import Derived.Deep.DeepHandedRow
import Derived.Lib.LaidTab
set_option linter.unusedSimpArgs false
set_option linter.unusedVariables false
set_option maxHeartbeats 16000000
set_option maxRecDepth 100000
namespace Go.Proofs.YtjcmanikkcfnmaaGreat.Pol
open Go.RowKit Go.Sort Go.Proofs.YtjcmanikkcfnmaaGreat.Limb
theorem wpList_pushL {ops:Array Oper} {rest:List Oper} {oo:Oper} {ac:Act} {Q:Exit→Act→World→Prop} (hgd:oo.guard=none) (s x:Operand)
  (ho:oo.op=.call { callee:=.builtin .append,args:=#[s,x],argTypes:=#[34,34] })
  {w:World} {lo:Nat} {v:Value} {L:List TE} (hs:ac.eval s=v) (h:ER w lo v L) (hn:L.length≤1000000000) (hb:lo≤w.heap.size)
  {gs:Nat} {t:TV} {q:Rat} {m c:Nat} (hx:ac.eval x=.slice (some ⟨gs,0,none⟩) m c) (hc:Bxs w gs 32 t.cells) (hq:EF w lo t.c q) (hm:m=1)
  (hK:∀ (z:PV) w',ER w' lo z.v (L++[(t,q)])→Below lo w w'→wpList Tryz.prog ops Q rest (ac.put oo.dst z.v) w'):wpList Tryz.prog ops Q (oo :: rest) ac w:=by
 subst hm;obtain⟨i0,hi,hz0,hz1,hz2⟩:=info_parts info8P;refine wpList_append_own _ hgd s x 34 ho lo 32 i0 _ 8 72 Tryz.underlying34 hi hz0 hz1 hz2 rfl (by decide) v _ _ hs h.row ⟨gs,0,none⟩ 1 c (TV.cells t) hx rfl (fun j u hj=>?_) (tv_one t) ?_ ?_ hb ?_
 ·rw[Addr.add_lit,Nat.zero_add];exact hc.cell hj
 ·rw[List.length_map];unfold maxLen;omega
 ·rw[List.length_map];omega
 ·intro v' w' hown hg _
  have e1:(L++[(t,q)]).map Prod.fst=L.map Prod.fst++[t]:=by rw[List.map_append];rfl
  have e2:(L.map Prod.fst++[t]).flatMap TV.cells=(L.map Prod.fst).flatMap TV.cells++TV.cells t:=by rw[List.flatMap_append,List.flatMap_cons,List.flatMap_nil,List.append_nil]
  have hr:OT w' lo v' ((L++[(t,q)]).map Prod.fst):=by
   rw[e1];show w'.ownsRow _ _ _ _ _ _;rw[e2,List.length_append];exact hown
  have hE:ER w' lo v' (L++[(t,q)]):=⟨hr,fun e he=>by
   rcases List.mem_append.1 he with he | he
   ·exact(h.num e he).grown h.row hg
   ·rw[List.mem_singleton.1 he];exact hq.grown h.row hg⟩
  obtain⟨z,rfl,-⟩:=hE.slice;exact hK z w' hE ((Below.refl _ _).grown hg hb (fun g hg=>(World.ownsRow.lt h.row g hg).1))
theorem cell_keep {w w':World} {a:Addr} {v:Value} (h:w.cell? a=some v) (hb:Below w.heap.size w w'):w'.cell? a=some v:=(hb.cell (block_lt_of_cell h)).trans h
structure RDI (V:World) (g nq:Nat) (Inv:DS→Prop) (rv lv:Value) (wr:World) (s:DS):Prop where
 ex:∃ (x r:PV) (Z:Nat→PV),lv=x.v∧rv=r.v∧EP wr V.heap.size x s.p∧EP wr V.heap.size r s.r∧wr.rowIs g 35 nq (fun i=>(Z i).v)∧∀ (i:Nat) (q:List Tm),s.os[i]?=some q→EP wr V.heap.size (Z i) q
 inv:Inv s
 len:s.os.length=nq
 bel:Below V.heap.size V wr
def RDivR (w:World) (o:Int) (ds:List Dv) (Inv:DS→Prop) (e:Ending) (w':World):Prop :=
 (∃ (g n:Nat) (Z:Nat→PV) (r:PV) (s:DS),e=.returned (.tuple #[.slice (some ⟨g,0,none⟩) n n,r.v,.int .i64 0])∧n=s.os.length∧n=ds.length∧w'.rowIs g 35 n (fun i=>(Z i).v)∧(∀ (i:Nat) (q:List Tm),s.os[i]?=some q→EP w' w.heap.size (Z i) q)∧EP w' w.heap.size r s.r∧Inv s∧s.p=[]∧Below w.heap.size w w') ∨
 ∃ (s:DS) (t:Tm) (i:Nat) (d:Dv),e=.returned (.tuple #[.slice none 0 0,.slice none 0 0,.int .i64 3])∧Inv s∧Lead (keyO o) s.p t∧Takes ds t.1 i d∧Ovf d.2 [byT t d.1]∧Below w.heap.size w w'
def okN:Value→Nat
 | .bool false=>1
 | _=>0
theorem RE.only {w w':World} {A b o i:Nat} {t:TV} (h:RE w b o i t) (ho:Only A w w') (hne:b≠A):RE w' b o i t:=⟨Nat.lt_of_lt_of_le h.lt ho.2.2.2.1,fun j v hj=>(World.cell?_of_block (a:=⟨b,o+i*8+j,none⟩) (ho.2.2.2.2 b h.lt hne)).trans (h.cell j v hj)⟩
theorem EF.only0 {w w':World} {lo A:Nat} {x:FV} {q:Rat} (h:EF w lo x q) (ho:Only A w w') (hA:w.heap.size≤A):EF w' lo x q:=h.kept fun b hb=>ho.2.2.2.2 b (h.blks b hb).2 (by have:=(h.blks b hb).2;omega)
theorem EF.only1 {w w':World} {lo A:Nat} {x:FV} {q:Rat} (h:EF w lo x q) (ho:Only A w w') (hA:A<lo):EF w' lo x q:=h.kept fun b hb=>ho.2.2.2.2 b (h.blks b hb).2 (by have:=(h.blks b hb).1;omega)
theorem NewT.below {w w':World} {lo b:Nat} {m:Mo} {q:Rat} (h:NewT w lo b m q) (hb:Below w.heap.size w w'):NewT w' lo b m q:=by
 obtain⟨y,h1,h2⟩:=h.ex;exact⟨y,h1.below hb h1.lt,h2.below hb⟩
def Bx8 (w:World) (b:Nat):Prop:=∃ v0 v1 v2 v3 v4 v5 v6 v7,Bxs w b 32 [v0,v1,v2,v3,v4,v5,v6,v7]
def GX (A:Nat) (Φ:World→Prop) (a b:World):Prop:=Only A a b∧(Bx8 a A→Bx8 b A)∧(Φ a→Φ b)
theorem GX.refl (A:Nat) (Φ:World→Prop) (w:World):GX A Φ w w:=⟨⟨rfl,rfl,rfl,Nat.le_refl _,fun _ _ _=>rfl⟩,id,id⟩
theorem GX.of_below {A:Nat} {Φ:World→Prop} {a b:World} (hb:Below a.heap.size a b) (h8:Bx8 a A) (h:Φ a→Φ b):GX A Φ a b:=⟨Only.of_below hb,fun ⟨v0,v1,v2,v3,v4,v5,v6,v7,hB⟩=>⟨v0,v1,v2,v3,v4,v5,v6,v7,hB.below hb hB.lt⟩,h⟩
theorem put8_only (w:World) (A:Nat) (v0 v1 v2 v3 v4 v5 v6 v7:Value):Only A w (put8 w A v0 v1 v2 v3 v4 v5 v6 v7):=by
 have h1:∀ (u:World) (i:Nat) (v:Value),Only A u (u.setCell ⟨A,i,none⟩ v):=fun u i v=>⟨rfl,rfl,rfl,by simp,fun k _ hne=>Below.heap_setCell _ _ _ _ hne⟩
 exact(((((((h1 _ 0 v0).trans (h1 _ 1 v1)).trans (h1 _ 2 v2)).trans (h1 _ 3 v3)).trans (h1 _ 4 v4)).trans (h1 _ 5 v5)).trans (h1 _ 6 v6)).trans (h1 _ 7 v7)
theorem tup8 {c4 c5 c6 c7:Value} {x y:FV} (h:Value.tuple #[.agg #[.bool x.t.s,.slice x.t.a x.t.n x.t.c,.bool x.l.s,.slice x.l.a x.l.n x.l.c,c4,c5,c6,c7],.bool true]=.tuple #[.agg #[.bool y.t.s,.slice y.t.a y.t.n y.t.c,.bool y.l.s,.slice y.l.a y.l.n y.l.c,c4,c5,c6,c7],.bool true]):x=y:=FV.inj (by
 simp only[Value.tuple.injEq,Value.agg.injEq,Value.bool.injEq,Value.slice.injEq,Array.mk.injEq,List.cons.injEq] at h;obtain⟨⟨e1,⟨e2,e3,e4⟩,e5,⟨e6,e7,e8⟩,-⟩,-⟩:=h;show Value.agg #[.bool x.t.s,.slice x.t.a x.t.n x.t.c,.bool x.l.s,.slice x.l.a x.l.n x.l.c]=.agg #[.bool y.t.s,.slice y.t.a y.t.n y.t.c,.bool y.l.s,.slice y.l.a y.l.n y.l.c]
 rw[e1,e2,e3,e4,e5,e6,e7,e8])
theorem single_kp {w:World} {b:Nat} {y:FV} {m:Mo} {q:Rat} (hb:Bxs w b 32 (TV.cells ⟨y,m⟩)) (hy:KF w y q) (hm:m.Small) (h0:q≠0):KP w ⟨some ⟨b,0,none⟩,1,1⟩ [(m,q)]:=by
 refine⟨⟨[(⟨y,m⟩,q)],⟨fun _=>⟨b,0,rfl,fun i t hi j v hj=>?_⟩⟩,rfl,fun e he=>?_,rfl⟩,Nat.le_refl _,canon_single h0,fun t ht=>?_⟩
 ·match i,hi with
  | 0,hi =>
   obtain rfl:(⟨y,m⟩:TV)=t:=Option.some.inj hi;have h:=hb.cell hj
   simpa using h
 ·rw[List.mem_singleton.1 he];exact hy
 ·rw[List.mem_singleton.1 ht];exact hm
theorem single_ep {V:World} {lo:Nat} {y:FV} {m:Mo} {q:Rat} (h:EF V lo y q) (hlo:lo≤V.heap.size) (hm:m.Small) (h0:q≠0):EP (V.alloc (.cells (TV.cells ⟨y,m⟩).toArray 32)) lo ⟨some ⟨V.heap.size,0,none⟩,1,1⟩ [(m,q)]:=by
 have hal:Below V.heap.size V (V.alloc (.cells (TV.cells ⟨y,m⟩).toArray 32)):=(Below.refl _ _).alloc (Nat.le_refl _) _;refine⟨⟨[(⟨y,m⟩,q)],⟨?_,fun e he=>?_⟩,rfl⟩,canon_single h0,fun t ht=>?_⟩
 ·show World.ownsRow _ _ _ _ _ _ _;exact World.ownsRow_lit (base:=lo) (e:=32) (size:=8) V (TV.cells ⟨y,m⟩).toArray 1 hlo (by decide) rfl
 ·rw[List.mem_singleton.1 he];exact h.below hal
 ·rw[List.mem_singleton.1 ht];exact hm
theorem ER.get {w:World} {lo n c:Nat} {a:Option Addr} {L:List TE} (h:ER w lo (.slice a n c) L) {i:Nat} {e:TE} (hi:L[i]?=some e):∃ b o,a=some ⟨b,o,none⟩∧RE w b o i e.1:=by
 obtain⟨a2,c2,e2,-,hr⟩:=OT.slice h.row
 obtain rfl:a=a2:=by injection e2
 obtain⟨b,o,ha,hc⟩:=hr.one (fun h0=>by rw[List.map_eq_nil_iff.1 h0] at hi;simp at hi);exact⟨b,o,ha,hc i e.1 (by rw[List.getElem?_map,hi];rfl)⟩
theorem row_rows {w:World} {g n:Nat} {f:Nat→Value} (h:w.rowIs g 35 n f) (i:Nat) (v:Value):∀ (b:Nat) (c:Array Value) (T:TypeId),w.heap[b]?=some (.cells c T (0,0))→(T==32 || T==44)=true→(w.setCell ⟨g,i,none⟩ v).heap[b]?=w.heap[b]?:=fun b c T hb hT =>
 Below.heap_setCell _ _ _ _ fun e=>by
  have e:b=g:=e;subst e;obtain⟨cur,h2,-⟩:=h;rw[hb] at h2
  have:T=35:=by injection h2 with h2;injection h2
  subst this;exact absurd hT (by decide)
theorem rdivide_k (o:Int) (p:PV) (P:List Tm) (a:Option Addr) (c:Nat) (qs:List (PV × List Tm)) (ds:List Dv) (Inv:DS→Prop) (μ:DS→Nat) (k kd nd n:Nat) (w:World) (ho:o≤2) (hp:KP w p P) (hr:RS w a (qs.map Prod.fst)) (hq:∀ q∈qs,KP w q.1 q.2)
  (hds:ds.map Prod.snd=qs.map Prod.snd) (hP:DivP o ds Inv μ k kd nd n) (h0:Inv ⟨P,[],List.replicate ds.length []⟩) (hn:qs.length≤1000) :
  Calls Tryz.prog 6 #[.int .u8 o,p.v,.slice a qs.length c] w (RDivR w o ds Inv):=by
 have hk:=hP.hk;have hkk:=hP.hkk;have hn4:=hP.hn;have hnd:=hP.hnd
 have hdq:∀ (j:Nat) (q:PV × List Tm),qs[j]?=some q→∃ d,ds[j]?=some d∧d.2=q.2∧(∀ t∈q.2,LQ t.2 kd)∧q.2.length≤nd∧Lead (keyO o) q.2 d.1:=fun j q hj=>by
  have h:=congrArg (fun l:List (List Tm)=>l[j]?) hds;simp only[List.getElem?_map] at h;rw[hj] at h;obtain⟨d,hd,e⟩:=Option.map_eq_some_iff.1 h;obtain⟨g1,g2,g3⟩:=hP.dl d (List.mem_of_getElem? hd);have e:d.2=q.2:=e;rw[e] at g1 g2 g3;exact⟨d,hd,e,g1,g2,g3⟩
 have hlen:=hP.len _ h0;have hlq:=hP.lq _ h0;have HP0:=qh hp;have CK:=qh (rcheck_k hp (fun t ht=>(hlq.1 t ht).up (by omega)) (by rw[hp.len];have:=hlen.1;show P.length≤_;change P.length≤n at this;omega));have HPQ:=qh (show ∀ t∈P,LQ t.2 400000 from fun t ht=>(hlq.1 t ht).up (by omega));have HPN:=qh (show p.n≤1000000 by rw[hp.len];have:=hlen.1;change P.length≤n at this;omega);obtain⟨nq,hnq⟩:∃ m,m=qs.length:=⟨_,rfl⟩;have HNL:=qh hnq;have HDL:=qh (show ds.length=nq by rw[hnq,← List.length_map (f:=Prod.snd (α:=Tm)),hds,List.length_map]);have HDP:=qh hP;have HI0:=qh h0;have HQ:=qh hq;have HDQ:=qh hdq;have HRS:=qh hr;have HNQ:=qh (show nq≤1000 by omega);have HK:=qh hk;have HKK:=qh hkk;have HN4:=qh hn4;have HND:=qh hnd
 have hog:¬(2<o):=by omega
 rw[← hnq];obtain⟨pa,pn,pc⟩:=p;clear hk hkk hn4 hnd hdq hlen hlq hp hr hq hds hP h0 hn hnq ho;change Calls Tryz.prog 6 #[.int .u8 o,.slice pa pn pc,.slice a nq c] w _;go_enter Tryz.func6,Tryz.ntmps6;go_wp2_with fail
 with_reducible refine CK.out.mono ?_
 rintro e w1 ⟨rfl,hb⟩;have KG:=qh hb;clear hb CK;go_wp2_with fail
 go_loopw [9] (fun i wr=>∃ j:Nat,j≤nq∧i=.int .i64 j∧Below w.heap.size w wr) (fun i _=>nq-(intOf i).toNat)
 case atStart=>exact⟨0,Nat.zero_le _,rfl,KG.out⟩
 case round =>
  obtain⟨j,hj,rfl,hb0⟩:=hrel;have HJ:=qh hj;have KG:=qh hb0;clear hj hb0
  by_cases hjn:j<nq
  ·have HJN:=qh hjn
   have hlt:(j:Int)<(nq:Int):=by omega
   obtain⟨⟨⟨qa,qn,qc⟩,D⟩,hqj⟩:∃ q,qs[j]?=some q:=⟨_,List.getElem?_eq_getElem (by rw[← HNL.out];exact hjn)⟩;obtain⟨d,-,-,g1,g2,-⟩:=HDQ.out j _ hqj;have hkq:=HQ.out _ (List.mem_of_getElem? hqj);obtain⟨pb,po,rfl,hcs⟩:=(HRS.out.below KG.out).ex (fun e=>by rw[List.map_eq_nil_iff] at e;rw[e] at hqj;simp at hqj);have hc:=hcs j ⟨qa,qn,qc⟩ (by rw[List.getElem?_map,hqj];rfl);have CKJ:=qh (show Calls Tryz.prog 18 #[.slice qa qn qc] wr _ from rcheck_k (x:=⟨qa,qn,qc⟩) (hkq.below KG.out) (fun t ht=>(g1 t ht).up (by have:=HK.out;omega)) (by have h:qn=D.length:=hkq.len;have h2:D.length≤nd:=g2;have:=HND.out;show qn≤_;omega));have ek:IntKind.i64.wrap ((j:Int)+1)=(j:Int)+1:=IntWalk.i64_in _ (by have:=HJN.out;have:=HNQ.out;omega);change wr.cell? ⟨pb,po+j,none⟩=some (.slice qa qn qc) at hc;clear hjn g1 g2 hkq hcs hqj;go_wp2_with fail
   with_reducible refine CKJ.out.mono ?_
   rintro e w2 ⟨rfl,hb⟩;have KG:=qk KG hb;clear hb CKJ hc;go_wp2_with fail
   go_roundw
   case rel=>exact⟨j+1,HJN.out,rfl,KG.out⟩
   case measure=>simp[intOf];have:=HJN.out;omega
  ·have hge:¬((j:Int)<(nq:Int)):=by omega
   clear hjn;go_wp2_with fail
   go_loopw [10,11] (fun v i wr=>∃ (j:Nat) (z:PV) (L:List TE),j≤nq∧v=z.v∧i=.int .i64 j∧ER wr w.heap.size z.v L∧L.map tm=(ds.take j).map Prod.fst∧Below w.heap.size w wr) (fun _ i _=>nq-(intOf i).toNat)
   case atStart=>exact⟨0,⟨none,0,0⟩,[],Nat.zero_le _,rfl,rfl,ER.nil,rfl,KG.out⟩
   case round =>
    clear KG HJ hge;obtain⟨j,⟨la,ln,lc⟩,L,hj,hv,rfl,her,hL,hb0⟩:=hrel;obtain rfl:_=Value.slice la ln lc:=hv;have HJ:=qh hj;have ERR:=qh her;have HL:=qh hL;have KG:=qh hb0;have HLL:=qh (show L.length=j by have h:=congrArg List.length hL;rw[List.length_map,List.length_map,List.length_take,HDL.out] at h;omega);clear hj her hL hb0
    by_cases hjn:j<nq
    ·have HJN:=qh hjn
     have hlt:(j:Int)<(nq:Int):=by omega
     obtain⟨⟨⟨qa,qn,qc⟩,D⟩,hqj⟩:∃ q,qs[j]?=some q:=⟨_,List.getElem?_eq_getElem (by rw[← HNL.out];exact hjn)⟩;obtain⟨d,hd,-,g1,g2,g3⟩:=HDQ.out j _ hqj;have hkq:=HQ.out _ (List.mem_of_getElem? hqj);have HDJ:=qh hd;have HLD0:=qh g3;have HKQ:=qh hkq;obtain⟨pb,po,rfl,hcs⟩:=(HRS.out.below KG.out).ex (fun e=>by rw[List.map_eq_nil_iff] at e;rw[e] at hqj;simp at hqj);have hc:=hcs j ⟨qa,qn,qc⟩ (by rw[List.getElem?_map,hqj];rfl);have LD:=qh (show Calls Tryz.prog 19 #[.int .u8 o,.slice qa qn qc] wr _ from rlead_any o ⟨qa,qn,qc⟩ D wr (hkq.below KG.out).any (fun t ht=>(g1 t ht).up (by have:=HK.out;omega)) (by have h:qn=D.length:=hkq.len;have h2:D.length≤nd:=g2;have:=HND.out;show qn≤_;omega) (fun e=>by have:=g3.1;change d.1∈D at this;rw[e] at this;cases this));have ek:IntKind.i64.wrap ((j:Int)+1)=(j:Int)+1:=IntWalk.i64_in _ (by have:=HJN.out;have:=HNQ.out;omega);have HEK:=qh ek;change wr.cell? ⟨pb,po+j,none⟩=some (.slice qa qn qc) at hc;clear hjn g1 g2 g3 hkq hcs hqj hd ek;go_wp2_with fail
     with_reducible refine LD.out.mono ?_
     rintro e w2 ⟨y,⟨m,q⟩,rfl,hy,hld,hb⟩;have HY:=qh (show EF w2 w.heap.size y q from hy.mono KG.out.size);have HTM:=qh (show(m,q)=d.1 from lead_uniq (keyO_key o) HKQ.out.canon (fun t ht=>let ⟨g1,g2,g3,g4⟩:=HKQ.out.small t ht;⟨g1,g2,g3,g4⟩) hld HLD0.out);have ERR:=qh (ERR.out.below hb);have KG:=qk KG hb;clear hy hld hb LD hc
     go_upto_region 13 with (fail)
     obtain⟨V,hV⟩:∃ X,X=w2.alloc (.cells #[.bool y.t.s,.slice y.t.a y.t.n y.t.c,.bool y.l.s,.slice y.l.a y.l.n y.l.c,.int .u16 m.x,.int .u16 m.y,.int .u16 m.z,.int .u16 m.t] 32):=⟨_,rfl⟩
     have hbV:Below w2.heap.size w2 V:=by rw[hV];exact(Below.refl _ _).alloc (Nat.le_refl _) _
     have B12:=qh (show Bxs V w2.heap.size 32 [.bool y.t.s,.slice y.t.a y.t.n y.t.c,.bool y.l.s,.slice y.l.a y.l.n y.l.c,.int .u16 m.x,.int .u16 m.y,.int .u16 m.z,.int .u16 m.t] by rw[hV];exact Bxs.new w2 32 [.bool y.t.s,.slice y.t.a y.t.n y.t.c,.bool y.l.s,.slice y.l.a y.l.n y.l.c,.int .u16 m.x,.int .u16 m.y,.int .u16 m.z,.int .u16 m.t]);obtain⟨A12,hA12⟩:∃ A,A=w2.heap.size:=⟨_,rfl⟩;rw[← hV,← hA12];rw[← hA12] at B12;have ERR:=qh (ERR.out.below hbV);have HY:=qh (HY.out.below hbV);have KG:=qk KG hbV;clear hV hbV hA12;have ek:=HEK.out;have c120:=B12.out.cell (i:=0) rfl;have c121:=B12.out.cell (i:=1) rfl;have c122:=B12.out.cell (i:=2) rfl;have c123:=B12.out.cell (i:=3) rfl;have c124:=B12.out.cell (i:=4) rfl;have c125:=B12.out.cell (i:=5) rfl;have c126:=B12.out.cell (i:=6) rfl;have c127:=B12.out.cell (i:=7) rfl;go_wp2_with (first | (at_builtin;refine wpList_pushL (t:=⟨y,m⟩) rfl _ _ rfl rfl (ERR.out.alloc _) (by rw[HLL.out];have:=HJN.out;have:=HNQ.out;omega) (by have h9:=KG.out.size;rw[World.size_alloc];omega) rfl (Bxs.new _ _ _) (HY.out.alloc _) rfl ?_))
     intro z9 w9 her9 hb9;obtain⟨za9,zn9,zc9⟩:=z9;have ER9:=qh her9;have HB9:=qh (hb9.ofAlloc KG.out.size);clear her9 hb9;go_wp2_with fail
     go_roundw
     case rel =>
      refine⟨j+1,⟨za9,zn9,zc9⟩,L++[(⟨y,m⟩,q)],HJN.out,rfl,rfl,ER9.out,?_,KG.out.trans HB9.out⟩;rw[List.map_append,HL.out,List.take_add_one,HDJ.out,List.map_append];show _++[(m,q)]=_++[d.1];rw[HTM.out]
     case measure=>simp[intOf];have:=HJN.out;omega
    ·have hge:¬((j:Int)<(nq:Int)):=by omega
     have HL:=qh (show L.map tm=ds.map Prod.fst by
      have h:=HL.out
      rwa [List.take_of_length_le (by rw[HDL.out];omega)] at h)
     have HLLN:=qh (show L.length=nq by rw[HLL.out];have:=HJ.out;omega)
     obtain rfl:ln=nq:=by
      obtain⟨a2,c2,e2,-,-⟩:=OT.slice ERR.out.row;have e2:Value.slice la ln lc=.slice a2 (L.map Prod.fst).length c2:=e2;rw[List.length_map] at e2
      injection e2 with _ e2 _
      rw[e2,HLLN.out]
     have hmk:=run_make_row' (P:=Tryz.prog) 36 35 (.slice none 0 0) 24 Tryz.underlying36 infoPq rfl .i64 .i64 ln (by have:=HNQ.out;omega) (by have:=HNQ.out;omega);clear hjn HJ HLL
     go_upto_region 18 with (fail)
     obtain⟨V,hV⟩:∃ V:World,V=wr:=⟨_,rfl⟩;obtain⟨g,hg⟩:∃ g,g=wr.heap.size:=⟨_,rfl⟩;obtain⟨W,hW⟩:∃ W,W=wr.alloc (.cells (madeCells #[.slice none 0 0] ln) 35):=⟨_,rfl⟩
     have hbW:Below wr.heap.size wr W:=by rw[hW];exact(Below.refl _ _).alloc (Nat.le_refl _) _
     have ROW:=qh (show W.rowIs g 35 ln (fun i=>((fun _=>⟨none,0,0⟩:Nat→PV) i).v) by rw[hW,hg];exact World.rowIs_made wr (.slice none 0 0) ln 35);rw[← hW,← hg];have KV:=qh (show Below w.heap.size w V by rw[hV];exact KG.out);have ERR:=qh (show ER V w.heap.size (.slice la ln lc) L by rw[hV];exact ERR.out);have KG:=qh (show Below V.heap.size V W by rw[hV];exact hbW);have HGE:=qh (show V.heap.size≤g by rw[hV,hg];exact Nat.le_refl _);have CO:=qh (show Calls Tryz.prog 21 #[.int .i64 1] W _ from rofV 1 W (by omega) (by omega));clear hV hg hW hbW hmk hge;go_wp2_with fail
     with_reducible refine CO.out.mono ?_
     rintro e w2 ⟨dd,rfl,hd,hb⟩;have KG:=qk KG hb;have ROW:=qh (ROW.out.of_block (hb.block g ROW.out.lt));have CS:=qh (show Calls Tryz.prog 20 #[.slice pa pn pc,.agg #[.bool dd.t.s,.slice dd.t.a dd.t.n dd.t.c,.bool dd.l.s,.slice dd.l.a dd.l.n dd.l.c]] w2 _ from rscale_any ⟨pa,pn,pc⟩ P dd 1 w2 ((HP0.out.below KV.out).below KG.out).any (fun t ht=>(HPQ.out t ht).up (by omega)) HPN.out hd.k.any (hd.k.len (LQ.int (n:=1) (by omega) (by omega)) (by omega)) ((LQ.int (n:=1) (by omega) (by omega)).up (by omega)));rw[scale_one HP0.out.canon] at CS;clear hd hb CO;go_wp2_with fail
     with_reducible refine CS.out.mono ?_
     rintro e w3 ⟨⟨xa,xn,xc⟩,he,hx,hb⟩;obtain rfl:e=.returned (.slice xa xn xc):=he;have HX:=qh (hx.mono KG.out.size);have KG:=qk KG hb;have ROW:=qh (ROW.out.of_block (hb.block g ROW.out.lt));clear hx hb CS;go_wp2_with fail
     go_loopw [15,16] (fun rv lv wr=>∃ s,RDI V g ln Inv rv lv wr s) (fun rv lv wr=>leastM (RDI V g ln Inv rv lv wr) μ)
     case atStart =>
      refine⟨⟨P,[],List.replicate ds.length []⟩,⟨⟨⟨xa,xn,xc⟩,⟨none,0,0⟩,fun _=>⟨none,0,0⟩,rfl,rfl,HX.out,EP.nil,ROW.out,fun i q hi=>?_⟩,HI0.out,?_,KG.out⟩⟩
      ·have h:=List.mem_of_getElem? hi;rw[(List.mem_replicate.1 h).2];exact EP.nil
      ·show(List.replicate ds.length ([]:List Tm)).length=ln;rw[List.length_replicate,HDL.out]
     case round =>
      clear HX KG ROW HI0 HP0;obtain⟨s,hs,hmu⟩:=least_at (μ:=μ) hrel;clear hrel;obtain⟨⟨⟨xa,xn,xc⟩,⟨ra,rn,rc⟩,Z,hlv,hrv,hx,hrr,hrow,hzs⟩,hinv,hlen,hb0⟩:=hs;obtain rfl:_=Value.slice xa xn xc:=hlv;obtain rfl:_=Value.slice ra rn rc:=hrv;have HMU:=qh hmu;have HX:=qh hx;have HRR:=qh hrr;have ROW:=qh hrow;have HZS:=qh hzs;have HIN:=qh hinv;have HSL:=qh hlen;have KG:=qh hb0;have HLQ:=qh (HDP.out.lq s hinv);have HLN:=qh (HDP.out.len s hinv);have HXL:=qh (show xn=s.p.length from hx.k.len);have HRL:=qh (show rn=s.r.length from hrr.k.len)
      have HOC:=qh (show ∀ q∈s.os,Canon q from fun q hq=>by
       obtain⟨i,hi⟩:=List.mem_iff_getElem?.1 hq
       exact(hzs i q hi).canon)
      clear hmu hx hrr hrow hzs hinv hlen hb0
      by_cases hz:s.p=[]
      ·have hp0:¬((xn:Int)>0):=by have h:=HXL.out;rw[hz] at h;change xn=0 at h;omega
       have hp0':¬((0:Int)<(xn:Int)):=hp0;have HZ:=qh hz;clear hz;go_wp2_with fail
       go_ret3;exact Or.inl ⟨g,ln,Z,⟨ra,rn,rc⟩,s,rfl,HSL.out.symm,HDL.out.symm,ROW.out,fun i q hi=>(HZS.out i q hi).mono KV.out.size,HRR.out.mono KV.out.size,HIN.out,HZ.out,KV.out.trans (KG.out.mono KV.out.size)⟩
      ·have hpos:(xn:Int)>0:=by have h:=HXL.out;have:=List.length_pos_iff.2 hz;omega
       have hpos':(0:Int)<(xn:Int):=hpos;have LD:=qh (show Calls Tryz.prog 19 #[.int .u8 o,.slice xa xn xc] wr _ from rlead_any o ⟨xa,xn,xc⟩ s.p wr HX.out.k.any (fun t ht=>(HLQ.out.1 t ht).up (by have:=HK.out;omega)) (by have:=HXL.out;have:=HLN.out.1;have:=HN4.out;show xn≤_;omega) hz);clear hz;go_wp2_with fail
       with_reducible refine LD.out.mono ?_
       rintro e w4 ⟨y,⟨tmm,tq⟩,rfl,hy,hld,hb⟩;have HLD:=qh hld;have HY:=qh (hy.mono KG.out.size);have HX:=qh (HX.out.below hb);have HRR:=qh (HRR.out.below hb);have ROW:=qh (ROW.out.of_block (hb.block g ROW.out.lt));have HZS:=qh (show ∀ i q,s.os[i]?=some q→EP _ V.heap.size (Z i) q from fun i q hi=>(HZS.out i q hi).below hb);have KG:=qk KG hb;have HTS:=qh (show tmm.Small from HX.out.small _ hld.1);have HTZ:=qh (show tq≠0 from HX.out.canon.non _ hld.1);have HTQ:=qh (show LQ tq k from HLQ.out.1 _ hld.1);clear hy hld hb LD
       go_upto_region 21 with (fail)
       obtain⟨W0,hW0⟩:∃ X,X=w4.alloc (.cells #[.bool y.t.s,.slice y.t.a y.t.n y.t.c,.bool y.l.s,.slice y.l.a y.l.n y.l.c,.int .u16 tmm.x,.int .u16 tmm.y,.int .u16 tmm.z,.int .u16 tmm.t] 32):=⟨_,rfl⟩
       have hbW0:Below w4.heap.size w4 W0:=by rw[hW0];exact(Below.refl _ _).alloc (Nat.le_refl _) _
       have B17:=qh (show Bxs W0 w4.heap.size 32 [.bool y.t.s,.slice y.t.a y.t.n y.t.c,.bool y.l.s,.slice y.l.a y.l.n y.l.c,.int .u16 tmm.x,.int .u16 tmm.y,.int .u16 tmm.z,.int .u16 tmm.t] by rw[hW0];exact Bxs.new w4 32 [.bool y.t.s,.slice y.t.a y.t.n y.t.c,.bool y.l.s,.slice y.l.a y.l.n y.l.c,.int .u16 tmm.x,.int .u16 tmm.y,.int .u16 tmm.z,.int .u16 tmm.t]);obtain⟨A17,hA17⟩:∃ A,A=w4.heap.size:=⟨_,rfl⟩;rw[← hW0,← hA17];rw[← hA17] at B17;have HX:=qh (HX.out.below hbW0);have HRR:=qh (HRR.out.below hbW0);have ROW:=qh (ROW.out.of_block (hbW0.block g ROW.out.lt));have HZS:=qh (show ∀ i q,s.os[i]?=some q→EP _ V.heap.size (Z i) q from fun i q hi=>(HZS.out i q hi).below hbW0);have KG:=qk KG hbW0;have HY:=qh (HY.out.below hbW0);have HVW0:=qh KG.out.size;have HB17L:=qh B17.out.lt;clear hW0 hbW0 hA17
       go_upto_region 23 with (fail)
       obtain⟨W1,hW1⟩:∃ X,X=W0.alloc (.cells #[.bool false,.slice none 0 0,.bool false,.slice none 0 0,.int .u16 0,.int .u16 0,.int .u16 0,.int .u16 0] 32):=⟨_,rfl⟩
       have hbW1:Below W0.heap.size W0 W1:=by rw[hW1];exact(Below.refl _ _).alloc (Nat.le_refl _) _
       have B20:=qh (show Bxs W1 W0.heap.size 32 [.bool false,.slice none 0 0,.bool false,.slice none 0 0,.int .u16 0,.int .u16 0,.int .u16 0,.int .u16 0] by rw[hW1];exact Bxs.new W0 32 [.bool false,.slice none 0 0,.bool false,.slice none 0 0,.int .u16 0,.int .u16 0,.int .u16 0,.int .u16 0]);obtain⟨A20,hA20⟩:∃ A,A=W0.heap.size:=⟨_,rfl⟩;rw[← hW1,← hA20];rw[← hA20] at B20;have BW:=qh (show Bt W0 W1 from⟨hbW1⟩);have HA20:=qh (show W0.heap.size≤A20 by omega);have HVA:=qh (show V.heap.size≤A20 by have:=HVW0.out;omega);have HNE:=qh (show A17≠A20 by have:=HB17L.out;omega);clear hW1 hbW1 hA20;go_wp2_with fail
       go_loopw [19,21] (fun kv ov wi=>∃ (j:Nat),kv=.int .i64 j∧j≤ln∧(∀ (i:Nat) (e:Dv),i<j→ds[i]?=some e→¬e.1.1.stands tmm)∧Below W0.heap.size W0 wi∧((ov=.bool false∧Bxs wi A20 32 [.bool false,.slice none 0 0,.bool false,.slice none 0 0,.int .u16 0,.int .u16 0,.int .u16 0,.int .u16 0])∨(ov=.bool true∧∃ (d:Dv) (u:FV),ds[j]?=some d∧d.1.1.stands tmm∧Bxs wi A20 32 [.bool u.t.s,.slice u.t.a u.t.n u.t.c,.bool u.l.s,.slice u.l.a u.l.n u.l.c,.int .u16 (tmm.quo d.1.1).x,.int .u16 (tmm.quo d.1.1).y,.int .u16 (tmm.quo d.1.1).z,.int .u16 (tmm.quo d.1.1).t]∧EF wi W0.heap.size u (tq/d.1.2)))) (fun kv ov _=>(ln-(intOf kv).toNat)+okN ov)
       case atStart=>exact⟨0,rfl,Nat.zero_le _,fun i e h=>absurd h (Nat.not_lt_zero _),BW.out.b,Or.inl ⟨rfl,B20.out⟩⟩
       case round =>
        clear BW B20;obtain⟨j,rfl,hj,hno,hbw,hcase⟩:=hrel;have HJ:=qh hj;have HNO:=qh hno;have BW:=qh (show Bt W0 wr from⟨hbw⟩);have B17:=qh (B17.out.below hbw B17.out.lt);have HX:=qh (HX.out.below hbw);have HRR:=qh (HRR.out.below hbw);have ROW:=qh (ROW.out.of_block (hbw.block g ROW.out.lt));have HZS:=qh (show ∀ i q,s.os[i]?=some q→EP _ V.heap.size (Z i) q from fun i q hi=>(HZS.out i q hi).below hbw);have KG:=qk KG hbw;clear hj hno hbw
        rcases hcase with ⟨rfl,hb20⟩ | ⟨rfl,d,u,hdj,hst,hb20,hu⟩
        ·have B20:=qh hb20;clear hb20
         by_cases hjn:j<ln
         ·have HJN:=qh hjn
          have hlt:(j:Int)<(ln:Int):=by omega
          obtain⟨d,hdj⟩:∃ d,ds[j]?=some d:=⟨_,List.getElem?_eq_getElem (by rw[HDL.out];exact hjn)⟩;obtain⟨e,hej⟩:∃ e,L[j]?=some e:=⟨_,List.getElem?_eq_getElem (by rw[HLLN.out];exact hjn)⟩
          have hed:(e.1.m,e.2)=d.1:=by
           have h:=congrArg (fun l:List Tm=>l[j]?) HL.out;simp only[List.getElem?_map] at h;rw[hej,hdj] at h;exact Option.some.inj h
          have HED:=qh hed;have HDJ:=qh hdj;obtain⟨lb,lo,rfl,hre⟩:=ERR.out.get hej;have HEF:=qh (ERR.out.num e (List.mem_of_getElem? hej));have HLB:=qh hre.lt;have E1:=qh (hre.below KG.out);obtain⟨⟨qv,D⟩,hqj⟩:∃ q,qs[j]?=some q:=⟨_,List.getElem?_eq_getElem (by rw[← HNL.out];exact hjn)⟩;obtain⟨d2,hd2,-,g1,-,g3⟩:=HDQ.out j _ hqj;obtain rfl:d=d2:=Option.some.inj (hdj.symm.trans hd2);have hkq:=HQ.out _ (List.mem_of_getElem? hqj);have HDS:=qh (show d.1.1.Small from hkq.small _ g3.1);have HDZ:=qh (show d.1.2≠0 from hkq.canon.non _ g3.1);have HDQ1:=qh (show LQ d.1.2 kd from g1 _ g3.1);clear hjn hdj hej hed hre hqj hd2 g1 g3 hkq;have HEM:=qh (show e.1.m=d.1.1 from congrArg Prod.fst HED.out);have HEQ:=qh (show e.2=d.1.2 from congrArg Prod.snd HED.out);have HES:=qh (show e.1.m.Small by rw[HEM.out];exact HDS.out);have HEZ:=qh (show e.2≠0 by rw[HEQ.out];exact HDZ.out);have HLY:=qh (show LF y 900000 from HY.out.k.len HTQ.out (by have:=HK.out;omega));have HLE:=qh (show LF e.1.c 900000 from HEF.out.k.len (show LQ e.2 kd by rw[HEQ.out];exact HDQ1.out) (by have:=HK.out;omega));have ek:IntKind.i64.wrap ((j:Int)+1)=(j:Int)+1:=IntWalk.i64_in _ (by have:=HJN.out;have:=HNQ.out;omega)
          by_cases hst:d.1.1.stands tmm
          ·have HST:=qh hst;have HSE:=qh (show e.1.m.stands tmm by rw[HEM.out];exact hst);clear hst;have HLA:=qh B20.out.lt;have HBX:=qh (show Bx8 wr A20 from⟨_,_,_,_,_,_,_,_,B20.out⟩);have HB7:=qh (show ∀ w',Only A20 wr w'→Bxs w' A17 32 [.bool y.t.s,.slice y.t.a y.t.n y.t.c,.bool y.l.s,.slice y.l.a y.l.n y.l.c,.int .u16 tmm.x,.int .u16 tmm.y,.int .u16 tmm.z,.int .u16 tmm.t] from fun w' h=>(h.2.2.2.2 A17 B17.out.lt HNE.out).trans B17.out);have HEO:=qh (show ∀ w',Only A20 wr w'→RE w' lb lo j e.1 from fun w' h=>E1.out.only h (by have:=HLB.out;have:=HVA.out;omega));have HYO:=qh (show ∀ w',Only A20 wr w'→KF w' y tq from fun w' h=>(HY.out.only0 ((Only.of_below BW.out.b).trans h) HA20.out).k);have HFO:=qh (show ∀ w',Only A20 wr w'→KF w' e.1.c e.2 from fun w' h=>(HEF.out.only0 ((Only.of_below KG.out).trans h) HVA.out).k)
           go_upto_region 25 with (fail)
           refine Go.FreshH.wp_region_fresh 10 (Go.FreshH.spOf [(5,Go.FreshH.Sp.made (fun x:FV=>Value.tuple #[.agg #[.bool x.t.s,.slice x.t.a x.t.n x.t.c,.bool x.l.s,.slice x.l.a x.l.n x.l.c,.int .u16 (tmm.quo d.1.1).x,.int .u16 (tmm.quo d.1.1).y,.int .u16 (tmm.quo d.1.1).z,.int .u16 (tmm.quo d.1.1).t],.bool true]) (fun x w'=>EF w' wr.heap.size x (tq/d.1.2))),(9,((fun v=>v=undef),fun _ w'=>(fun w'=>NewT w' wr.heap.size A20 (tmm.quo d.1.1) (tq/d.1.2)) w'))])
            (G:=GX A20 (fun w'=>NewT w' wr.heap.size A20 (tmm.quo d.1.1) (tq/d.1.2))) (fun w'=>Only A20 wr w'∧Bx8 w' A20) (by kernel_rfl) (by kernel_rfl)
            (Go.FreshH.spOf_cons (Go.FreshH.Sp.made_keeps fun x w w' h hG=>h.only1 hG.1 HLA.out) (Go.FreshH.spOf_cons (fun v w w' h hG=>hG.2.2 h) Go.FreshH.spOf_nil))
            ⟨fun w=>GX.refl _ _ w,fun _ _ h hG=>⟨h.1.trans hG.1,hG.2.1 h.2⟩⟩ ⟨Only.of_below (Below.refl _ _).drew,HBX.out⟩ ?_
           simp only[List.append_eq,List.cons_append,List.nil_append,List.take_succ_cons,List.take_zero,List.drop_succ_cons,List.drop_zero]
           iterate 5
            refine Go.FreshH.wpF_reads rfl rfl ?_ (fun w' hw'=>?_) ?_;rotate_left
            ·have hb':=hw'.world;have hB:=HB7.out w' hb'.1;have hs0:=hB.cell (i:=0) rfl;have hs1:=hB.cell (i:=1) rfl;have hs2:=hB.cell (i:=2) rfl;have hs3:=hB.cell (i:=3) rfl;have hs4:=hB.cell (i:=4) rfl;have hs5:=hB.cell (i:=5) rfl;have hs6:=hB.cell (i:=6) rfl;have hs7:=hB.cell (i:=7) rfl;have hsf:=hB.fz;have hsl:=hB.lt;obtain⟨hs0,hs1,hs2,hs3,hs4,hs5,hs6,hs7⟩:=(HEO.out w' hb'.1).eight;clear hw';go_simp
             try rfl
            conv=>arg 10;simp only[Act.put,zq0,zq1,zq2]
           refine Go.FreshH.wpF_spec rfl rfl (fun w' hw'=>?_) ?_
           ·have hb':=hw'.world;clear hw';go_simp
            have CB:Calls Tryz.prog 22 #[.agg #[.bool y.t.s,.slice y.t.a y.t.n y.t.c,.bool y.l.s,.slice y.l.a y.l.n y.l.c,.int .u16 tmm.x,.int .u16 tmm.y,.int .u16 tmm.z,.int .u16 tmm.t],.agg #[.bool e.1.c.t.s,.slice e.1.c.t.a e.1.c.t.n e.1.c.t.c,.bool e.1.c.l.s,.slice e.1.c.l.a e.1.c.l.n e.1.c.l.c,.int .u16 e.1.m.x,.int .u16 e.1.m.y,.int .u16 e.1.m.z,.int .u16 e.1.m.t]] w' (fun e2 w''=>∃ x:FV,e2=.returned (.tuple #[TV.v ⟨x,tmm.quo d.1.1⟩,.bool true])∧EF w'' w'.heap.size x (tq/d.1.2)∧Below w'.heap.size w' w''):=by
             rw[← HEM.out,← HEQ.out];exact rby_y ⟨y,tmm⟩ e.1 tq e.2 w' (HYO.out w' hb'.1) HLY.out (HFO.out w' hb'.1) HLE.out HTS.out HES.out HSE.out HEZ.out
            with_reducible refine CB.mono ?_
            rintro e2 w'' ⟨x,rfl,hx,hb⟩;exact⟨_,rfl,⟨⟨x,rfl⟩,⟨x,rfl,hx.mono hb'.1.2.2.2.1⟩⟩,GX.of_below hb hb'.2 fun h=>h.below hb⟩
           rintro _ ⟨u,rfl⟩
           conv=>arg 10;simp only[Act.put,zq0,zq1,zq2]
           iterate 3
            refine Go.FreshH.wpF_reads rfl rfl ?_ (fun w' hw'=>?_) ?_;rotate_left
            ·have hb':=hw'.world;skip;clear hw';go_simp
             try rfl
            conv=>arg 10;simp only[Act.put,zq0,zq1,zq2]
           refine Go.FreshH.wpF_spec rfl rfl (fun w' hw'=>?_) ?_
           ·have hb':=hw'.world;obtain⟨x,ex,hx⟩:=hw'.fact 5 (by kernel_rfl);obtain rfl:u=x:=tup8 ex;clear hw';obtain⟨v0,v1,v2,v3,v4,v5,v6,v7,hB⟩:=hb'.2;have hs0:=hB.cell (i:=0) rfl;have hs1:=hB.cell (i:=1) rfl;have hs2:=hB.cell (i:=2) rfl;have hs3:=hB.cell (i:=3) rfl;have hs4:=hB.cell (i:=4) rfl;have hs5:=hB.cell (i:=5) rfl;have hs6:=hB.cell (i:=6) rfl;have hs7:=hB.cell (i:=7) rfl;have hsf:=hB.fz;have hsl:=hB.lt;go_simp;have hN:NewT (put8 w' A20 (.bool u.t.s) (.slice u.t.a u.t.n u.t.c) (.bool u.l.s) (.slice u.l.a u.l.n u.l.c) (.int .u16 (tmm.quo d.1.1).x) (.int .u16 (tmm.quo d.1.1).y) (.int .u16 (tmm.quo d.1.1).z) (.int .u16 (tmm.quo d.1.1).t)) wr.heap.size A20 (tmm.quo d.1.1) (tq/d.1.2):=⟨⟨u,put8_bxs hB ..,put8_ef hx hB (by decide) ..⟩⟩;exact⟨hN,put8_only ..,fun _=>⟨_,_,_,_,_,_,_,_,put8_bxs hB ..⟩,fun _=>hN⟩
           rintro _ rfl
           conv=>arg 10;simp only[Act.put,zq0,zq1,zq2]
           refine Go.FreshH.wpF_nil (fun w6 hC1 hF=>?_);obtain⟨⟨u2,hB,hE⟩⟩:=(show NewT w6 wr.heap.size A20 (tmm.quo d.1.1) (tq/d.1.2) from hF 9);have B20:=qh hB;have HU:=qh (hE.mono BW.out.b.size);have BW:=qh (show Bt W0 w6 from⟨BW.out.b.trans (hC1.1.below HA20.out BW.out.b.size)⟩);clear hF hC1 hB hE HBX HB7 HEO HYO HFO;go_wp2_with fail
           go_roundw
           case rel=>exact⟨j,rfl,HJ.out,HNO.out,BW.out.b,Or.inr ⟨rfl,d,u2,HDJ.out,HST.out,B20.out,HU.out⟩⟩
           case measure=>simp[okN]
          ·have HST:=qh hst;have HSE:=qh (show ¬e.1.m.stands tmm by rw[HEM.out];exact hst);clear hst;have HLA:=qh B20.out.lt;have HBX:=qh (show Bx8 wr A20 from⟨_,_,_,_,_,_,_,_,B20.out⟩);have HB7:=qh (show ∀ w',Only A20 wr w'→Bxs w' A17 32 [.bool y.t.s,.slice y.t.a y.t.n y.t.c,.bool y.l.s,.slice y.l.a y.l.n y.l.c,.int .u16 tmm.x,.int .u16 tmm.y,.int .u16 tmm.z,.int .u16 tmm.t] from fun w' h=>(h.2.2.2.2 A17 B17.out.lt HNE.out).trans B17.out);have HEO:=qh (show ∀ w',Only A20 wr w'→RE w' lb lo j e.1 from fun w' h=>E1.out.only h (by have:=HLB.out;have:=HVA.out;omega));have HYO:=qh (show ∀ w',Only A20 wr w'→KF w' y tq from fun w' h=>(HY.out.only0 ((Only.of_below BW.out.b).trans h) HA20.out).k);have HFO:=qh (show ∀ w',Only A20 wr w'→KF w' e.1.c e.2 from fun w' h=>(HEF.out.only0 ((Only.of_below KG.out).trans h) HVA.out).k)
           go_upto_region 25 with (fail)
           refine Go.FreshH.wp_region_fresh 10 (Go.FreshH.spOf [(5,Go.FreshH.Sp.know (.tuple #[.agg #[.bool false,.slice none 0 0,.bool false,.slice none 0 0,.int .u16 0,.int .u16 0,.int .u16 0,.int .u16 0],.bool false])),(9,((fun v=>v=undef),fun _ w'=>(fun w'=>Bxs w' A20 32 [.bool false,.slice none 0 0,.bool false,.slice none 0 0,.int .u16 0,.int .u16 0,.int .u16 0,.int .u16 0]) w'))])
            (G:=GX A20 (fun w'=>Bxs w' A20 32 [.bool false,.slice none 0 0,.bool false,.slice none 0 0,.int .u16 0,.int .u16 0,.int .u16 0,.int .u16 0])) (fun w'=>Only A20 wr w'∧Bx8 w' A20) (by kernel_rfl) (by kernel_rfl)
            (Go.FreshH.spOf_cons (Go.FreshH.Sp.know_keeps _) (Go.FreshH.spOf_cons (fun v w w' h hG=>hG.2.2 h) Go.FreshH.spOf_nil))
            ⟨fun w=>GX.refl _ _ w,fun _ _ h hG=>⟨h.1.trans hG.1,hG.2.1 h.2⟩⟩ ⟨Only.of_below (Below.refl _ _).drew,HBX.out⟩ ?_
           simp only[List.append_eq,List.cons_append,List.nil_append,List.take_succ_cons,List.take_zero,List.drop_succ_cons,List.drop_zero]
           iterate 5
            refine Go.FreshH.wpF_reads rfl rfl ?_ (fun w' hw'=>?_) ?_;rotate_left
            ·have hb':=hw'.world;have hB:=HB7.out w' hb'.1;have hs0:=hB.cell (i:=0) rfl;have hs1:=hB.cell (i:=1) rfl;have hs2:=hB.cell (i:=2) rfl;have hs3:=hB.cell (i:=3) rfl;have hs4:=hB.cell (i:=4) rfl;have hs5:=hB.cell (i:=5) rfl;have hs6:=hB.cell (i:=6) rfl;have hs7:=hB.cell (i:=7) rfl;have hsf:=hB.fz;have hsl:=hB.lt;obtain⟨hs0,hs1,hs2,hs3,hs4,hs5,hs6,hs7⟩:=(HEO.out w' hb'.1).eight;clear hw';go_simp
             try rfl
            conv=>arg 10;simp only[Act.put,zq0,zq1,zq2]
           refine Go.FreshH.wpF_spec rfl rfl (fun w' hw'=>?_) ?_
           ·have hb':=hw'.world;clear hw';go_simp;have CB:=(show Calls Tryz.prog 22 #[.agg #[.bool y.t.s,.slice y.t.a y.t.n y.t.c,.bool y.l.s,.slice y.l.a y.l.n y.l.c,.int .u16 tmm.x,.int .u16 tmm.y,.int .u16 tmm.z,.int .u16 tmm.t],.agg #[.bool e.1.c.t.s,.slice e.1.c.t.a e.1.c.t.n e.1.c.t.c,.bool e.1.c.l.s,.slice e.1.c.l.a e.1.c.l.n e.1.c.l.c,.int .u16 e.1.m.x,.int .u16 e.1.m.y,.int .u16 e.1.m.z,.int .u16 e.1.m.t]] w' _ from rby_n ⟨y,tmm⟩ e.1 w' HTS.out HES.out HSE.out);with_reducible refine CB.mono ?_
            rintro e2 w'' ⟨rfl,hb⟩;exact⟨_,rfl,rfl,GX.of_below hb hb'.2 fun h=>h.below hb h.lt⟩
           rintro _ rfl
           conv=>arg 10;simp only[Act.put,zq0,zq1,zq2]
           iterate 3
            refine Go.FreshH.wpF_reads rfl rfl ?_ (fun w' hw'=>?_) ?_;rotate_left
            ·have hb':=hw'.world;skip;clear hw';go_simp
             try rfl
            conv=>arg 10;simp only[Act.put,zq0,zq1,zq2]
           refine Go.FreshH.wpF_spec rfl rfl (fun w' hw'=>?_) ?_
           ·have hb':=hw'.world;clear hw';obtain⟨v0,v1,v2,v3,v4,v5,v6,v7,hB⟩:=hb'.2;have hs0:=hB.cell (i:=0) rfl;have hs1:=hB.cell (i:=1) rfl;have hs2:=hB.cell (i:=2) rfl;have hs3:=hB.cell (i:=3) rfl;have hs4:=hB.cell (i:=4) rfl;have hs5:=hB.cell (i:=5) rfl;have hs6:=hB.cell (i:=6) rfl;have hs7:=hB.cell (i:=7) rfl;have hsf:=hB.fz;have hsl:=hB.lt;go_simp;have hN:Bxs (put8 w' A20 (.bool false) (.slice none 0 0) (.bool false) (.slice none 0 0) (.int .u16 0) (.int .u16 0) (.int .u16 0) (.int .u16 0)) A20 32 [.bool false,.slice none 0 0,.bool false,.slice none 0 0,.int .u16 0,.int .u16 0,.int .u16 0,.int .u16 0]:=put8_bxs hB ..;exact⟨hN,put8_only ..,fun _=>⟨_,_,_,_,_,_,_,_,put8_bxs hB ..⟩,fun _=>hN⟩
           rintro _ rfl
           conv=>arg 10;simp only[Act.put,zq0,zq1,zq2]
           refine Go.FreshH.wpF_nil (fun w6 hC1 hF=>?_);have B20:=qh (show Bxs w6 A20 32 [.bool false,.slice none 0 0,.bool false,.slice none 0 0,.int .u16 0,.int .u16 0,.int .u16 0,.int .u16 0] from hF 9);have BW:=qh (show Bt W0 w6 from⟨BW.out.b.trans (hC1.1.below HA20.out BW.out.b.size)⟩);clear hF hC1 HBX HB7 HEO HYO HFO;go_wp2_with fail
           go_roundw
           case rel =>
            refine⟨j+1,rfl,HJN.out,fun i f hi hf=>?_,BW.out.b,Or.inl ⟨rfl,B20.out⟩⟩
            by_cases hij:i<j
            ·exact HNO.out i f hij hf
            ·obtain rfl:i=j:=by omega
             rw[HDJ.out] at hf;obtain rfl:=Option.some.inj hf;exact HST.out
           case measure=>simp[intOf,okN];have:=HJN.out;omega
         ·have hge:¬((j:Int)<(ln:Int)):=by omega
          have hje:j=ln:=by have:=HJ.out;omega
          have HNA:=qh (show ∀ d∈ds,¬d.1.1.stands tmm from fun d hd=>by
           obtain⟨i,hi⟩:=List.mem_iff_getElem?.1 hd
           exact HNO.out i d (by have:=(List.getElem?_eq_some_iff.1 hi).1;rw[HDL.out] at this;omega) hi)
          subst hje;clear hjn;have HY:=qh (HY.out.below BW.out.b);have HKV:=qh KG.out.size;have c170:=B17.out.cell (i:=0) rfl;have c171:=B17.out.cell (i:=1) rfl;have c172:=B17.out.cell (i:=2) rfl;have c173:=B17.out.cell (i:=3) rfl;have c174:=B17.out.cell (i:=4) rfl;have c175:=B17.out.cell (i:=5) rfl;have c176:=B17.out.cell (i:=6) rfl;have c177:=B17.out.cell (i:=7) rfl
          go_upto_region 30 with (fail)
          clear c170 c171 c172 c173 c174 c175 c176 c177;obtain⟨U,hU⟩:∃ X,X=wr.alloc (.cells #[.bool y.t.s,.slice y.t.a y.t.n y.t.c,.bool y.l.s,.slice y.l.a y.l.n y.l.c,.int .u16 tmm.x,.int .u16 tmm.y,.int .u16 tmm.z,.int .u16 tmm.t] 32):=⟨_,rfl⟩
          have hbU:Below wr.heap.size wr U:=by rw[hU];exact(Below.refl _ _).alloc (Nat.le_refl _) _
          have ONE:=qh (show EP U V.heap.size ⟨some ⟨wr.heap.size,0,none⟩,1,1⟩ [(tmm,tq)] by rw[hU];exact single_ep (V:=wr) HY.out HKV.out HTS.out HTZ.out);rw[← hU];obtain⟨AO,hAO⟩:∃ A,A=wr.heap.size:=⟨_,rfl⟩;rw[← hAO] at ONE ⊢;have HX:=qh (HX.out.below hbU);have HRR:=qh (HRR.out.below hbU);have ROW:=qh (ROW.out.of_block (hbU.block g ROW.out.lt));have HZS:=qh (show ∀ i q,s.os[i]?=some q→EP _ V.heap.size (Z i) q from fun i q hi=>(HZS.out i q hi).below hbU);have KG:=qk KG hbU;have CA:=qh (show Calls Tryz.prog 23 #[.slice ra rn rc,.slice (some ⟨AO,0,none⟩) 1 1] U _ from radd_any ⟨ra,rn,rc⟩ ⟨some ⟨AO,0,none⟩,1,1⟩ s.r [(tmm,tq)] U HRR.out.k.any ONE.out.k.any (fun t ht=>(HLQ.out.2.1 t ht).up (by have:=HK.out;omega)) (fun t ht=>by rw[List.mem_singleton.1 ht];exact HTQ.out.up (by have:=HK.out;omega)) (by have:=HRL.out;have:=HLN.out.2.1;have:=HN4.out;show rn≤_;omega) (by show 1≤_;omega));clear hU hbU hAO;go_wp2_with fail
          with_reducible refine CA.out.mono ?_
          rintro e w5 ⟨⟨r2a,r2n,r2c⟩,he,hr2,hb⟩;obtain rfl:e=.returned (.slice r2a r2n r2c):=he;have HR2:=qh (hr2.mono KG.out.size);have ONE:=qh (ONE.out.below hb);have HX:=qh (HX.out.below hb);have HRR:=qh (HRR.out.below hb);have ROW:=qh (ROW.out.of_block (hb.block g ROW.out.lt));have HZS:=qh (show ∀ i q,s.os[i]?=some q→EP _ V.heap.size (Z i) q from fun i q hi=>(HZS.out i q hi).below hb);have KG:=qk KG hb;have CSB:=qh (show Calls Tryz.prog 24 #[.slice xa xn xc,.slice (some ⟨AO,0,none⟩) 1 1] w5 _ from rsub_any ⟨xa,xn,xc⟩ ⟨some ⟨AO,0,none⟩,1,1⟩ s.p [(tmm,tq)] w5 HX.out.k.any ONE.out.k.any ONE.out.canon (fun t ht=>(HLQ.out.1 t ht).up (by have:=HK.out;omega)) (fun t ht=>by rw[List.mem_singleton.1 ht];exact HTQ.out.up (by have:=HK.out;omega)) (by have:=HXL.out;have:=HLN.out.1;have:=HN4.out;show xn≤_;omega) (by show 1≤_;omega) (by show 1≤_;omega));clear hr2 hb CA;go_wp2_with fail
          with_reducible refine CSB.out.mono ?_
          rintro e w6 ⟨⟨x2a,x2n,x2c⟩,he,hx2,hb⟩;obtain rfl:e=.returned (.slice x2a x2n x2c):=he;have HX2:=qh (hx2.mono KG.out.size);have HR2:=qh (HR2.out.below hb);have HX:=qh (HX.out.below hb);have HRR:=qh (HRR.out.below hb);have ROW:=qh (ROW.out.of_block (hb.block g ROW.out.lt));have HZS:=qh (show ∀ i q,s.os[i]?=some q→EP _ V.heap.size (Z i) q from fun i q hi=>(HZS.out i q hi).below hb);have KG:=qk KG hb;have HSI:=qh (HDP.out.step s (restS s (tmm,tq)) HIN.out HX.out.canon HRR.out.canon HOC.out HX2.out.small (Step.rest HLD.out HNA.out));have HNEW:=qh (show RDI V g j Inv (.slice r2a r2n r2c) (.slice x2a x2n x2c) w6 (restS s (tmm,tq)) from⟨⟨⟨x2a,x2n,x2c⟩,⟨r2a,r2n,r2c⟩,Z,rfl,rfl,HX2.out,HR2.out,ROW.out,HZS.out⟩,HSI.out.1,HSL.out,KG.out⟩);clear hx2 hb CSB;go_wp2_with fail
          go_roundw
          case rel=>exact⟨_,HNEW.out⟩
          case measure=>exact Nat.lt_of_le_of_lt (least_le (μ:=μ) HNEW.out) (HMU.out▸HSI.out.2)
        ·have HDJ:=qh hdj;have HST:=qh hst;have B20:=qh hb20;have HU:=qh hu
         have hjn:j<ln:=by have:=(List.getElem?_eq_some_iff.1 hdj).1;rw[HDL.out] at this;exact this
         have HJN:=qh hjn
         have hlt:(j:Int)<(ln:Int):=by omega
         have hne:¬((j:Int)=(ln:Int)):=by omega
         clear hdj hst hb20 hu hjn;obtain⟨⟨⟨qa,qn,qc⟩,D⟩,hqj⟩:∃ q,qs[j]?=some q:=⟨_,List.getElem?_eq_getElem (by rw[← HNL.out];exact HJN.out)⟩;obtain⟨d2,hd2,hdD,g1,g2,g3⟩:=HDQ.out j _ hqj;obtain rfl:d=d2:=Option.some.inj (HDJ.out.symm.trans hd2);obtain rfl:d.2=D:=hdD;have hkq:=HQ.out _ (List.mem_of_getElem? hqj);obtain⟨pb,po,rfl,hcs⟩:=((HRS.out.below KV.out).below KG.out).ex (fun e=>by rw[List.map_eq_nil_iff] at e;rw[e] at hqj;simp at hqj);have hc:=hcs j ⟨qa,qn,qc⟩ (by rw[List.getElem?_map,hqj];rfl);change wr.cell? ⟨pb,po+j,none⟩=some (.slice qa qn qc) at hc;have HCQ:=qh hc;have HKQ:=qh hkq;have HD1:=qh g1;have HD2:=qh g2;have HDS:=qh (show d.1.1.Small from hkq.small _ g3.1);have HDZ:=qh (show d.1.2≠0 from hkq.canon.non _ g3.1);have HDQ1:=qh (show LQ d.1.2 kd from g1 _ g3.1);have HLU:=qh (show LQ (tq/d.1.2) (k+kd) from lq_by (t:=(tmm,tq)) (d:=d.1) HDZ.out HTQ.out HDQ1.out);have HUZ:=qh (show tq/d.1.2≠0 from byT_ne (t:=(tmm,tq)) (d:=d.1) HTZ.out HDZ.out);have HUS:=qh (show(tmm.quo d.1.1).Small from Mo.quo_le HTS.out);have HKW:=qh (show KP wr ⟨qa,qn,qc⟩ d.2 from(hkq.below KV.out).below KG.out);have HQN:=qh (show qn≤1000000 by have h:qn=d.2.length:=hkq.len;have h2:d.2.length≤nd:=g2;have:=HND.out;omega);have HLX:=qh (show LF u 900000 from HU.out.k.len HLU.out (by have:=HK.out;omega));have BX:=qh (show Bt wr wr from⟨Below.refl _ _⟩);have HSR:=qh KG.out.size;clear hqj hd2 g1 g2 g3 hkq hcs hc
         by_cases hsm:∀ t∈d.2,(t.1.mul (tmm.quo d.1.1)).Small
         ·have HSM:=qh hsm;clear hsm
          go_upto_region 32 with (fail)
          go_upto_region 32 with (fail)
          refine FS.wp_region_fresh 10 [] (FS.spOf [(5,FS.Sp.made (fun x:PV=>Value.tuple #[x.v,.int .i64 0]) (fun x w'=>EP w' wr.heap.size x (mulP d.2 [((tmm.quo d.1.1),(tq/d.1.2))])) (fun _ _=>False))])
           (fun w'=>Below wr.heap.size wr w') (by kernel_rfl) (by kernel_rfl) (by kernel_rfl)
           (FS.spOf_cons (FS.Sp.made_keepsR _ rowE (fun _ _ _ h hs=>h.rows hs) (by kernel_rfl) (FS.notTaken (by kernel_rfl))) (FS.spOf_nil)) (fun _ _ h hb=>h.trans (hb.mono h.size)) ((Below.refl _ _).drew) ?_
          simp only[List.append_eq,List.cons_append,List.nil_append,List.take_succ_cons,List.take_zero,List.drop_succ_cons,List.drop_zero]
          iterate 5
           refine FS.wpF_reads rfl rfl rfl ?_ (fun w' hw'=>?_) ?_;rotate_left
           ·have hb':=hw'.world;have hq1:=cell_keep HCQ.out hb';have hs0:=(B20.out.below hb' B20.out.lt).cell (i:=0) rfl;have hs1:=(B20.out.below hb' B20.out.lt).cell (i:=1) rfl;have hs2:=(B20.out.below hb' B20.out.lt).cell (i:=2) rfl;have hs3:=(B20.out.below hb' B20.out.lt).cell (i:=3) rfl;have hs4:=(B20.out.below hb' B20.out.lt).cell (i:=4) rfl;have hs5:=(B20.out.below hb' B20.out.lt).cell (i:=5) rfl;have hs6:=(B20.out.below hb' B20.out.lt).cell (i:=6) rfl;have hs7:=(B20.out.below hb' B20.out.lt).cell (i:=7) rfl;have hsf:=(B20.out.below hb' B20.out.lt).fz;have hsl:=(B20.out.below hb' B20.out.lt).lt;clear hw';go_simp
            try rfl
           conv=>arg 10;simp only[Act.put,zq0,zq1,zq2]
          refine FS.wpF_spec rfl rfl rfl (fun w' hw'=>?_) ?_
          ·have hb':=hw'.world;refine FS.gives_of (FS.PM (fun x:PV=>Value.tuple #[x.v,.int .i64 0]) (fun x w'=>EP w' wr.heap.size x (mulP d.2 [((tmm.quo d.1.1),(tq/d.1.2))])) (fun _ _=>False) w'.heap.size) ?_ (fun _ _ h=>h.post (PV.injE 0));go_simp;have CT:=(show Calls Tryz.prog 25 #[.slice qa qn qc,.agg #[.bool u.t.s,.slice u.t.a u.t.n u.t.c,.bool u.l.s,.slice u.l.a u.l.n u.l.c,.int .u16 (tmm.quo d.1.1).x,.int .u16 (tmm.quo d.1.1).y,.int .u16 (tmm.quo d.1.1).z,.int .u16 (tmm.quo d.1.1).t]] w' _ from rtimes_ok ⟨qa,qn,qc⟩ d.2 u (tmm.quo d.1.1) (tq/d.1.2) w' (HKW.out.below hb') (fun t ht=>(HD1.out t ht).up (by have:=HK.out;omega)) HQN.out (HU.out.below hb').k HLX.out HUS.out HUZ.out HSM.out);refine CT.mono ?_;rintro e w'' ⟨za,rfl,ho,hb⟩;exact⟨_,rfl,⟨za,rfl,ho.mono hb'.size,fun _ h=>False.elim h⟩,hb⟩
          rintro _ ⟨y5,rfl⟩
          conv=>arg 10;simp only[Act.put,zq0,zq1,zq2]
          iterate 4
           refine FS.wpF_reads rfl rfl rfl ?_ (fun w' hw'=>?_) ?_;rotate_left
           ·have hb':=hw'.world;skip;clear hw';go_simp
            try rfl
           conv=>arg 10;simp only[Act.put,zq0,zq1,zq2]
          refine FS.wpF_nil (fun w401 hb hF=>?_);have N402:=qh (show EP w401 wr.heap.size y5 (mulP d.2 [((tmm.quo d.1.1),(tq/d.1.2))]) from(FS.made_of (val:=(fun x:PV=>Value.tuple #[x.v,.int .i64 0])) (Φ:=fun x w'=>EP w' wr.heap.size x (mulP d.2 [((tmm.quo d.1.1),(tq/d.1.2))])) (PV.injE 0) (hF.all 5)));clear hF;have BX:=qh (BX.out.below hb);have HU:=qh (HU.out.below hb);have B20:=qh (B20.out.below hb B20.out.lt);have KG:=qk KG hb;clear hb;have HX:=qh (HX.out.below BX.out.b);have HRR:=qh (HRR.out.below BX.out.b);have ROW:=qh (ROW.out.of_block (BX.out.b.block g ROW.out.lt));have HZS:=qh (show ∀ i q,s.os[i]?=some q→EP _ V.heap.size (Z i) q from fun i q hi=>(HZS.out i q hi).below BX.out.b);have HOF:=qh (N402.out.mono HSR.out);obtain⟨O,hO⟩:∃ O,s.os[j]?=some O:=⟨_,List.getElem?_eq_getElem (by rw[HSL.out];exact HJN.out)⟩;have HO:=qh hO;obtain⟨⟨za,zn,zc⟩,hzj⟩:∃ z,z=Z j:=⟨_,rfl⟩;have HZJ:=qh hzj;have HCZ:=qh (show w401.cell? ⟨g,j,none⟩=some (.slice za zn zc) by have h:=ROW.out.cell HJN.out;rw[← hzj] at h;exact h);have HQJ:=qh (show EP w401 V.heap.size ⟨za,zn,zc⟩ O by rw[hzj];exact HZS.out j O hO);have hzl:zn=O.length:=HQJ.out.k.len;have hol:=HLN.out.2.2 O (List.mem_of_getElem? hO);have HLO1:=qh (show ∀ t∈O,LQ t.2 400000 from fun t ht=>(HLQ.out.2.2 O (List.mem_of_getElem? hO) t ht).up (by have:=HK.out;omega));have HLO2:=qh (show ∀ t∈[(tmm.quo d.1.1,tq/d.1.2)],LQ t.2 400000 from fun t ht=>by rw[List.mem_singleton.1 ht];exact HLU.out.up (by have:=HK.out;omega));have HZN:=qh (show zn≤400000000 by have:=HN4.out;omega)
          have BX:=qh (show Bt w401 w401 from⟨Below.refl _ _⟩);have HSR2:=qh KG.out.size;have hjl:j<ln:=HJN.out;clear hO hzj hzl hol
          go_upto_region 35 with (fail)
          go_upto_region 35 with (fail)
          refine FS.wp_region_fresh 9 [] (FS.spOf [(7,FS.Sp.made (fun b:Nat=>Value.slice (some ⟨b,0,none⟩) 1 1) (fun b w'=>Bxs w' b 32 [.bool u.t.s,.slice u.t.a u.t.n u.t.c,.bool u.l.s,.slice u.l.a u.l.n u.l.c,.int .u16 (tmm.quo d.1.1).x,.int .u16 (tmm.quo d.1.1).y,.int .u16 (tmm.quo d.1.1).z,.int .u16 (tmm.quo d.1.1).t]) (fun _ _=>False)),(8,FS.Sp.made (fun x:PV=>x.v) (fun x w'=>EP w' w401.heap.size x (addP O [((tmm.quo d.1.1),(tq/d.1.2))])) (fun _ _=>False))])
           (fun w'=>Below w401.heap.size w401 w') (by kernel_rfl) (by kernel_rfl) (by kernel_rfl)
           (FS.spOf_cons (FS.Sp.made_keepsR _ (fun T=>T==32) (fun _ _ _ h hs=>bxs_rowsE h hs rfl) (by kernel_rfl) (FS.notTaken (by kernel_rfl))) (FS.spOf_cons (FS.Sp.made_keepsR _ rowE (fun _ _ _ h hs=>h.rows hs) (by kernel_rfl) (FS.notTaken (by kernel_rfl))) (FS.spOf_nil))) (fun _ _ h hb=>h.trans (hb.mono h.size)) ((Below.refl _ _).drew) ?_
          simp only[List.append_eq,List.cons_append,List.nil_append,List.take_succ_cons,List.take_zero,List.drop_succ_cons,List.drop_zero]
          iterate 7
           refine FS.wpF_reads rfl rfl rfl ?_ (fun w' hw'=>?_) ?_;rotate_left
           ·have hb':=hw'.world;have hq1:=cell_keep HCZ.out hb';have hs0:=(B20.out.below hb' B20.out.lt).cell (i:=0) rfl;have hs1:=(B20.out.below hb' B20.out.lt).cell (i:=1) rfl;have hs2:=(B20.out.below hb' B20.out.lt).cell (i:=2) rfl;have hs3:=(B20.out.below hb' B20.out.lt).cell (i:=3) rfl;have hs4:=(B20.out.below hb' B20.out.lt).cell (i:=4) rfl;have hs5:=(B20.out.below hb' B20.out.lt).cell (i:=5) rfl;have hs6:=(B20.out.below hb' B20.out.lt).cell (i:=6) rfl;have hs7:=(B20.out.below hb' B20.out.lt).cell (i:=7) rfl;have hsf:=(B20.out.below hb' B20.out.lt).fz;have hsl:=(B20.out.below hb' B20.out.lt).lt;clear hw';go_simp
            try rfl
           conv=>arg 10;simp only[Act.put,zq0,zq1,zq2]
          refine FS.wpF_spec rfl rfl rfl (fun w' hw'=>?_) ?_
          ·have hb':=hw'.world;refine FS.gives_of (FS.PM (fun b:Nat=>Value.slice (some ⟨b,0,none⟩) 1 1) (fun b w'=>Bxs w' b 32 [.bool u.t.s,.slice u.t.a u.t.n u.t.c,.bool u.l.s,.slice u.l.a u.l.n u.l.c,.int .u16 (tmm.quo d.1.1).x,.int .u16 (tmm.quo d.1.1).y,.int .u16 (tmm.quo d.1.1).z,.int .u16 (tmm.quo d.1.1).t]) (fun _ _=>False) w'.heap.size) ?_ (fun _ _ h=>h.post (fun _ _ h=>by cases h;rfl));go_simp;exact⟨⟨w'.heap.size,rfl,Bxs.new w' _ _,fun _ h=>False.elim h⟩,(Below.refl _ _).alloc (Nat.le_refl _) _⟩
          rintro _ ⟨y7,rfl⟩
          conv=>arg 10;simp only[Act.put,zq0,zq1,zq2]
          refine FS.wpF_spec rfl rfl rfl (fun w' hw'=>?_) ?_
          ·have hb':=hw'.world;refine FS.gives_of (FS.PM (fun x:PV=>x.v) (fun x w'=>EP w' w401.heap.size x (addP O [((tmm.quo d.1.1),(tq/d.1.2))])) (fun _ _=>False) w'.heap.size) ?_ (fun _ _ h=>h.post (fun _ _=>PV.inj));go_simp;have f7:=FS.made_of (val:=(fun b:Nat=>Value.slice (some ⟨b,0,none⟩) 1 1)) (Φ:=fun b w'=>Bxs w' b 32 [.bool u.t.s,.slice u.t.a u.t.n u.t.c,.bool u.l.s,.slice u.l.a u.l.n u.l.c,.int .u16 (tmm.quo d.1.1).x,.int .u16 (tmm.quo d.1.1).y,.int .u16 (tmm.quo d.1.1).z,.int .u16 (tmm.quo d.1.1).t]) (fun _ _ h=>by cases h;rfl) (hw'.fact 7 (by kernel_rfl));have CT:=(show Calls Tryz.prog 23 #[.slice za zn zc,.slice (some ⟨y7,0,none⟩) 1 1] w' _ from radd_any ⟨za,zn,zc⟩ ⟨some ⟨y7,0,none⟩,1,1⟩ O [((tmm.quo d.1.1),(tq/d.1.2))] w' (HQJ.out.below hb').k.any (single_kp f7 (HU.out.below hb').k HUS.out HUZ.out).any HLO1.out HLO2.out HZN.out (by show 1≤_;omega));refine CT.mono ?_;rintro e w'' ⟨za,rfl,ho,hb⟩;exact⟨_,rfl,⟨za,rfl,ho.mono hb'.size,fun _ h=>False.elim h⟩,hb⟩
          rintro _ ⟨y8,rfl⟩
          conv=>arg 10;simp only[Act.put,zq0,zq1,zq2]
          refine FS.wpF_nil (fun w501 hb hF=>?_);have N502:=qh (show EP w501 w401.heap.size y8 (addP O [((tmm.quo d.1.1),(tq/d.1.2))]) from(FS.made_of (val:=(fun x:PV=>x.v)) (Φ:=fun x w'=>EP w' w401.heap.size x (addP O [((tmm.quo d.1.1),(tq/d.1.2))])) (fun _ _=>PV.inj) (hF.all 8)));clear hF;have BX:=qh (BX.out.below hb);have HU:=qh (HU.out.below hb);have HOF:=qh (HOF.out.below hb);have B20:=qh (B20.out.below hb B20.out.lt);have KG:=qk KG hb;clear hb;have HX:=qh (HX.out.below BX.out.b);have HRR:=qh (HRR.out.below BX.out.b);have ROW:=qh (ROW.out.of_block (BX.out.b.block g ROW.out.lt));have HZS:=qh (show ∀ i q,s.os[i]?=some q→EP _ V.heap.size (Z i) q from fun i q hi=>(HZS.out i q hi).below BX.out.b);have HQ2:=qh (N502.out.mono HSR2.out);have hc1:=ROW.out.cell HJN.out;have hc2:=ROW.out.frozen j;have hc3:=ROW.out.lt;clear BX
          go_upto_region 36 with (fail)
          obtain⟨W9,hW9⟩:∃ X,X=w501.setCell ⟨g,j,none⟩ (.slice y8.a y8.n y8.c):=⟨_,rfl⟩;rw[← hW9];have HRW:=qh (row_rows ROW.out j (.slice y8.a y8.n y8.c));have HX:=qh (show EP W9 V.heap.size ⟨xa,xn,xc⟩ s.p by rw[hW9];exact HX.out.rows HRW.out);have HRR:=qh (show EP W9 V.heap.size ⟨ra,rn,rc⟩ s.r by rw[hW9];exact HRR.out.rows HRW.out);have HOF:=qh (show EP W9 V.heap.size y5 (mulP d.2 [(tmm.quo d.1.1,tq/d.1.2)]) by rw[hW9];exact HOF.out.rows HRW.out);have HQ2:=qh (show EP W9 V.heap.size y8 (addP O [(tmm.quo d.1.1,tq/d.1.2)]) by rw[hW9];exact HQ2.out.rows HRW.out);have ROW:=qh (show W9.rowIs g 35 ln (fun i=>((fun i=>if i=j then y8 else Z i) i).v) by rw[hW9];exact(ROW.out.set j _).congr fun i _=>by by_cases h:i=j <;> simp[h])
          have HZS:=qh (show ∀ (i:Nat) (q:List Tm),(s.os.modify j fun q=>addP q [byT (tmm,tq) d.1])[i]?=some q→EP W9 V.heap.size ((fun i=>if i=j then y8 else Z i) i) q from fun i q hi=>by
           rw[List.getElem?_modify] at hi
           by_cases h:i=j
           ·subst h;rw[HO.out] at hi;simp at hi;rw[← hi];simp only[if_true];exact HQ2.out
           ·simp only[if_neg h]
            have hji:¬j=i:=fun e=>h e.symm
            simp[hji] at hi;rw[hW9]
            exact(HZS.out i q hi).rows HRW.out)
          have KG:=qh (show Below V.heap.size V W9 by rw[hW9];exact KG.out.setCell HGE.out _);have hpb:=off_pb (D:=d.2) (nd:=nd) HKQ.out.canon (u:=(tmm.quo d.1.1,tq/d.1.2)) HUZ.out HD1.out HD2.out HLU.out HOF.out.small;have CSB:=qh (show Calls Tryz.prog 24 #[.slice xa xn xc,.slice y5.a y5.n y5.c] W9 _ from rsub_any ⟨xa,xn,xc⟩ y5 s.p (mulP d.2 [(tmm.quo d.1.1,tq/d.1.2)]) W9 HX.out.k.any HOF.out.k.any HOF.out.canon (fun t ht=>(HLQ.out.1 t ht).up (by have:=HK.out;omega)) (fun t ht=>(hpb.lq t ht).up (by have:=HK.out;omega)) (by have:=HXL.out;have:=HLN.out.1;have:=HN4.out;show xn≤_;omega) (by have h:=HOF.out.k.len;have:=hpb.len;have:=HND.out;omega) (by have:=hpb.len;have:=HND.out;omega));clear hW9 hpb hc1 hc2 hc3;go_wp2_with fail
          with_reducible refine CSB.out.mono ?_
          rintro e w9 ⟨⟨x2a,x2n,x2c⟩,he,hx2,hb⟩;obtain rfl:e=.returned (.slice x2a x2n x2c):=he;have HX2:=qh (hx2.mono KG.out.size);have HRR:=qh (HRR.out.below hb);have ROW:=qh (ROW.out.of_block (hb.block g ROW.out.lt));have HZS:=qh (show ∀ (i:Nat) (q:List Tm),(s.os.modify j fun q=>addP q [byT (tmm,tq) d.1])[i]?=some q→EP w9 V.heap.size ((fun i=>if i=j then y8 else Z i) i) q from fun i q hi=>(HZS.out i q hi).below hb);have KG:=qk KG hb;have HSI:=qh (HDP.out.step s (hitS s (tmm,tq) j d) HIN.out HX.out.canon HRR.out.canon HOC.out HX2.out.small (Step.hit HLD.out ⟨HDJ.out,HST.out,fun i f hi hf=>HNO.out i f hi hf⟩));have HNEW:=qh (show RDI V g ln Inv (.slice ra rn rc) (.slice x2a x2n x2c) w9 (hitS s (tmm,tq) j d) from⟨⟨⟨x2a,x2n,x2c⟩,⟨ra,rn,rc⟩,_,rfl,rfl,HX2.out,HRR.out,ROW.out,HZS.out⟩,HSI.out.1,by show(s.os.modify j _).length=ln;rw[List.length_modify];exact HSL.out,KG.out⟩);clear hx2 hb CSB;go_wp2_with fail
          go_roundw
          case rel=>exact⟨_,HNEW.out⟩
          case measure=>exact Nat.lt_of_le_of_lt (least_le (μ:=μ) HNEW.out) (HMU.out▸HSI.out.2)
         ·have HSM:=qh hsm;clear hsm
          go_upto_region 32 with (fail)
          go_upto_region 32 with (fail)
          refine FS.wp_region_fresh 10 [] (FS.spOf [(5,FS.Sp.know (.tuple #[.slice none 0 0,.int .i64 3]))])
           (fun w'=>Below wr.heap.size wr w') (by kernel_rfl) (by kernel_rfl) (by kernel_rfl)
           (FS.spOf_cons (FS.Sp.know_keeps _ _) (FS.spOf_nil)) (fun _ _ h hb=>h.trans (hb.mono h.size)) ((Below.refl _ _).drew) ?_
          simp only[List.append_eq,List.cons_append,List.nil_append,List.take_succ_cons,List.take_zero,List.drop_succ_cons,List.drop_zero]
          iterate 5
           refine FS.wpF_reads rfl rfl rfl ?_ (fun w' hw'=>?_) ?_;rotate_left
           ·have hb':=hw'.world;have hq1:=cell_keep HCQ.out hb';have hs0:=(B20.out.below hb' B20.out.lt).cell (i:=0) rfl;have hs1:=(B20.out.below hb' B20.out.lt).cell (i:=1) rfl;have hs2:=(B20.out.below hb' B20.out.lt).cell (i:=2) rfl;have hs3:=(B20.out.below hb' B20.out.lt).cell (i:=3) rfl;have hs4:=(B20.out.below hb' B20.out.lt).cell (i:=4) rfl;have hs5:=(B20.out.below hb' B20.out.lt).cell (i:=5) rfl;have hs6:=(B20.out.below hb' B20.out.lt).cell (i:=6) rfl;have hs7:=(B20.out.below hb' B20.out.lt).cell (i:=7) rfl;have hsf:=(B20.out.below hb' B20.out.lt).fz;have hsl:=(B20.out.below hb' B20.out.lt).lt;clear hw';go_simp
            try rfl
           conv=>arg 10;simp only[Act.put,zq0,zq1,zq2]
          refine FS.wpF_spec rfl rfl rfl (fun w' hw'=>?_) ?_
          ·have hb':=hw'.world;refine FS.gives_of (FS.PK (.tuple #[.slice none 0 0,.int .i64 3])) ?_ (fun _ _ h=>h.post);go_simp;have CT:=(show Calls Tryz.prog 25 #[.slice qa qn qc,.agg #[.bool u.t.s,.slice u.t.a u.t.n u.t.c,.bool u.l.s,.slice u.l.a u.l.n u.l.c,.int .u16 (tmm.quo d.1.1).x,.int .u16 (tmm.quo d.1.1).y,.int .u16 (tmm.quo d.1.1).z,.int .u16 (tmm.quo d.1.1).t]] w' _ from rtimes_no ⟨qa,qn,qc⟩ d.2 u (tmm.quo d.1.1) (tq/d.1.2) w' (HKW.out.below hb') (fun t ht=>(HD1.out t ht).up (by have:=HK.out;omega)) HQN.out (HU.out.below hb').k HLX.out HUS.out HUZ.out HSM.out);refine CT.mono ?_;rintro e w'' ⟨rfl,hb⟩;exact⟨_,rfl,rfl,hb⟩
          rintro _ rfl
          conv=>arg 10;simp only[Act.put,zq0,zq1,zq2]
          iterate 4
           refine FS.wpF_reads rfl rfl rfl ?_ (fun w' hw'=>?_) ?_;rotate_left
           ·have hb':=hw'.world;skip;clear hw';go_simp
            try rfl
           conv=>arg 10;simp only[Act.put,zq0,zq1,zq2]
          refine FS.wpF_nil (fun w401 hb hF=>?_);clear hF;have BX:=qh (BX.out.below hb);have HU:=qh (HU.out.below hb);have B20:=qh (B20.out.below hb B20.out.lt);have KG:=qk KG hb;clear hb;go_wp2_with fail
          go_ret3;obtain⟨t0,hov⟩:=Classical.not_forall.1 HSM.out;obtain⟨ht0,hts⟩:=Classical.not_imp.1 hov;exact Or.inr ⟨s,(tmm,tq),j,d,rfl,HIN.out,HLD.out,⟨HDJ.out,HST.out,fun i f hi hf=>HNO.out i f hi hf⟩,⟨t0,ht0,_,List.mem_singleton.2 rfl,hts⟩,KV.out.trans (KG.out.mono KV.out.size)⟩
theorem samePolys_k (a b:Option Addr) (n c d:Nat) (xs ys:List PV) (w:World) (ha:RS w a xs) (hb:RS w b ys) (hx:xs.length=n) (hy:ys.length=n) (hn:n≤1000000)
  (hk:∀ (i:Nat) (x y:PV),xs[i]?=some x→ys[i]?=some y→∃ P,KP w x P∧KP w y P∧(∀ t∈P,LQ t.2 900000)∧P.length≤1000000) :
  Calls Tryz.prog 7 #[.slice a n c,.slice b n d] w fun e w'=>e=.returned (.bool true)∧Below w.heap.size w w':=by
 have HA:=qh ha;have HB:=qh hb;have HXL:=qh hx;have HYL:=qh hy;have HN:=qh hn;have HK:=qh hk;clear ha hb hx hy hn hk;go_enter Tryz.func7,Tryz.ntmps7;go_wp2_with fail
 go_loopw [5] (fun i wr=>∃ j:Nat,j≤n∧i=.int .i64 j∧Below w.heap.size w wr) (fun i _=>n-(intOf i).toNat)
 case atStart=>exact⟨0,Nat.zero_le _,rfl,Below.refl _ _⟩
 case round =>
  obtain⟨j,hj,rfl,hb0⟩:=hrel;have HJ:=qh hj;have KG:=qh hb0;clear hj hb0
  by_cases hjn:j<n
  ·have HJN:=qh hjn
   have hlt:(j:Int)<(n:Int):=by omega
   obtain⟨⟨xa,xn,xc⟩,hx⟩:∃ x,xs[j]?=some x:=⟨_,List.getElem?_eq_getElem (by rw[HXL.out];exact hjn)⟩;obtain⟨⟨ya,yn,yc⟩,hy⟩:∃ y,ys[j]?=some y:=⟨_,List.getElem?_eq_getElem (by rw[HYL.out];exact hjn)⟩;obtain⟨P,k1,k2,k3,k4⟩:=HK.out j _ _ hx hy;obtain⟨ab,ao,rfl,hca⟩:=(HA.out.below KG.out).ex (fun e=>by rw[e] at hx;simp at hx);obtain⟨bb,bo,rfl,hcb⟩:=(HB.out.below KG.out).ex (fun e=>by rw[e] at hy;simp at hy);have HC1:=qh (show wr.cell? ⟨ab,ao+j,none⟩=some (.slice xa xn xc) from hca j _ hx);have HC2:=qh (show wr.cell? ⟨bb,bo+j,none⟩=some (.slice ya yn yc) from hcb j _ hy);have HK1:=qh (k1.below KG.out);have HK2:=qh (k2.below KG.out);have HPL:=qh k3;have HPN:=qh k4;have ek:IntKind.i64.wrap ((j:Int)+1)=(j:Int)+1:=IntWalk.i64_in _ (by have:=HJN.out;have:=HN.out;omega);have HJI:=qh hjn;clear hx hy k1 k2 k3 k4 hca hcb
   go_upto_region 6 with (fail)
   refine FS.wp_region_fresh 9 [] (FS.spOf [(8,FS.Sp.know (.bool true))])
    (fun w'=>Below wr.heap.size wr w') (by kernel_rfl) (by kernel_rfl) (by kernel_rfl)
    (FS.spOf_cons (FS.Sp.know_keeps _ _) (FS.spOf_nil)) (fun _ _ h hb=>h.trans (hb.mono h.size)) ((Below.refl _ _).drew) ?_
   simp only[List.append_eq,List.cons_append,List.nil_append,List.take_succ_cons,List.take_zero,List.drop_succ_cons,List.drop_zero]
   iterate 8
    refine FS.wpF_reads rfl rfl rfl ?_ (fun w' hw'=>?_) ?_;rotate_left
    ·have hb':=hw'.world;have hs:=cell_keep HC1.out hb';have hs:=cell_keep HC2.out hb';clear hw';go_simp
     try rfl
    conv=>arg 10;simp only[Act.put,zq0,zq1,zq2]
   refine FS.wpF_spec rfl rfl rfl (fun w' hw'=>?_) ?_
   ·have hb':=hw'.world;refine FS.gives_of (FS.PK (.bool true)) ?_ (fun _ _ h=>h.post);go_simp;have CT:=(show Calls Tryz.prog 8 #[.slice xa xn xc,.slice ya yn yc] w' _ from same_k ⟨xa,xn,xc⟩ ⟨ya,yn,yc⟩ P w' (HK1.out.below hb') (HK2.out.below hb') HPL.out HPN.out);refine CT.mono ?_;rintro e w'' ⟨rfl,hb⟩;exact⟨_,rfl,rfl,hb⟩
   rintro _ rfl
   conv=>arg 10;simp only[Act.put,zq0,zq1,zq2]
   refine FS.wpF_nil (fun w101 hb hF=>?_);clear hF;have KG:=qk KG hb;clear hb;go_wp2_with fail
   go_roundw
   case rel=>exact⟨j+1,HJN.out,rfl,KG.out⟩
   case measure=>simp[intOf];have:=HJN.out;omega
  ·have hge:¬((j:Int)<(n:Int)):=by omega
   clear hjn;go_wp2_with fail
   go_ret;exact⟨rfl,KG.out⟩
theorem one_dn (w:World) (b:Bool) (z:Int) (hz:z.natAbs=1) (hb:b=decide (z<0)):DN (w.alloc (.cells #[.int .u32 1] 44)) w.heap.size ⟨b,some ⟨w.heap.size,0,none⟩,1,1⟩ z:=by
 have hr:=World.ownsRow_lit (base:=w.heap.size) (e:=44) (size:=1) w #[.int .u32 1] 1 (Nat.le_refl _) (by decide) rfl
 have hd:dgi 1 0=1:=by decide +kernel
 have hu:ucs (dgi 1) 1=[.int .u32 1]:=by
  show[Value.int .u32 (dgi 1 0)]=_;rw[hd]
 obtain⟨a2,c2,e,ho,-⟩:=Own.of_row (o:=dgi 1) (by rw[hu];exact hr) (fun i hi=>by
  obtain rfl:i=0:=by omega
  rw[hd];omega)
 injection e with e1 e2 e3
 subst e1 e3;refine⟨hb,?_,?_⟩
 ·show 1=lenB z.natAbs;rw[hz];decide +kernel
 ·rw[hz];exact ho
theorem term_any (n:Int) (q:Rat) (m:Mo) (w:World) (hn:n.natAbs=1) (hq:q.num=n) (hd:q.den=1) :
  Calls Tryz.prog 4 #[.int .i64 n,.agg #[.int .u16 m.x,.int .u16 m.y,.int .u16 m.z,.int .u16 m.t]] w fun e w'=>∃ y:FV,e=.returned (TV.v ⟨y,m⟩)∧EF w' w.heap.size y q∧Below w.heap.size w w':=by
 obtain⟨V,hV⟩:∃ V,V=(w.alloc (.cells #[.int .u16 m.x,.int .u16 m.y,.int .u16 m.z,.int .u16 m.t] 30)).alloc (.cells #[.bool false,.slice none 0 0,.bool false,.slice none 0 0,.int .u16 0,.int .u16 0,.int .u16 0,.int .u16 0] 32):=⟨_,rfl⟩
 have hbV:Below w.heap.size w V:=by rw[hV];exact((Below.refl _ _).alloc (Nat.le_refl _) _).alloc (by go_size) _
 have B3:=qh (show Bxs V w.heap.size 30 [.int .u16 m.x,.int .u16 m.y,.int .u16 m.z,.int .u16 m.t] by rw[hV];exact(Bxs.new w 30 [.int .u16 m.x,.int .u16 m.y,.int .u16 m.z,.int .u16 m.t]).alloc _)
 have B4:=qh (show Bxs V (w.heap.size+1) 32 [.bool false,.slice none 0 0,.bool false,.slice none 0 0,.int .u16 0,.int .u16 0,.int .u16 0,.int .u16 0] by
  have h:=Bxs.new (w.alloc (.cells #[.int .u16 m.x,.int .u16 m.y,.int .u16 m.z,.int .u16 m.t] 30)) 32 [.bool false,.slice none 0 0,.bool false,.slice none 0 0,.int .u16 0,.int .u16 0,.int .u16 0,.int .u16 0];rw[World.size_alloc] at h
  rw[hV];exact h)
 obtain⟨A4,hA4⟩:∃ A,A=w.heap.size+1:=⟨_,rfl⟩;have HA4:=qh (show w.heap.size≤A4 by omega);rw[← hA4] at B4;have HA5:=qh hA4;have KG:=qh hbV;have HV:=qh hV;have HN:=qh hn;have HQ:=qh hq;have HD:=qh hd;clear hV hbV hn hq hd hA4;go_enter Tryz.func4,Tryz.ntmps4
 go_upto_region 1 with (fail)
 rw[show(w.alloc (.cells #[.int .u16 m.x,.int .u16 m.y,.int .u16 m.z,.int .u16 m.t] 30)).alloc (.cells #[.bool false,.slice none 0 0,.bool false,.slice none 0 0,.int .u16 0,.int .u16 0,.int .u16 0,.int .u16 0] 32)=V from HV.out.symm,show w.heap.size+1=A4 from HA5.out.symm]
 go_upto_region 2 with (fail)
 obtain⟨V1,hV1⟩:∃ X,X=V.alloc (.cells #[.int .u32 1] 44):=⟨_,rfl⟩;obtain⟨V2,hV2⟩:∃ X,X=V1.alloc (.cells #[.int .u32 1] 44):=⟨_,rfl⟩
 have hb1:Below V.heap.size V V1:=by rw[hV1];exact(Below.refl _ _).alloc (Nat.le_refl _) _
 have hb2:Below V1.heap.size V1 V2:=by rw[hV2];exact(Below.refl _ _).alloc (Nat.le_refl _) _
 have hs1:V1.heap.size=V.heap.size+1:=by rw[hV1,World.size_alloc]
 have hs2:V2.heap.size=V.heap.size+1+1:=by rw[hV2,World.size_alloc,hs1]
 have D1:=qh (show DN V2 w.heap.size ⟨decide (n<0),some ⟨V.heap.size,0,none⟩,1,1⟩ q.num from((show DN V1 V.heap.size _ _ by rw[hV1];exact one_dn V (decide (n<0)) q.num (by rw[HQ.out];exact HN.out) (by rw[HQ.out])).below hb2).mono KG.out.size)
 have D2:=qh (show DN V2 w.heap.size ⟨false,some ⟨V.heap.size+1,0,none⟩,1,1⟩ (q.den:Int) by
  have h:=one_dn V1 false (q.den:Int) (by rw[HD.out];rfl) (by rw[HD.out];rfl);rw[← hV2,hs1] at h
  exact h.mono (by have:=KG.out.size;omega))
 have B3:=qh ((B3.out.below hb1 B3.out.lt).below hb2 (by have:=B3.out.lt;omega));have B4:=qh ((B4.out.below hb1 B4.out.lt).below hb2 (by have:=B4.out.lt;omega));have KG:=qh ((KG.out.trans (hb1.mono KG.out.size)).trans (hb2.mono (by have:=KG.out.size;omega)));obtain⟨A1,hA1⟩:∃ A,A=V.heap.size:=⟨_,rfl⟩;rw[← hV1,← hV2];simp only[hs1,← hA1];rw[← hA1] at D1 D2;obtain⟨V3,hV3⟩:∃ X,X=V2.alloc (.cells #[.bool (decide (n<0)),.slice (some ⟨A1,0,none⟩) 1 1,.bool false,.slice (some ⟨A1+1,0,none⟩) 1 1] 28):=⟨_,rfl⟩
 have hb3:Below V2.heap.size V2 V3:=by rw[hV3];exact(Below.refl _ _).alloc (Nat.le_refl _) _
 have B5:=qh (show Bxs V3 V2.heap.size 28 [.bool (decide (n<0)),.slice (some ⟨A1,0,none⟩) 1 1,.bool false,.slice (some ⟨A1+1,0,none⟩) 1 1] by rw[hV3];exact Bxs.new V2 28 [.bool (decide (n<0)),.slice (some ⟨A1,0,none⟩) 1 1,.bool false,.slice (some ⟨A1+1,0,none⟩) 1 1]);obtain⟨A5,hA5⟩:∃ A,A=A1+1+1:=⟨_,rfl⟩;rw[← hV3,← hA5];rw[hs2,← hA1,← hA5] at B5;have B3:=qh (B3.out.below hb3 B3.out.lt);have B4:=qh (B4.out.below hb3 B4.out.lt);have KG:=qk KG hb3;have HY:=qh (show EF V3 w.heap.size ⟨⟨decide (n<0),some ⟨A1,0,none⟩,1,1⟩,⟨false,some ⟨A1+1,0,none⟩,1,1⟩⟩ q from⟨D1.out.below hb3,D2.out.below hb3⟩);clear hV1 hV2 hV3 hb1 hb2 hb3 hs1 hs2 hA1 hA5 D1 D2;have c50:=B5.out.cell (i:=0) rfl;have c51:=B5.out.cell (i:=1) rfl;have c52:=B5.out.cell (i:=2) rfl;have c53:=B5.out.cell (i:=3) rfl;have c30:=B3.out.cell (i:=0) rfl;have c31:=B3.out.cell (i:=1) rfl;have c32:=B3.out.cell (i:=2) rfl;have c33:=B3.out.cell (i:=3) rfl;have c40:=B4.out.cell (i:=0) rfl;have c41:=B4.out.cell (i:=1) rfl;have c42:=B4.out.cell (i:=2) rfl;have c43:=B4.out.cell (i:=3) rfl;have c44:=B4.out.cell (i:=4) rfl;have c45:=B4.out.cell (i:=5) rfl;have c46:=B4.out.cell (i:=6) rfl;have c47:=B4.out.cell (i:=7) rfl;have c4f:=B4.out.fz;have c4l:=B4.out.lt;have HD:=qh (show EF (put8 V3 A4 (.bool (decide (n<0))) (.slice (some ⟨A1,0,none⟩) 1 1) (.bool false) (.slice (some ⟨A1+1,0,none⟩) 1 1) (.int .u16 m.x) (.int .u16 m.y) (.int .u16 m.z) (.int .u16 m.t)) w.heap.size ⟨⟨decide (n<0),some ⟨A1,0,none⟩,1,1⟩,⟨false,some ⟨A1+1,0,none⟩,1,1⟩⟩ q from put8_ef HY.out B4.out (by decide) ..)
 have HB:=qh (show Below w.heap.size w (put8 V3 A4 (.bool (decide (n<0))) (.slice (some ⟨A1,0,none⟩) 1 1) (.bool false) (.slice (some ⟨A1+1,0,none⟩) 1 1) (.int .u16 m.x) (.int .u16 m.y) (.int .u16 m.z) (.int .u16 m.t)) from put8_below KG.out HA4.out ..);go_wp2_with fail
 exact bodyPost_ret (results_cell rfl _ _ _ _ _ _ _ rfl (put8_bxs B4.out ..) Tryz.underlying32 rfl (by kernel_rfl)) rfl ⟨⟨⟨decide (n<0),some ⟨A1,0,none⟩,1,1⟩,⟨false,some ⟨A1+1,0,none⟩,1,1⟩⟩,rfl,HD.out,HB.out⟩
theorem inj8 {c4 c5 c6 c7:Value} {x y:FV} (h:Value.agg #[.bool x.t.s,.slice x.t.a x.t.n x.t.c,.bool x.l.s,.slice x.l.a x.l.n x.l.c,c4,c5,c6,c7]=.agg #[.bool y.t.s,.slice y.t.a y.t.n y.t.c,.bool y.l.s,.slice y.l.a y.l.n y.l.c,c4,c5,c6,c7]):x=y:=FV.inj (by
 simp only[Value.agg.injEq,Array.mk.injEq,List.cons.injEq] at h;obtain⟨e1,e2,e3,e4,-⟩:=h;show Value.agg #[.bool x.t.s,.slice x.t.a x.t.n x.t.c,.bool x.l.s,.slice x.l.a x.l.n x.l.c]=.agg #[.bool y.t.s,.slice y.t.a y.t.n y.t.c,.bool y.l.s,.slice y.l.a y.l.n y.l.c]
 rw[e1,e2,e3,e4])
theorem one_lq {q:Rat} (h:q=1∨q = -1):LQ q 1:=by
 rcases h with rfl | rfl
 ·exact tinyQ_lq (by decide +kernel)
 ·exact tinyQ_lq (by decide +kernel)
theorem limD_lq (k b:Nat):∀ t∈limD k b,LQ t.2 1:=fun t ht=>by
 rcases List.mem_cons.1 ht with rfl | ht
 ·exact one_lq (Or.inl rfl)
 ·rw[List.mem_singleton.1 ht];exact one_lq (Or.inr rfl)
theorem lim_divP {k b a c:Nat} (hk:1≤k) (hk3:k≤65535) (hb:b≤65535) (ha:a≤60):DivP 0 [limV k b] (LimI k b a c) limM 1 1 2 100 where
 lq s h:=by
  obtain⟨h1,h2,h3,-,-,-⟩:=h.all hk;exact⟨fun t ht=>one_lq (Or.inl (h1 t ht)),fun t ht=>one_lq (Or.inl (h2 t ht)),fun q hq t ht=>one_lq (Or.inl (h3 q hq t ht))⟩
 len s h:=by
  obtain⟨-,-,-,h1,h2,h3⟩:=h.all hk;exact⟨by omega,by omega,fun q hq=>by have:=h3 q hq;omega⟩
 step s s' h _ _ _ hs hst:=lim_step hk h (fun t ht=>(hs t ht).2.1) hst
 dl d hd:=by
  rw[List.mem_singleton.1 hd];refine⟨limD_lq k b,Nat.le_refl _,List.mem_cons_self ..,fun s hs=>?_⟩
  rcases List.mem_cons.1 hs with rfl | hs
  ·exact Int.le_refl _
  ·rw[List.mem_singleton.1 hs];exact Int.le_of_lt ((lt_key0 (a:=⟨0,b,0,0⟩) (b:=⟨k,0,0,0⟩) ⟨Nat.zero_le _,hb,Nat.zero_le _,Nat.zero_le _⟩ ⟨hk3,Nat.zero_le _,Nat.zero_le _,Nat.zero_le _⟩).1 (Or.inl hk))
 hk:=by omega
 hkk:=by omega
 hn:=by omega
 hnd:=by omega
def LimR (w:World) (k b a c:Nat) (e:Ending) (w':World):Prop :=
 (∃ (ax:Option Addr) (cx:Nat) (z r:PV) (s:DS),e=.returned (.tuple #[.slice ax 1 cx,r.v,.int .i64 0])∧RS w' ax [z]∧LimI k b a c s∧s.p=[]∧KP w' r s.r∧(∀ Q,s.os=[Q]→KP w' z Q)∧Below w.heap.size w w') ∨
 ∃ (s:DS) (t:Tm) (i:Nat) (d:Dv) (u:Tm),e=.returned (.tuple #[.slice none 0 0,.slice none 0 0,.int .i64 3])∧LimI k b a c s∧Lead (keyO 0) s.p t∧Takes [limV k b] t.1 i d∧u∈d.2∧¬(u.1.mul (byT t d.1).1).le 65535∧Below w.heap.size w w'
theorem LimI.one {k b a c:Nat} {s:DS} (h:LimI k b a c s):∃ Q,s.os=[Q]:=by
 obtain⟨j,-,-,rfl | ⟨-,rfl⟩⟩:=h
 ·exact⟨_,rfl⟩
 ·exact⟨_,rfl⟩
theorem lim_impl {k b a c:Nat} (hk:1≤k) (hk3:k≤65535) (hb:b≤65535) (ha:a≤60) (hc:c≤65535) {w:World} {p q:PV} {ad:Addr} (hp:KP w p [limT a c 1]) (hq:KP w q (limD k b)) (hr:RS w (some ad) [q]) :
  Calls Tryz.prog 5 #[.int .u8 0,p.v,.slice (some ad) 1 1] w (LimR w k b a c) :=
 (divide_k 0 p [limT a c 1] (some ad) 1 [(q,limD k b)] [limV k b] (LimI k b a c) limM 1 1 2 100 w (by omega) hp hr (fun x hx=>by rw[List.mem_singleton.1 hx];exact hq) rfl (lim_divP hk hk3 hb ha) (LimI.start hc) (by simp)).mono fun e w' h=>by
  rcases h with ⟨v,zs,r,s,rfl,hoq,hzl,hz,hdr,hin,h0,hbl⟩ | ⟨s,t,i,d,rfl,hin,hl,ht,⟨u,hu,u2,hu2,hs⟩,hbl⟩
  ·obtain⟨Q,hQ⟩:=hin.one;rw[hQ] at hzl hz
   obtain⟨z,rfl⟩:∃ z,zs=[z]:=by
    match zs,hzl with
    | [z],_=>exact⟨z,rfl⟩
   obtain⟨a2,c2,rfl,hrs,-⟩:=hoq.row;refine Or.inl ⟨a2,c2,z,r,s,rfl,hrs,hin,h0,hdr.k,fun Q' h'=>?_,hbl⟩;rw[hQ] at h'
   obtain rfl:Q=Q':=by injection h'
   exact(hz 0 z Q rfl rfl).k
  ·rw[List.mem_singleton.1 hu2] at hs;exact Or.inr ⟨s,t,i,d,u,rfl,hin,hl,ht,hu,hs,hbl⟩
theorem lim_ref {k b a c:Nat} (hk:1≤k) (hk3:k≤65535) (hb:b≤65535) (ha:a≤60) (hc:c≤65535) {w:World} {p q:PV} {ad:Addr} (hp:KP w p [limT a c 1]) (hq:KP w q (limD k b)) (hr:RS w (some ad) [q]) :
  Calls Tryz.prog 6 #[.int .u8 0,p.v,.slice (some ad) 1 1] w (LimR w k b a c) :=
 (rdivide_k 0 p [limT a c 1] (some ad) 1 [(q,limD k b)] [limV k b] (LimI k b a c) limM 1 1 2 100 w (by omega) hp hr (fun x hx=>by rw[List.mem_singleton.1 hx];exact hq) rfl (lim_divP hk hk3 hb ha) (LimI.start hc) (by simp)).mono fun e w' h=>by
  rcases h with ⟨g,n,Z,r,s,rfl,hn,-,hrow,hz,hdr,hin,h0,hbl⟩ | ⟨s,t,i,d,rfl,hin,hl,ht,⟨u,hu,u2,hu2,hs⟩,hbl⟩
  ·obtain⟨Q,hQ⟩:=hin.one;rw[hQ] at hn hz;obtain rfl:n=1:=hn;refine Or.inl ⟨some ⟨g,0,none⟩,1,Z 0,r,s,rfl,⟨fun _=>⟨g,0,rfl,fun i p hi=>?_⟩⟩,hin,h0,hdr.k,fun Q' h'=>?_,hbl⟩
   ·match i,hi with
    | 0,hi =>
     obtain rfl:Z 0=p:=Option.some.inj hi;exact hrow.cell (i:=0) (by omega)
   ·rw[hQ] at h'
    obtain rfl:Q=Q':=by injection h'
    exact(hz 0 Q rfl).k
  ·rw[List.mem_singleton.1 hu2] at hs;exact Or.inr ⟨s,t,i,d,u,rfl,hin,hl,ht,hu,hs,hbl⟩
theorem two_kp {w:World} {b:Nat} {y z:FV} {m n:Mo} {p q:Rat} (hb:Bxs w b 32 (TV.cells ⟨y,m⟩++TV.cells ⟨z,n⟩)) (hy:KF w y p) (hz:KF w z q) (hc:Canon [(m,p),(n,q)]) (hm:m.Small) (hn:n.Small):KP w ⟨some ⟨b,0,none⟩,2,2⟩ [(m,p),(n,q)]:=by
 refine⟨⟨[(⟨y,m⟩,p),(⟨z,n⟩,q)],⟨fun _=>⟨b,0,rfl,fun i t hi j v hj=>?_⟩⟩,rfl,fun e he=>?_,rfl⟩,Nat.le_refl _,hc,fun t ht=>?_⟩
 ·match i,hi with
  | 0,hi =>
   obtain rfl:(⟨y,m⟩:TV)=t:=Option.some.inj hi;have hl:j<8:=(List.getElem?_eq_some_iff.1 hj).1;have h:=hb.cell (i:=j) (v:=v) (by rw[List.getElem?_append_left hl];exact hj)
   simpa using h
  | 1,hi =>
   obtain rfl:(⟨z,n⟩:TV)=t:=Option.some.inj hi;have h:=hb.cell (i:=8+j) (v:=v) (by rw[List.getElem?_append_right (by show 8≤8+j;omega)];rw[show 8+j-(TV.cells ⟨y,m⟩).length=j by show 8+j-8=j;omega];exact hj)
   simpa using h
 ·rcases List.mem_cons.1 he with rfl | he
  ·exact hy
  ·rw[List.mem_singleton.1 he];exact hz
 ·rcases List.mem_cons.1 ht with rfl | ht
  ·exact hm
  ·rw[List.mem_singleton.1 ht];exact hn
theorem LimI.size {k b a c:Nat} (hk:1≤k) (ha:a≤60) {s:DS} (h:LimI k b a c s):(∀ t∈s.r,LQ t.2 900000)∧s.r.length≤1000000∧∀ Q,s.os=[Q]→(∀ t∈Q,LQ t.2 900000)∧Q.length≤1000000:=by
 obtain⟨h1,h2,h3,h4,h5,h6⟩:=h.all hk;refine⟨fun t ht=>(one_lq (Or.inl (h2 t ht))).up (by omega),by omega,fun Q hQ=>⟨fun t ht=>(one_lq (Or.inl (h3 Q (by rw[hQ];exact List.mem_singleton.2 rfl) t ht))).up (by omega),?_⟩⟩;have:=h6 Q (by rw[hQ];exact List.mem_singleton.2 rfl);omega
theorem dividesLimit_law (a0 a1 b0 b1:Nat) (w:World) (ha0:a0≤65535) (ha1:a1≤65535) (hb0:b0≤65535) (hb1:b1≤65535) :
  Calls Tryz.prog 3 #[.agg #[.int .u16 (a0:Int),.int .u16 (a1:Int)],.agg #[.int .u16 (b0:Int),.int .u16 (b1:Int)]] w fun e w'=>e=.returned (.bool true)∧Below w.heap.size w w':=by
 obtain⟨V,hV⟩:∃ V,V=(w.alloc (.cells #[.int .u16 (a0:Int),.int .u16 (a1:Int)] 23)).alloc (.cells #[.int .u16 (b0:Int),.int .u16 (b1:Int)] 23):=⟨_,rfl⟩
 have hbV:Below w.heap.size w V:=by rw[hV];exact((Below.refl _ _).alloc (Nat.le_refl _) _).alloc (by go_size) _
 have B2:=qh (show Bxs V w.heap.size 23 [.int .u16 (a0:Int),.int .u16 (a1:Int)] by rw[hV];exact(Bxs.new w 23 [.int .u16 (a0:Int),.int .u16 (a1:Int)]).alloc _)
 have B3:=qh (show Bxs V (w.heap.size+1) 23 [.int .u16 (b0:Int),.int .u16 (b1:Int)] by
  have h:=Bxs.new (w.alloc (.cells #[.int .u16 (a0:Int),.int .u16 (a1:Int)] 23)) 23 [.int .u16 (b0:Int),.int .u16 (b1:Int)];rw[World.size_alloc] at h
  rw[hV];exact h)
 obtain⟨A3,hA3⟩:∃ A,A=w.heap.size+1:=⟨_,rfl⟩;obtain⟨A2,hA2⟩:∃ A,A=w.heap.size:=⟨_,rfl⟩;rw[← hA3] at B3;rw[← hA2] at B2;have HA3:=qh hA3;have HA2:=qh hA2;have KG:=qh hbV;have HV:=qh hV;obtain⟨k,hk⟩:∃ k:Nat,k=1+b0%3:=⟨_,rfl⟩;have HK1:=qh (show 1≤k by omega);have HK3:=qh (show k≤3 by omega)
 have ek:IntKind.u16.wrap (1+(b0:Int).tmod 3)=(k:Int):=by
  rw[Int.tmod_eq_emod_of_nonneg (by omega)];rw[IntWalk.u16_in _ (by omega)];omega
 have HA0:=qh ha0;have HA1:=qh ha1;have HB1:=qh hb1;have CT:=qh (show Calls Tryz.prog 4 #[.int .i64 1,.agg #[.int .u16 (a0:Int),.int .u16 (a1:Int),.int .u16 0,.int .u16 0]] V _ from term_any 1 1 ⟨a0,a1,0,0⟩ V rfl rfl rfl);clear hV hbV hA3 hA2 hk ha0 ha1 hb0 hb1;go_enter Tryz.func3,Tryz.ntmps3
 go_upto_region 1 with (fail)
 rw[show(w.alloc (.cells #[.int .u16 (a0:Int),.int .u16 (a1:Int)] 23)).alloc (.cells #[.int .u16 (b0:Int),.int .u16 (b1:Int)] 23)=V from HV.out.symm,show w.heap.size+1=A3 from HA3.out.symm];rw[show w.heap.size=A2 from HA2.out.symm];have c20:=B2.out.cell (i:=0) rfl;have c21:=B2.out.cell (i:=1) rfl;go_wp2_with fail
 with_reducible refine CT.out.mono ?_
 rintro e w1 ⟨y1,he,hy,hb⟩;obtain rfl:e=.returned (.agg #[.bool y1.t.s,.slice y1.t.a y1.t.n y1.t.c,.bool y1.l.s,.slice y1.l.a y1.l.n y1.l.c,.int .u16 (a0:Int),.int .u16 (a1:Int),.int .u16 0,.int .u16 0]):=he;have HY1:=qh (show EF w1 A2 y1 1 by rw[HA2.out];exact hy.mono KG.out.size);have B2:=qh (B2.out.below hb B2.out.lt);have B3:=qh (B3.out.below hb B3.out.lt);have KG:=qk KG hb;clear hy hb CT c20 c21
 go_upto_region 2 with (fail)
 obtain⟨W1,hW1⟩:∃ X,X=w1.alloc (.cells #[.bool y1.t.s,.slice y1.t.a y1.t.n y1.t.c,.bool y1.l.s,.slice y1.l.a y1.l.n y1.l.c,.int .u16 (a0:Int),.int .u16 (a1:Int),.int .u16 0,.int .u16 0] 32):=⟨_,rfl⟩
 have hbW:Below w1.heap.size w1 W1:=by rw[hW1];exact(Below.refl _ _).alloc (Nat.le_refl _) _
 have KPP:=qh (show KP W1 ⟨some ⟨w1.heap.size,0,none⟩,1,1⟩ [limT a0 a1 1] by
  rw[hW1]
  exact(single_ep (V:=w1) (m:=⟨a0,a1,0,0⟩) (q:=1) HY1.out (by rw[HA2.out];exact KG.out.size) ⟨HA0.out,HA1.out,Nat.zero_le _,Nat.zero_le _⟩ rat_one_ne).k)
 have B2:=qh (B2.out.below hbW B2.out.lt);have B3:=qh (B3.out.below hbW B3.out.lt);have KG:=qk KG hbW;obtain⟨AP,hAP⟩:∃ A,A=w1.heap.size:=⟨_,rfl⟩;rw[← hW1,← hAP];rw[← hAP] at KPP;clear hW1 hbW hAP HY1
 go_upto_region 2 with (fail)
 refine FS.wp_region_fresh 9 [] (FS.spOf [(5,FS.Sp.made (fun x:FV=>Value.agg #[.bool x.t.s,.slice x.t.a x.t.n x.t.c,.bool x.l.s,.slice x.l.a x.l.n x.l.c,.int .u16 (k:Int),.int .u16 0,.int .u16 0,.int .u16 0]) (fun x w'=>EF w' W1.heap.size x (1:Rat)) FV.blk)])
  (fun w'=>Below W1.heap.size W1 w') (by kernel_rfl) (by kernel_rfl) (by kernel_rfl)
  (FS.spOf_cons (FS.Sp.made_keeps _ (fun _ _ _ h _ hk=>h.kept hk) (FS.notTaken (by kernel_rfl))) (FS.spOf_nil)) (fun _ _ h hb=>h.trans (hb.mono h.size)) ((Below.refl _ _).drew) ?_
 simp only[List.append_eq,List.cons_append,List.nil_append,List.take_succ_cons,List.take_zero,List.drop_succ_cons,List.drop_zero]
 iterate 5
  refine FS.wpF_reads rfl rfl rfl ?_ (fun w' hw'=>?_) ?_;rotate_left
  ·have hb':=hw'.world;have hs0:=(B3.out.below hb' B3.out.lt).cell (i:=0) rfl;have hs1:=(B3.out.below hb' B3.out.lt).cell (i:=1) rfl;have hsf:=(B3.out.below hb' B3.out.lt).fz;have hsl:=(B3.out.below hb' B3.out.lt).lt;clear hw';go_simp
   try rfl
  conv=>arg 10;simp only[Act.put,zq0,zq1,zq2]
 refine FS.wpF_spec rfl rfl rfl (fun w' hw'=>?_) ?_
 ·have hb':=hw'.world;refine FS.gives_of (FS.PM (fun x:FV=>Value.agg #[.bool x.t.s,.slice x.t.a x.t.n x.t.c,.bool x.l.s,.slice x.l.a x.l.n x.l.c,.int .u16 (k:Int),.int .u16 0,.int .u16 0,.int .u16 0]) (fun x w'=>EF w' W1.heap.size x (1:Rat)) FV.blk w'.heap.size) ?_ (fun _ _ h=>h.post (fun _ _=>inj8));go_simp;have CT:=(show Calls Tryz.prog 4 #[.int .i64 1,.agg #[.int .u16 (k:Int),.int .u16 0,.int .u16 0,.int .u16 0]] w' _ from term_any 1 1 ⟨k,0,0,0⟩ w' rfl rfl rfl);refine CT.mono ?_;rintro e w'' ⟨za,rfl,ho,hb⟩;exact⟨_,rfl,⟨za,rfl,ho.mono hb'.size,ho.blks⟩,hb⟩
 rintro _ ⟨y5,rfl⟩
 conv=>arg 10;simp only[Act.put,zq0,zq1,zq2]
 iterate 3
  refine FS.wpF_reads rfl rfl rfl ?_ (fun w' hw'=>?_) ?_;rotate_left
  ·have hb':=hw'.world;have hs0:=(B3.out.below hb' B3.out.lt).cell (i:=0) rfl;have hs1:=(B3.out.below hb' B3.out.lt).cell (i:=1) rfl;have hsf:=(B3.out.below hb' B3.out.lt).fz;have hsl:=(B3.out.below hb' B3.out.lt).lt;clear hw';go_simp
   try rfl
  conv=>arg 10;simp only[Act.put,zq0,zq1,zq2]
 refine FS.wpF_nil (fun w101 hb hF=>?_);have N102:=qh (show EF w101 W1.heap.size y5 (1:Rat) from(FS.made_of (val:=(fun x:FV=>Value.agg #[.bool x.t.s,.slice x.t.a x.t.n x.t.c,.bool x.l.s,.slice x.l.a x.l.n x.l.c,.int .u16 (k:Int),.int .u16 0,.int .u16 0,.int .u16 0])) (Φ:=fun x w'=>EF w' W1.heap.size x (1:Rat)) (fun _ _=>inj8) (hF.all 5)));clear hF;have KPP:=qh (KPP.out.below hb);have B3:=qh (B3.out.below hb B3.out.lt);have B2:=qh (B2.out.below hb B2.out.lt);have KG:=qk KG hb;clear hb;have HY5:=qh (N102.out.k);have CT:=qh (show Calls Tryz.prog 4 #[.int .i64 (-1),.agg #[.int .u16 0,.int .u16 (b1:Int),.int .u16 0,.int .u16 0]] w101 _ from term_any (-1) (-1) ⟨0,b1,0,0⟩ w101 rfl rfl rfl);go_wp2_with fail
 with_reducible refine CT.out.mono ?_
 rintro e w6 ⟨y6,he,hy,hb⟩;obtain rfl:e=.returned (.agg #[.bool y6.t.s,.slice y6.t.a y6.t.n y6.t.c,.bool y6.l.s,.slice y6.l.a y6.l.n y6.l.c,.int .u16 0,.int .u16 (b1:Int),.int .u16 0,.int .u16 0]):=he;have HY6:=qh hy.k;have HY5:=qh (HY5.out.below hb);have KPP:=qh (KPP.out.below hb);have B2:=qh (B2.out.below hb B2.out.lt);have KG:=qk KG hb;clear hy hb CT
 go_upto_region 3 with (fail)
 obtain⟨W2,hW2⟩:∃ X,X=w6.alloc (.cells #[.bool y5.t.s,.slice y5.t.a y5.t.n y5.t.c,.bool y5.l.s,.slice y5.l.a y5.l.n y5.l.c,.int .u16 (k:Int),.int .u16 0,.int .u16 0,.int .u16 0,.bool y6.t.s,.slice y6.t.a y6.t.n y6.t.c,.bool y6.l.s,.slice y6.l.a y6.l.n y6.l.c,.int .u16 0,.int .u16 (b1:Int),.int .u16 0,.int .u16 0] 32):=⟨_,rfl⟩
 have hbW:Below w6.heap.size w6 W2:=by rw[hW2];exact(Below.refl _ _).alloc (Nat.le_refl _) _
 have KPQ:=qh (show KP W2 ⟨some ⟨w6.heap.size,0,none⟩,2,2⟩ (limD k b1) from
  two_kp (y:=y5) (z:=y6) (m:=⟨k,0,0,0⟩) (n:=⟨0,b1,0,0⟩) (by rw[hW2];exact Bxs.new w6 32 (TV.cells ⟨y5,⟨k,0,0,0⟩⟩++TV.cells ⟨y6,⟨0,b1,0,0⟩⟩)) (HY5.out.below hbW) (HY6.out.below hbW) (limD_canon HK1.out) ⟨by have:=HK3.out;show k≤65535;omega,Nat.zero_le _,Nat.zero_le _,Nat.zero_le _⟩ ⟨Nat.zero_le _,HB1.out,Nat.zero_le _,Nat.zero_le _⟩)
 have KPP:=qh (KPP.out.below hbW);have B2:=qh (B2.out.below hbW B2.out.lt);have KG:=qk KG hbW;obtain⟨AQ,hAQ⟩:∃ A,A=w6.heap.size:=⟨_,rfl⟩;rw[← hW2,← hAQ];rw[← hAQ] at KPQ;clear hW2 hbW hAQ HY5 HY6;have c20:=B2.out.cell (i:=0) rfl;have c21:=B2.out.cell (i:=1) rfl
 by_cases h60:60<a0
 ·have g60:(a0:Int)>60:=by omega
  have g61:(60:Int)<(a0:Int):=by omega
  go_wp2_with fail
  go_ret;exact⟨rfl,KG.out⟩
 ·have g60:¬((a0:Int)>60):=by omega
  have g61:¬((60:Int)<(a0:Int)):=by omega
  have H60:=qh (show a0≤60 by omega);obtain⟨W3,hW3⟩:∃ X,X=W2.alloc (.cells #[.slice (some ⟨AQ,0,none⟩) 2 2] 35):=⟨_,rfl⟩
  have hbW:Below W2.heap.size W2 W3:=by rw[hW3];exact(Below.refl _ _).alloc (Nat.le_refl _) _
  have D1:=qh (show Calls Tryz.prog 5 #[.int .u8 0,.slice (some ⟨AP,0,none⟩) 1 1,.slice (some ⟨W2.heap.size,0,none⟩) 1 1] W3 _ from lim_impl (p:=⟨some ⟨AP,0,none⟩,1,1⟩) (q:=⟨some ⟨AQ,0,none⟩,2,2⟩) HK1.out (by have:=HK3.out;omega) HB1.out H60.out HA1.out (KPP.out.below hbW) (KPQ.out.below hbW) (by rw[hW3];exact RS.new W2 [⟨some ⟨AQ,0,none⟩,2,2⟩]));have KPP:=qh (KPP.out.below hbW);have KPQ:=qh (KPQ.out.below hbW);have KG:=qk KG hbW;have HW3:=qh hW3;clear hW3 hbW h60;go_wp2_with fail
  rw[show W2.alloc (.cells #[.slice (some ⟨AQ,0,none⟩) 2 2] 35)=W3 from HW3.out.symm];with_reducible refine D1.out.mono ?_
  rintro e w7 h1
  have hb:Below W3.heap.size W3 w7:=by rcases h1 with ⟨_,_,_,_,_,_,_,_,_,_,_,h⟩ | ⟨_,_,_,_,_,_,_,_,_,_,_,h⟩ <;> exact h
  have KPP:=qh (KPP.out.below hb);have KPQ:=qh (KPQ.out.below hb);have KG:=qk KG hb;obtain⟨W4,hW4⟩:∃ X,X=w7.alloc (.cells #[.slice (some ⟨AQ,0,none⟩) 2 2] 35):=⟨_,rfl⟩
  have hbW:Below w7.heap.size w7 W4:=by rw[hW4];exact(Below.refl _ _).alloc (Nat.le_refl _) _
  have D2:=qh (show Calls Tryz.prog 6 #[.int .u8 0,.slice (some ⟨AP,0,none⟩) 1 1,.slice (some ⟨w7.heap.size,0,none⟩) 1 1] W4 _ from lim_ref (p:=⟨some ⟨AP,0,none⟩,1,1⟩) (q:=⟨some ⟨AQ,0,none⟩,2,2⟩) HK1.out (by have:=HK3.out;omega) HB1.out H60.out HA1.out (KPP.out.below hbW) (KPQ.out.below hbW) (by rw[hW4];exact RS.new w7 [⟨some ⟨AQ,0,none⟩,2,2⟩]));have HW4:=qh hW4;have HBW:=qh hbW;clear hW4 hbW D1
  rcases h1 with ⟨ax,cx,⟨za,zn,zc⟩,⟨ra,rn,rc⟩,s,he,hrs,hin,h0,hr,hz,-⟩ | ⟨s,t,i,d,u,rfl,hin,hl,ht,hu,hov,-⟩
  ·obtain rfl:e=.returned (.tuple #[.slice ax 1 cx,.slice ra rn rc,.int .i64 0]):=he;have HRS:=qh hrs;have HIN:=qh hin;have H0:=qh h0;have HR:=qh hr;have HZ:=qh hz;clear hb hrs hin h0 hr hz;go_wp2_with fail
   rw[show w7.alloc (.cells #[.slice (some ⟨AQ,0,none⟩) 2 2] 35)=W4 from HW4.out.symm];with_reducible refine D2.out.mono ?_
   rintro e w8 h2
   rcases h2 with ⟨ax2,cx2,⟨za2,zn2,zc2⟩,⟨ra2,rn2,rc2⟩,s2,he,hrs2,hin2,h02,hr2,hz2,hb2⟩ | ⟨s2,t,i,d,u,rfl,hin2,hl,ht,hu,hov,-⟩
   ·obtain rfl:e=.returned (.tuple #[.slice ax2 1 cx2,.slice ra2 rn2 rc2,.int .i64 0]):=he;obtain rfl:s=s2:=lim_fin HIN.out H0.out hin2 h02;obtain⟨Q,hQ⟩:=hin2.one;obtain⟨g1,g2,g3⟩:=hin2.size HK1.out H60.out;obtain⟨g4,g5⟩:=g3 Q hQ;have hbb:=HBW.out.trans (hb2.mono HBW.out.size);have KG:=qk KG hbb
    have CS:=qh (samePolys_k ax ax2 1 cx cx2 [⟨za,zn,zc⟩] [⟨za2,zn2,zc2⟩] w8 (HRS.out.below hbb) hrs2 rfl rfl (by omega) (fun i x y hx hy=>by
     match i,hx,hy with
     | 0,hx,hy =>
      obtain rfl:=Option.some.inj hx;obtain rfl:=Option.some.inj hy
      exact⟨Q,(HZ.out Q hQ).below hbb,hz2 Q hQ,g4,g5⟩))
    have HRR:=qh (HR.out.below hbb);have HR2:=qh hr2;have G1:=qh g1;have G2:=qh g2;clear hrs2 hin2 h02 hr2 hz2 hb2 hQ g1 g2 g3 g4 g5 hbb D2;go_wp2_with fail
    with_reducible refine CS.out.mono ?_
    rintro e w9 ⟨rfl,hb⟩;have CP:=qh (show Calls Tryz.prog 8 #[.slice ra rn rc,.slice ra2 rn2 rc2] w9 _ from same_k ⟨ra,rn,rc⟩ ⟨ra2,rn2,rc2⟩ s.r w9 (HRR.out.below hb) (HR2.out.below hb) G1.out G2.out);have KG:=qk KG hb;clear hb CS;go_wp2_with fail
    with_reducible refine CP.out.mono ?_
    rintro e w10 ⟨rfl,hb⟩;have KG:=qk KG hb;clear hb CP;go_wp2_with fail
    go_ret;exact⟨rfl,KG.out⟩
   ·exact(lim_over HIN.out H0.out hin2 hl ht hu hov HA0.out).elim
  ·have HIN:=qh hin;have HL:=qh hl;have HT:=qh ht;have HU:=qh hu;have HO:=qh hov;clear hb hin hl ht hu hov;go_wp2_with fail
   rw[show w7.alloc (.cells #[.slice (some ⟨AQ,0,none⟩) 2 2] 35)=W4 from HW4.out.symm];with_reducible refine D2.out.mono ?_
   rintro e w8 h2
   rcases h2 with ⟨ax2,cx2,z2,r2,s2,-,-,hin2,h02,-,-,-⟩ | ⟨s2,t2,i2,d2,u2,rfl,-,-,-,-,-,hb2⟩
   ·exact(lim_over hin2 h02 HIN.out HL.out HT.out HU.out HO.out HA0.out).elim
   ·have hbb:=HBW.out.trans (hb2.mono HBW.out.size);have KG:=qk KG hbb;have CS:=qh (samePolys_k none none 0 0 0 [] [] w8 (RS.nil _ _) (RS.nil _ _) rfl rfl (by omega) (fun i x y hx _=>by simp at hx));clear hb2 hbb D2;go_wp2_with fail
    with_reducible refine CS.out.mono ?_
    rintro e w9 ⟨rfl,hb⟩;have CP:=qh (show Calls Tryz.prog 8 #[.slice none 0 0,.slice none 0 0] w9 _ from same_k ⟨none,0,0⟩ ⟨none,0,0⟩ [] w9 (KP.nil _ _ _) (KP.nil _ _ _) (fun t ht=>by cases ht) (by simp));have KG:=qk KG hb;clear hb CS;go_wp2_with fail
    with_reducible refine CP.out.mono ?_
    rintro e w10 ⟨rfl,hb⟩;have KG:=qk KG hb;clear hb CP;go_wp2_with fail
    go_ret;exact⟨rfl,KG.out⟩
end Go.Proofs.YtjcmanikkcfnmaaGreat.Pol
namespace Go.Proofs.YtjcmanikkcfnmaaGreat.Pol
open Go.RowKit Go.Sort Go.Proofs.YtjcmanikkcfnmaaGreat.Limb Go.ChangeShapes Go.WideShapes Go.ChangeAt
namespace DividesLimitS
theorem own:ownKnob Tryz.prog.godebug=none:=by kernel_rfl
theorem laidOut:laidOutB Tryz.prog=true:=by kernel_rfl
theorem open_u2 {H:Type} {enc:TypeId × Value→H} {W:World} {base:Nat} {r:Reach} {sp:Nat→Bool} {hd:Bool} {v:Value} {d:DataW H} {p:List MemPlace}
  (hok:Value.okWide Tryz.prog W r base 23 v) (h:DataW.Trod enc Tryz.prog W 0 sp hd 23 v d p):∃ a b:Nat,v=.agg #[.int .u16 (a:Int),.int .u16 (b:Int)]∧a≤65535∧b≤65535:=by
 obtain⟨cs,rfl,_⟩:∃ cs,v=.agg cs∧True:=by
  unfold Value.okWide at hok;rw[Tryz.underlying23] at hok;obtain⟨cs,h1,_⟩:=hok;exact⟨cs,h1,trivial⟩
 obtain⟨fuel,hf⟩:=h;obtain⟨l⟩:=cs;have hf:DataW.trod enc Tryz.prog W 0 sp hd fuel 23 l=some (d,p):=hf;have hl:l.length=2:=(LawPost.trod_arr Tryz.underlying23 hf).1.trans (by kernel_rfl);have g:=LawPost.trod_u16s Tryz.underlying23 Tryz.underlying22 (by kernel_rfl) hf;obtain⟨a0,e0,b0⟩:=g 0 (by omega) (by omega);obtain⟨a1,e1,b1⟩:=g 1 (by omega) (by omega);obtain⟨x,rfl⟩:=Int.eq_ofNat_of_zero_le b0.1;obtain⟨y,rfl⟩:=Int.eq_ofNat_of_zero_le b1.1;refine⟨x,y,?_,by omega,by omega⟩
 have h2:l=[.int .u16 (x:Int),.int .u16 (y:Int)]:=by
  apply List.ext_getElem?;intro i
  match i with
  | 0=>exact e0
  | 1=>exact e1
  | n+2=>rw[List.getElem?_eq_none (by omega)];rfl
 rw[h2]
noncomputable def laidWorld (os:Os):World:=World.laidAll Tryz.prog os Rows.dividesLimitRow.laid
noncomputable def witArgs:Array Value:=#[.agg #[.int .u16 0,.int .u16 0],.agg #[.int .u16 0,.int .u16 0]]
theorem laid_met (os:Os):laidMet Tryz.prog Rows.dividesLimitRow.laid ((laidWorld os).forCall (fun _ _=>0) ⟨#[],witArgs,[]⟩).memory :=
 laidMet_laidAll _ (by kernel_rfl) (by kernel_rfl)
theorem reads (os:Os) {H:Type} (enc:TypeId × Value→H):∃ places,DataW.whole enc Tryz.prog ((laidWorld os).forCall (fun _ _=>0) ⟨#[],witArgs,[]⟩).memory Tryz.f3.params.toList Rows.dividesLimitSpec.vars false witArgs.toList 8=some ([.agg [.lit (.int .u16 0),.lit (.int .u16 0)],.agg [.lit (.int .u16 0),.lit (.int .u16 0)]],[],places) :=
 ⟨[],by kernel_rfl⟩
theorem lifted (os:Os) (started:os.Started) (H:Type) (enc:TypeId × Value→H) (F:Stop.Interp) :
  ReturnsInHanded {} Tryz.checked os 3 .any ((OpenSpec.ofChange Rows.dividesLimitSpec).preRow enc Tryz.prog Tryz.f3 Rows.dividesLimitRow.domain false Rows.dividesLimitRow.laid) (((OpenSpec.ofChange Rows.dividesLimitSpec).at F).post enc Tryz.prog Tryz.f3 false true false false):=by
 obtain⟨places,hx⟩:=reads os enc
 refine returnsInHanded_of_row (C:=Tryz.checked) (s:=OpenSpec.ofChange Rows.dividesLimitSpec) own started (by kernel_rfl) Tryz.func3
  (witness_row_atRef (enc:=enc) (C:=Tryz.checked) false (laidWorld os) witArgs (World.laidAll_os _ _ _) (by kernel_rfl) (by kernel_rfl) (by kernel_rfl)
   (OpenSpec.preRow_of_cond 8 hx (by kernel_rfl) (fun k hk=>by cases hk) (by kernel_rfl) (laid_met os))) ?_
 intro W base args ds gs before hval0 hW _ _ hwt _ _ _;have hval:∀ (j:Nat) t v,Tryz.f3.params[j]?=some t→args[j]?=some v→Value.okWide Tryz.prog W .any base t v:=hval0;have hW':=hW;obtain⟨p,q,hA0,hV,rfl,hfz,hnd⟩:=hW;have hA:DataW.TrodAll enc Tryz.prog W 0 (fun _=>true) true Tryz.f3.params.toList args.toList ds p:=hA0;rw[Tryz.params3] at hA hval;obtain⟨v0,v1,d0,d1,p0,p1,rfl,rfl,rfl,h0,h1⟩:=trodAll_two hA;obtain⟨rfl,rfl⟩:=trodVars_none hV;obtain⟨m0,n0,rfl,hm0,hn0⟩:=open_u2 (hval 0 23 v0 rfl rfl) h0;obtain⟨m1,n1,rfl,hm1,hn1⟩:=open_u2 (hval 1 23 v1 rfl rfl) h1
 refine(dividesLimit_law m0 n0 m1 n1 W hm0 hn0 hm1 hn1).mono fun e W' ⟨he,hg⟩=>?_
 subst he;exact⟨_,rfl,LawPost.law_post laidOut (by kernel_rfl) (by kernel_rfl) Tryz.underlying4 hW' rfl rfl hg⟩
theorem said:Rows.DividesLimitSaid :=
 OpenClaim.holds_of_cond 3 Tryz.f3 rfl rfl rfl rfl rfl rfl rfl ⟨rfl,rfl,rfl,rfl,rfl⟩ rfl rfl rfl rfl rfl (by kernel_rfl) Tryz.func3 (by kernel_rfl)
  (of_decide_eq_true (by kernel_rfl)) (by unfold Func.isWrapper;first | (rw[if_pos (by decide +kernel)];kernel_rfl) | (rw[if_neg (by decide +kernel)];exact⟨rfl,rfl⟩))
  (fun os started H enc _ F=>by rw[OpenClaim.pre_eq_preRow];exact lifted os started H enc F)
#print axioms said
end DividesLimitS
end Go.Proofs.YtjcmanikkcfnmaaGreat.Pol
