/-
  The references' fractions, and their order of products of letters, under one name each.
-/
import Derived.Test.YtgkkbkoiaccmfaaGreatDoorPzPM
import Derived.Shelf.Spec.SlicesGrow
import Derived.SizedLaws
import Derived.Lib.EndianBits
set_option linter.unusedSimpArgs false
set_option linter.unusedVariables false
set_option maxHeartbeats 16000000
set_option maxRecDepth 100000
namespace Go.Proofs.YtgkkbkoiaccmfaaGreatDoor
namespace Pol
open Go.RowKit Go.Sort Limb
theorem TV.one (t:TV):∀ u∈t.cells,u.oneCell'=true:=by
 intro u hu;simp only[TV.cells,List.mem_cons,List.mem_nil_iff,or_false] at hu
 rcases hu with rfl | rfl | rfl | rfl | rfl | rfl | rfl | rfl <;> rfl
theorem flat_inv (ts:List TV) (j:Nat) (v:Value) (h:(ts.flatMap TV.cells)[j]?=some v):∃ i k t,j=i*8+k/\ts[i]?=some t/\t.cells[k]?=some v:=by
 have hj:=(List.getElem?_eq_some_iff.1 h).1;rw[Ky] at hj
 have hi:j/8<ts.length:=by omega
 refine⟨j/8,j%8,ts[j/8],by omega,List.getElem?_eq_getElem hi,?_⟩;rw[<- flat_get ts (j/8) (j%8) _ (List.getElem?_eq_getElem hi) (Nat.mod_lt _ (by omega)),show j/8*8+j%8=j by omega];exact h
theorem app_run (w:World) (lo:Nat) (v:Value) (ts us:List TV) (a:Option Addr) (n c ty:Nat) (h:OT w lo v ts) (hr:RT w a us) (hl:us.length=n) (hs:ts.length+us.length<=4000000) (hlo:lo<=w.heap.size) :
  ∃ v' w',(Builtin.append_ #[23,23] ty #[v,.slice a n c]).run Tryz.prog w=.ok v' w'/\OT w' lo v' (ts++us)/\w.grownBy w' v.ownBlock:=by
 obtain⟨i0,hi,hz0,hz1,hz2⟩:=info_parts info8
 cases a with
 | none =>
  have hn:us=[]:=by
   by_cases h0:us=[]
   ·exact h0
   ·obtain⟨b,off,h1,-⟩:=hr.ex h0
    cases h1
  subst hn;obtain rfl:0=n:=hl;refine⟨v,w,?_,by rw[List.append_nil];exact h,rfl,rfl,rfl,zj,fun _ _ _=>rfl⟩
  rcases h.2 with ⟨rfl,h0⟩ | ⟨g,cap,cur,rfl,_,_,hnc,_⟩
  ·simp[Builtin.append_,run_underlying (P:=Tryz.prog) Tryz.underlying23,sizeOf,typeInfo,hi,Builtin.lenOf,Builtin.firstCells]
  ·simp[Builtin.append_,run_underlying (P:=Tryz.prog) Tryz.underlying23,sizeOf,typeInfo,hi,Builtin.lenOf,Builtin.firstCells,hnc,storeCells]
 | some ad =>
  have hcell:∀ j u,(us.flatMap TV.cells)[j]?=some u->w.cell? (ad.add j)=some u:=fun j u hj=>by
   obtain⟨i,k,t,rfl,h2,h3⟩:=flat_inv us j u hj;obtain⟨b,off,h4,h5⟩:=hr.ex (fun h0=>by rw[h0] at h2;cases h2);obtain rfl:=Option.some.inj h4;have h6:=h5 i t h2 k u h3;rw[Nat.add_assoc] at h6;rw[show(⟨b,off,none⟩:Addr).add (i*8+k)=⟨b,off+(i*8+k),none⟩ by simp[Addr.add]];exact h6
  obtain⟨v',w',h1,h2,h3,-⟩:=run_append_own (P:=Tryz.prog) w lo 23 ty 71 i0 _ 8 72 Tryz.underlying23 hi hz0 hz1 hz2 rfl (by decide) v ts.length (ts.flatMap TV.cells) h ad n c (us.flatMap TV.cells)
   (by rw[Ky,hl]) hcell (fun u hu=>by obtain⟨t,_,ht⟩:=List.mem_flatMap.1 hu;exact TV.one t u ht) (by rw[<- hl];unfold maxLen;omega) (by rw[<- hl];omega) hlo
  refine⟨v',w',h1,?_,h3⟩;show w'.ownsRow _ _ _ _ _ _;rw[List.flatMap_append,List.length_append,hl];exact h2
theorem jg4 (n:Nat) (w:World) (hn:n<=4000000):Calls Tryz.prog 233 #[.slice none 0 0,.int .i64 n] w fun e w'=>∃ v,e=.returned v/\OT w' w.heap.size v []/\Below w.heap.size w w':=by
 obtain⟨i0,hi,hz0,hz1,hz2⟩:=info_parts info8;by_cases h0:n=0
 ·subst h0;refine(Any8.slices_Grow_room (P:=Tryz.prog) (ρ:=Tryz.growT_ren) Tryz.growT none 0 0 0 w zj (by decide) (by decide) (by decide)).mono ?_;rintro e w' ⟨rfl,rfl⟩;exact⟨_,rfl,World.ownsRow_nil _ _ _ _,zk⟩
 ·refine(Any8.slices_Grow_grow (P:=Tryz.prog) (ρ:=Tryz.growT_ren) Tryz.growT i0 _ hi hz0 (by rw[hz1];decide) none 0 0 n [] w zj (by omega) (by rw[hz2];omega) (by omega) (by rw[Nat.zero_mul];rfl) (fun _=>rfl) (fun a h=>by cases h)).mono ?_;rintro e w' ⟨rfl,rfl⟩;obtain⟨G,hG⟩:∃ G,G=grownCap w (0+n) 0 71:=⟨_,rfl⟩
  have h1:0+n<=G:=by rw[hG];exact grownCap_ge _ _ _ _
  have h2:G<=maxLen:=by rw[hG];exact grownCap_le_maxLen _ _ _ _ (by unfold maxLen;omega)
  refine⟨_,rfl,?_,(zk.drew).alloc zj _⟩;change World.ownsRow (w.drew.alloc (.cells _ 71)) w.drew.heap.size 71 8 (.slice (some ⟨w.drew.heap.size,0,none⟩) 0 (grownCap w (0+n) 0 71)) 0 [];rw[<- hG];refine World.ownsRow_made w.drew _ G zj h2 ?_;change (_++Builtin.zeroCells _ (grownCap w (0+n) 0 71-(0+n))).size=_;rw[<- hG];simp only[Array.size_append,size_zeroCells,Value.cells];simp;omega
theorem conc_any (g:Nat) (Xs:List (PV × List TV)) (w:World) (hc:∀ i e,Xs[i]?=some e->w.cell? ⟨g,i,none⟩=some e.1.v) (hr:∀ e∈Xs,RT w e.1.a e.2/\e.2.length=e.1.n)
  (hs:(Xs.flatMap Prod.snd).length<=4000000) (hn:Xs.length<=1000) :
  Calls Tryz.prog 154 #[.slice (some ⟨g,0,none⟩) Xs.length Xs.length] w fun e w'=>∃ v,e=.returned v/\OT w' w.heap.size v (Xs.flatMap Prod.snd)/\Below w.heap.size w w':=by
 obtain⟨m,hm⟩:∃ m,m=Xs.length:=⟨_,rfl⟩;rw[<- hm] at hn ⊢;have HC:=qh hc;have HR:=qh hr;have HS:=qh hs;have HN:=qh hn;have HM:=qh hm
 have HT:=qh (show ∀ j,((Xs.take j).flatMap Prod.snd).length<=4000000 from fun j=>by
  refine zm ?_ hs;have h:=congrArg (fun l=>(l.flatMap Prod.snd).length) (List.take_append_drop j Xs);simp only[List.flatMap_append,List.length_append] at h
  omega)
 have HW:=qh (show ∀ (i:Nat) e,Xs[i]?=some e->(Xs.take (i+1)).flatMap Prod.snd=(Xs.take i).flatMap Prod.snd++e.2 from fun i e he=>by
  rw[List.take_add_one,he];simp)
 clear hc hr hs hn hm;go_enter Tryz.func154,Tryz.ntmps154;go_wp2_with fail
 go_loopw [3,11] (fun s i wr=>∃ j:Nat,j<=m/\i=.int .i64 j/\s=.int .i64 (((Xs.take j).flatMap Prod.snd).length:Nat)/\Below w.heap.size w wr) (fun _ i _=>m-(intOf i).toNat)
 case atStart =>
  exact⟨0,Nat.zero_le _,rfl,rfl,zk⟩
 case round =>
  obtain⟨j,hj,rfl,rfl,hb0⟩:=hrel;have HJ:=qh hj;have KG:=qh hb0;clear hj hb0;obtain⟨z,hz⟩:∃ z,z=((Xs.take j).flatMap Prod.snd).length:=⟨_,rfl⟩;rw[<- hz];have HZ:=qh hz;have HZ4:=qh (show z<=4000000 by rw[hz];exact HT.o j);clear hz;by_cases hjn:j<m
  ·have HJN:=qh hjn;obtain⟨⟨⟨xa,xn,xc⟩,ts⟩,he⟩:∃ e,Xs[j]?=some e:=⟨_,List.getElem?_eq_getElem (by rw[<- HM.o];exact hjn)⟩;have HE:=qh he;have c0:=(KG.o.cell (p:=⟨g,j,none⟩) (block_lt_of_cell (HC.o j _ he))).trans (HC.o j _ he);have hxn:ts.length=xn:=(HR.o _ (List.mem_of_getElem? he)).2;have h4:=HT.o (j+1);rw[HW.o j _ he,List.length_append] at h4;have HX4:=qh (show z+xn<=4000000 by rw[HZ.o];change _+ts.length<=_ at h4;omega);have ek:IntKind.i64.wrap ((j:Int)+1)=(j:Int)+1:=IntWalk.i64_in _ (by have:=HJN.o;have:=HN.o;omega);have ez:IntKind.i64.wrap ((z:Int)+(xn:Int))=(z:Int)+(xn:Int):=IntWalk.i64_in _ (by have:=HX4.o;omega)
   have e0:¬((z:Int)+(xn:Int)<0):=by omega
   have HXN:=qh hxn;clear he hxn h4;go_wp2_with fail
   go_roundw
   case rel =>
    refine⟨j+1,by have:=HJN.o;omega,rfl,?_,KG.o⟩;rw[HW.o j _ HE.o,List.length_append,<- HZ.o];show Value.int IntKind.i64 ((z:Int)+(xn:Int))=.int .i64 ((z+ts.length:Nat):Int);rw[HXN.o];rfl
   case measure=>simp[intOf];have:=HJN.o;omega
  ·have HJE:=qh (show j=m by have:=HJ.o;omega)
   have hge:¬((j:Int)<(m:Int)):=by omega
   have GR:=qh (jg4 z wr HZ4.o);clear hjn;go_wp2_with fail
   with_reducible refine GR.o.mono ?_
   rintro e w1 ⟨v,rfl,ho,hb⟩;have HO:=qh (OT.mono ho KG.o.size);have KG:=qk KG hb;clear ho hb GR hge;go_wp2_with fail
   go_loopw [6,27] (fun s i wr=>∃ j:Nat,j<=m/\i=.int .i64 j/\OT wr w.heap.size s ((Xs.take j).flatMap Prod.snd)/\Below w.heap.size w wr) (fun _ i _=>m-(intOf i).toNat)
   case atStart =>
    exact⟨0,Nat.zero_le _,rfl,HO.o,KG.o⟩
   case round =>
    obtain⟨i,hi,rfl,ho,hb0⟩:=hrel;have HI:=qh hi;have HO:=qh ho;have KG:=qh hb0;clear hi ho hb0;by_cases hin:i<m
    ·have HIN:=qh hin;obtain⟨⟨⟨xa,xn,xc⟩,ts⟩,he⟩:∃ e,Xs[i]?=some e:=⟨_,List.getElem?_eq_getElem (by rw[<- HM.o];exact hin)⟩;have HE:=qh he;have c0:=(KG.o.cell (p:=⟨g,i,none⟩) (block_lt_of_cell (HC.o i _ he))).trans (HC.o i _ he);have hxn:=HR.o _ (List.mem_of_getElem? he);have h4:=HT.o (i+1);rw[HW.o i _ he,List.length_append] at h4;obtain⟨s',w2,hrun,ho,hgw⟩:=app_run _ w.heap.size _ ((Xs.take i).flatMap Prod.snd) ts xa xn xc 23 HO.o (hxn.1.below KG.o) hxn.2 h4 KG.o.size;have HO2:=qh ho;have KG2:=qh (KG.o.grown hgw KG.o.size (fun g hg=>(World.ownsRow.lt HO.o g hg).1));have ek:IntKind.i64.wrap ((i:Int)+1)=(i:Int)+1:=IntWalk.i64_in _ (by have:=HIN.o;have:=HN.o;omega);clear he hxn h4 ho hgw;go_wp2_with (first | (at_builtin;refine wpList_append_run rfl _ _ 23 rfl _ _ rfl rfl _ _ hrun ?_))
     go_roundw
     case rel =>
      refine⟨i+1,by have:=HIN.o;omega,rfl,?_,KG2.o⟩;rw[HW.o i _ HE.o];exact HO2.o
     case measure=>simp[intOf];have:=HIN.o;omega
    ·have HIE:=qh (show i=m by have:=HI.o;omega)
     have hge:¬((i:Int)<(m:Int)):=by omega
     clear hin;go_wp2_with fail
     go_ret;refine⟨_,rfl,?_,KG.o⟩;have h:=HO.o;rw[HIE.o,HM.o,List.take_length] at h;exact h
theorem of_at {w V:World} {x:PV} {P:List Tm} (h:AP w x P) (hV:Below w.heap.size w V) (hq:∀ t∈P,LQ t.2 900000) (hn:x.n<=1000000000):Calls Tryz.prog 74 #[x.v] V fun e w'=>∃ y:PV,e=.returned y.v/\KP w y P/\y.n<=x.n/\Below V.heap.size V w':=by
 rcases h with h | ⟨h,rfl⟩
 ·exact(of_k (h.below hV) hq hn).mono fun e w' ⟨h1,h2⟩=>⟨x,h1,h,zj,h2⟩
 ·exact(of_b (h.below hV) hn).mono fun e w' ⟨h1,h2⟩=>⟨⟨none,0,0⟩,h1,KP.nil _ _ _,Nat.zero_le _,h2⟩
theorem AP.canon {w:World} {x:PV} {P:List Tm} (h:AP w x P):Canon P:=h.elim (fun h=>h.canon) (fun h=>by rw[h.2];exact Canon.nil)
theorem AP.small {w:World} {x:PV} {P:List Tm} (h:AP w x P):∀ t∈P,t.1.Small:=h.elim (fun h=>h.small) (fun h=>by rw[h.2];exact fun t ht=>by cases ht)
theorem jcr {α:Type} {x y:α} {P:α->Prop} (h1:P x) (h2:P y):∀ e∈[x,y],P e:=fun e he=>by
 rcases List.mem_cons.1 he with rfl | he
 ·exact h1
 ·rw[List.mem_singleton.1 he];exact h2
theorem Va (x y:PV) (P Q:List Tm) (k:Nat) (w:World) (hx:AP w x P) (hy:AP w y Q) (hxn:x.n<=1000000) (hyn:y.n<=1000000) (hp:∀ t∈P,LQ t.2 k) (hq:∀ t∈Q,LQ t.2 k)
  (hk:2*k+2<=900000) (hn:P.length+Q.length<=1000000) :
  Calls Tryz.prog 49 #[x.v,y.v] w fun e w'=>∃ z:PV,e=.returned z.v/\DP w' w.heap.size z (Qf P Q)/\Below w.heap.size w w':=by
 have HX:=qh hx;have HY:=qh hy;have HXN:=qh hxn;have HYN:=qh hyn;have HK:=qh hk
 have hall:∀ t∈P++Q,LQ t.2 k:=fun t ht=>(List.mem_append.1 ht).elim (hp t) (hq t)
 have HALL:=qh hall;have HN:=qh hn;have HCF:=qh (show ∀ j m,cf ((P++Q).take j) m=0\/LQ (cf ((P++Q).take j) m) (2*k+2) from fun j m=>add_cf hx.canon hy.canon hp hq j m);have HPQ:=qh (show ∀ t∈P,LQ t.2 900000 from fun t ht=>(hp t ht).up (by omega));have HQQ:=qh (show ∀ t∈Q,LQ t.2 900000 from fun t ht=>(hq t ht).up (by omega))
 have hmm:=fun (t:TypeId) (w:World)=>run_makeMap (P:=Tryz.prog) t w
 obtain⟨xa,xn,xc⟩:=x;obtain⟨ya,yn,yc⟩:=y;change Calls Tryz.prog 49 #[.slice xa xn xc,.slice ya yn yc] w _;clear hx hy hxn hyn hp hq hk hn hall;go_enter Tryz.func49,Tryz.ntmps49
 go_upto_region 2 with (fail)
 clear hmm;obtain⟨V0,hV⟩:∃ V,V=w.alloc (.map #[] 0):=⟨_,rfl⟩
 have hbV:Below w.heap.size w V0:=by rw[hV];exact zk.alloc zj _
 have HM0:=qh (show MK V0 w.heap.size w.heap.size [] by rw[hV];exact⟨heap_alloc_new w _,zj,fun e he=>(by cases he),List.Pairwise.nil,List.nodup_nil,fun e he=>(by cases he)⟩);rw[<- hV];have KG:=qh hbV;clear hV hbV;have O1:=qh (of_at HX.o KG.o HPQ.o (by have h:xn<=1000000:=HXN.o;show xn<=_;omega));go_wp2_with fail
 with_reducible refine O1.o.mono ?_
 rintro e w1 ⟨⟨pa,pn,pc⟩,he,hp,hpn,hb⟩;obtain rfl:e=.returned (.slice pa pn pc):=he;have HP:=qh hp;have HPN:=qh hpn;have HM1:=qh (HM0.o.below hb);have KG:=qk KG hb;clear hp hpn hb O1 HM0;have O2:=qh (of_at HY.o KG.o HQQ.o (by have h:yn<=1000000:=HYN.o;show yn<=_;omega));go_wp2_with fail
 with_reducible refine O2.o.mono ?_
 rintro e w2 ⟨⟨qa,qn,qc⟩,he,hq,hqn,hb⟩;obtain rfl:e=.returned (.slice qa qn qc):=he;have HQ:=qh hq;have HQN:=qh hqn;have HM2:=qh (HM1.o.below hb);have KG:=qk KG hb;clear hq hqn hb O2 HM1;obtain⟨L1,g1,g2,g3,g4⟩:=HP.o.ex;obtain⟨L2,k1,k2,k3,k4⟩:=HQ.o.ex;have BB:=qh (Bxs.new w2 23 [.slice pa pn pc,.slice qa qn qc]);have hb3:Below w2.heap.size w2 (w2.alloc (.cells #[.slice pa pn pc,.slice qa qn qc] 23)):=zk.alloc zj _;have HM3:=qh (HM2.o.below hb3);have KG:=qk KG hb3;have HLL:=qh (show(L1++L2).map tm=P++Q by rw[List.map_append,g4,k4]);have HKF:=qh (show ∀ e∈L1++L2,KF w e.1.c e.2 from fun e he=>(List.mem_append.1 he).elim (g3 e) (k3 e));have HLN:=qh (show L1.length+L2.length<=2000000 by have h1:=HPN.o;have h2:=HXN.o;have h3:=HQN.o;have h4:=HYN.o;change pn<=xn at h1;change xn<=_ at h2;change qn<=yn at h3;change yn<=_ at h4;change L1.length=pn at g2;change L2.length=qn at k2;omega)
 have CC:=qh (show Calls Tryz.prog 154 #[.slice (some ⟨w2.heap.size,0,none⟩) 2 2] (w2.alloc (.cells #[.slice pa pn pc,.slice qa qn qc] 23)) _ from conc_any w2.heap.size [(⟨pa,pn,pc⟩,L1.map Prod.fst),(⟨qa,qn,qc⟩,L2.map Prod.fst)] (w2.alloc (.cells #[.slice pa pn pc,.slice qa qn qc] 23)) (fun i e he=>by
   match i,he with
   | 0,he=>obtain rfl:=Option.some.inj he;exact BB.o.ce 0
   | 1,he=>obtain rfl:=Option.some.inj he;exact BB.o.ce 1)
  (jcr ⟨g1.below KG.o,by rw[List.length_map];exact g2⟩ ⟨k1.below KG.o,by rw[List.length_map];exact k2⟩) (by simp;have:=HLN.o;omega) (by simp))
 have HF:=qh (show(([(⟨pa,pn,pc⟩,L1.map Prod.fst),(⟨qa,qn,qc⟩,L2.map Prod.fst)]:List (PV × List TV)).flatMap Prod.snd)=(L1++L2).map Prod.fst by simp);have HLEN:=qh (show(L1++L2).length<=2000000 by rw[List.length_append];exact HLN.o);obtain⟨L,hL⟩:∃ L,L=L1++L2:=⟨_,rfl⟩;rw[<- hL] at HLL HKF HF HLEN;clear g1 g2 g3 g4 k1 k2 k3 k4 hL hb3 HM2;go_wp2_with fail
 with_reducible refine CC.o.mono ?_
 rintro e w3 ⟨v,rfl,ho,hb⟩;rw[HF.o] at ho;have HO3:=qh (OT.mono ho KG.o.size);have HM4:=qh (HM3.o.below hb);have KG:=qk KG hb;clear ho hb CC HM3 BB;obtain⟨ra,rc,rfl,-,-⟩:=OT.slice HO3.o;obtain⟨rn,hrn⟩:∃ n,n=(L.map Prod.fst).length:=⟨_,rfl⟩;rw[<- hrn] at HO3 ⊢;have HRN:=qh (show L.length=rn by rw[hrn,List.length_map]);clear hrn;go_wp2_with fail
 go_loopw [16] (fun i wr=>∃ (j:Nat) (M:List TE),j<=rn/\i=.int .i64 j/\MK wr w.heap.size w.heap.size M/\(∀ f,ev (M.map tm) f=ev ((L.take j).map tm) f)/\M.length<=j/\OT wr w.heap.size (.slice ra rn rc) (L.map Prod.fst)/\Below w.heap.size w wr) (fun i _=>rn-(intOf i).toNat)
 case atStart =>
  exact⟨0,[],Nat.zero_le _,rfl,HM4.o,fun f=>(by rw[zy]),zj,HO3.o,KG.o⟩
 case round =>
  obtain⟨j,M,hj,rfl,hM,hev,hml,ho,hb0⟩:=hrel;have HJ:=qh hj;have HM:=qh hM;have HEV:=qh hev;have HML:=qh hml;have HO:=qh ho;have KG:=qh hb0;clear hj hM hev hml ho hb0;have HLP:=qh (show L.length=P.length+Q.length by have h:=congrArg List.length HLL.o;rw[List.length_map,List.length_append] at h;exact h)
  have HLK:=qh (show ∀ e∈M,LQ e.2 900000 from fun e he=>by
   refine jay (l:=M.map tm) (L:=(L.take j).map tm) ?_ HEV.o (fun m=>?_) HK.o (tm e) (List.mem_map_of_mem he)
   ·have h:=HM.o.keys;rw[List.map_map];exact h
   ·rw[List.map_take,HLL.o];exact HCF.o j m)
  by_cases hjn:j<rn
  ·have HJN:=qh hjn
   have hjl:j<L.length:=by rw[HRN.o];exact hjn
   obtain⟨ra',rc',e1,-,hrt⟩:=OT.slice HO.o
   obtain⟨rfl,-,rfl⟩:ra=ra'/\rn=_/\rc=rc':=by simpa only[Value.slice.injEq] using e1
   obtain⟨pb,po,rfl,hpb,hcs⟩:=hrt.off (i:=j) (by rw[List.length_map];exact hjl);obtain⟨e,he⟩:∃ e,L[j]?=some e:=⟨_,List.getElem?_eq_getElem hjl⟩;obtain⟨t,q⟩:=e;obtain⟨c0,c1,c2,c3,c4,c5,c6,c7⟩:=RT.eight hcs (i:=j) (t:=t) (by rw[List.getElem?_map,he];rfl);have HE:=qh he;have hmem:=List.mem_of_getElem? he;clear hcs he hpb hjl hrt e1
   go_upto_region 5 with (fail)
   obtain⟨V,hV⟩:∃ V,V=wr.alloc (.cells #[.bool t.c.t.s,.slice t.c.t.a t.c.t.n t.c.t.c,.bool t.c.l.s,.slice t.c.l.a t.c.l.n t.c.l.c,.int .u16 t.m.x,.int .u16 t.m.y,.int .u16 t.m.z,.int .u16 t.m.t] 71):=⟨_,rfl⟩
   have hbV:Below wr.heap.size wr V:=by rw[hV];exact zk.alloc zj _
   have B7:=qh (show Bxs V wr.heap.size 71 [.bool t.c.t.s,.slice t.c.t.a t.c.t.n t.c.t.c,.bool t.c.l.s,.slice t.c.l.a t.c.l.n t.c.l.c,.int .u16 t.m.x,.int .u16 t.m.y,.int .u16 t.m.z,.int .u16 t.m.t] by rw[hV];exact Bxs.new wr 71 [.bool t.c.t.s,.slice t.c.t.a t.c.t.n t.c.t.c,.bool t.c.l.s,.slice t.c.l.a t.c.l.n t.c.l.c,.int .u16 t.m.x,.int .u16 t.m.y,.int .u16 t.m.z,.int .u16 t.m.t]);obtain⟨A7,hA7⟩:∃ A,A=wr.heap.size:=⟨_,rfl⟩;rw[<- hV,<- hA7];rw[<- hA7] at B7;have HM:=qh (HM.o.below hbV);have HO:=qh (OT.below HO.o hbV);have KG:=qk KG hbV;have NF:=qh (show KF V t.c q from(HKF.o _ hmem).below KG.o)
   have hpq:(t.m,q)∈P++Q:=by rw[<- HLL.o];exact List.mem_map_of_mem hmem
   have HQ1:=qh (show LQ q k from HALL.o _ hpq);have LQq:=qh (show LQ q 900000 from HQ1.o.up (by have:=HK.o;omega));have HS1:=qh (show t.m.Small from(List.mem_append.1 hpq).elim (HP.o.small _) (HQ.o.small _));have HSZ:=qh (show w.heap.size<=V.heap.size from KG.o.size);have ek:IntKind.i64.wrap ((j:Int)+1)=(j:Int)+1:=IntWalk.i64_in _ (by have:=HJN.o;have:=HRN.o;have:=HLEN.o;omega);clear hV hbV hA7 hmem hpq c0 c1 c2 c3 c4 c5 c6 c7 hjn;have HMV:=qh (show ∀ e∈M,∀ b,FV.blk e.1.c b->b<V.heap.size from fun e he b hb=>((HM.o.df e he).Q7 b hb).2);obtain⟨q101,hq101⟩:∃ z:Rat,z=((1:Int):Rat):=⟨_,rfl⟩;have Hq101:=qh hq101;have LQq101:=qh (show LQ q101 3 by rw[hq101];exact LQ.int (by decide) (by decide));clear hq101;obtain⟨q102,hq102⟩:∃ z:Rat,z=q*q101:=⟨_,rfl⟩;have Hq102:=qh hq102;have LQq102:=qh (show LQ q102 1800000 by rw[hq102];exact LQ.mul (LQq.o.up (by decide:_<=900000)) (LQq101.o.up (by decide:_<=900000)) (by decide));clear hq102
   go_upto_region 5 with (fail)
   refine FS.Jb 7 [] (FS.JH [(3,FS.Sp.made (fun x:FV=>x.v) (fun x w'=>DF w' V.heap.size x q101) FV.blk),(4,FS.Sp.made (fun x:FV=>x.v) (fun x w'=>DF w' V.heap.size x q102) FV.blk)])
    (fun w'=>Below V.heap.size V w') (by kernel_rfl) (by kernel_rfl) (by kernel_rfl)
    (FS.Jd (FS.Sp.Jg _ (fun _ _ _ h _ hk=>h.kept hk) (FS.JM (by kernel_rfl))) (FS.Jd (FS.Sp.Jg _ (fun _ _ _ h _ hk=>h.kept hk) (FS.JM (by kernel_rfl))) (FS.Jk))) (fun _ _ h hb=>h.trans (hb.mono h.size)) (zk.drew) ?_
   simp only[zu,zi,ze,zx,zy,zv,zw]
   iterate 3
    refine FS.Jc rfl rfl rfl ?_ (fun w' hw'=>?_) ?_;rotate_left
    ·have hb':=hw'.world;have hs0:=(B7.o.bl hb').ce 0;have hs1:=(B7.o.bl hb').ce 1;have hs2:=(B7.o.bl hb').ce 2;have hs3:=(B7.o.bl hb').ce 3;have hs4:=(B7.o.bl hb').ce 4;have hs5:=(B7.o.bl hb').ce 5;have hs6:=(B7.o.bl hb').ce 6;have hs7:=(B7.o.bl hb').ce 7;have hsf:=(B7.o.bl hb').fz;have hsl:=(B7.o.bl hb').lt;clear hw';go_simp
     try rfl
    conv=>arg 10;simp only[Act.put,zq0,zq1,zq2]
   refine FS.Je rfl rfl rfl (fun w' hw'=>?_) ?_
   ·have hb':=hw'.world;refine FS.Jn (FS.PM (fun x:FV=>x.v) (fun x w'=>DF w' V.heap.size x q101) FV.blk w'.heap.size) ?_ (fun _ _ h=>h.post (fun _ _=>FV.inj));go_simp;have CT:=qof 1 w' (by decide) (by decide);rw[show((1:Int):Rat)=q101 from Hq101.o.symm] at CT;refine CT.mono ?_;rintro e w'' ⟨za,rfl,ho,hb⟩;exact⟨_,rfl,⟨za,rfl,ho.mono hb'.size,ho.Q7⟩,hb⟩
   rintro _ ⟨y3,rfl⟩
   conv=>arg 10;simp only[Act.put,zq0,zq1,zq2]
   refine FS.Je rfl rfl rfl (fun w' hw'=>?_) ?_
   ·have hb':=hw'.world;refine FS.Jn (FS.PM (fun x:FV=>x.v) (fun x w'=>DF w' V.heap.size x q102) FV.blk w'.heap.size) ?_ (fun _ _ h=>h.post (fun _ _=>FV.inj));go_simp;have f3:=FS.JX (val:=(fun x:FV=>x.v)) (Φ:=fun x w'=>DF w' V.heap.size x q101) (fun _ _=>FV.inj) (hw'.fact 3 (by kernel_rfl));have CT:=qmul ((NF.o.below hb')).any (((NF.o.below hb')).len LQq.o (by decide:_<=900000)) (f3).k.any (((f3).k).len LQq101.o (by decide:_<=900000));rw[show q*q101=q102 from Hq102.o.symm] at CT;refine CT.mono ?_;rintro e w'' ⟨za,rfl,ho,hb⟩;exact⟨_,rfl,⟨za,rfl,ho.mono hb'.size,ho.Q7⟩,hb⟩
   rintro _ ⟨y4,rfl⟩
   conv=>arg 10;simp only[Act.put,zq0,zq1,zq2]
   iterate 2
    refine FS.Jc rfl rfl rfl ?_ (fun w' hw'=>?_) ?_;rotate_left
    ·have hb':=hw'.world;have hs0:=(B7.o.bl hb').ce 0;have hs1:=(B7.o.bl hb').ce 1;have hs2:=(B7.o.bl hb').ce 2;have hs3:=(B7.o.bl hb').ce 3;have hs4:=(B7.o.bl hb').ce 4;have hs5:=(B7.o.bl hb').ce 5;have hs6:=(B7.o.bl hb').ce 6;have hs7:=(B7.o.bl hb').ce 7;have hsf:=(B7.o.bl hb').fz;have hsl:=(B7.o.bl hb').lt;clear hw';go_simp
     try rfl
    conv=>arg 10;simp only[Act.put,zq0,zq1,zq2]
   refine FS.Jm (fun w103 hb hF=>?_);have N104:=qh (show DF w103 V.heap.size y4 q102 from(FS.JX (val:=(fun x:FV=>x.v)) (Φ:=fun x w'=>DF w' V.heap.size x q102) (fun _ _=>FV.inj) (hF.all 4)));clear hF;have NF:=qh (NF.o.below hb);have HM:=qh (HM.o.below hb);have HO:=qh (HO.o.below hb);have B7:=qh (B7.o.bl hb);have KG:=qk KG hb;clear hb;have HAP:=qh (show ∀ e∈M,FV.apart e.1.c y4 from fun e he b hb1 hb2=>Nat.not_lt_of_le (N104.o.Q7 b hb2).1 (HMV.o e he b hb1));have AD:=qh (Yp w.heap.size w.heap.size M y4 q t.m w103 HM.o (show DF w103 w.heap.size y4 q by have h:=N104.o.mono HSZ.o;rwa [show q102=q by rw[Hq102.o,Hq101.o];grind] at h) HAP.o HS1.o LQq.o HLK.o KG.o.size);go_wp2_with fail
   with_reducible refine AD.o.mono ?_
   rintro e w9 ⟨rfl,⟨M',hM',hv'⟩,hOn⟩;have HM':=qh hM';have HV':=qh hv';have HO:=qh (show OT w9 w.heap.size _ (L.map Prod.fst) from OT.only HO.o hOn (fun cur h=>by rw[HM.o.blk] at h;cases h));have KG:=qh (Only.bel KG.o hOn zj KG.o.size);clear hM' hv' hOn AD;go_wp2_with fail
   go_roundw
   case rel =>
    refine⟨j+1,M',by have:=HJN.o;omega,rfl,HM'.o,fun f=>?_,?_,HO.o,KG.o⟩
    ·rw[HV'.o,K9,HEV.o,List.take_add_one,HE.o,List.map_append,QU];show _=_+(q*f t.m+0);grind
    ·have h1:=congrArg List.length HV'.o;have h2:=Kz t.m q (M.map tm);rw[List.length_map] at h1 h2;have:=HML.o;omega
   case measure=>simp[intOf];have:=HJN.o;omega
  ·have HJE:=qh (show j=rn by have:=HJ.o;omega)
   have hge:¬((j:Int)<(rn:Int)):=by omega
   have SM:=qh (Yq w.heap.size w.heap.size M wr HM.o HLK.o KG.o.size (by have h1:=HML.o;have h2:=HJ.o;have h3:=HRN.o;have h4:=HLP.o;have h5:=HN.o;omega));clear hjn;go_wp2_with fail
   with_reducible refine SM.o.mono ?_
   rintro e w9 ⟨z,rfl,hz,hb⟩;have HZ:=qh hz;have KG:=qk KG hb;clear hz hb SM;go_wp2_with fail
   go_ret;refine⟨z,rfl,?_,KG.o⟩
   have e1:nf (M.map tm)=Qf P Q:=VV fun f=>by
    rw[HEV.o,List.take_of_length_le (by rw[HRN.o,HJE.o];exact zj),HLL.o]
   rw[<- e1];exact HZ.o
theorem jba:LQ ((-1:Int):Rat) 3:=LQ.int (by decide) (by decide)
theorem psub_any (x y:PV) (P Q:List Tm) (k n:Nat) (w:World) (hx:AP w x P) (hy:AP w y Q) (hxn:x.n<=1000000) (hyn:y.n<=1000000) (hp:∀ t∈P,LQ t.2 k) (hq:PB Q n k 65535)
  (hk:2*k+8<=900000) (hkk:n*(k+4)<=900000) (hn:P.length+n<=1000000) :
  Calls Tryz.prog 50 #[x.v,y.v] w fun e w'=>∃ z:PV,e=.returned z.v/\DP w' w.heap.size z (VX P Q)/\Below w.heap.size w w':=by
 have HX:=qh hx;have HY:=qh hy;have HXN:=qh hxn;have HYN:=qh hyn;have HP:=qh hp;have HQ:=qh hq;have HK:=qh hk;have HKK:=qh hkk;have HN:=qh hn;have OF:=qh (qof (-1) w (by decide) (by decide));obtain⟨xa,xn,xc⟩:=x;obtain⟨ya,yn,yc⟩:=y;change Calls Tryz.prog 50 #[.slice xa xn xc,.slice ya yn yc] w _;clear hx hy hxn hyn hp hq hk hkk hn;go_enter Tryz.func50,Tryz.ntmps50;go_wp2_with fail
 with_reducible refine OF.o.mono ?_
 rintro e w1 ⟨c,rfl,hc,hb⟩;have HC:=qh hc;have KG:=qh hb;clear hc hb OF;have SC:=qh (jg3 ⟨ya,yn,yc⟩ Q c ((-1:Int):Rat) k n 3 w1 (HY.o.below KG.o) HQ.o HYN.o HC.o.k.any ((HC.o.k).len jba (by decide)) jba (by have:=HK.o;omega) HKK.o);go_wp2_with fail
 with_reducible refine SC.o.mono ?_
 rintro e w2 ⟨⟨za,zn,zc⟩,he,hz,hb⟩;obtain rfl:e=.returned (.slice za zn zc):=he;have HZ:=qh (show DP w2 w1.heap.size ⟨za,zn,zc⟩ (Qn (-1) Q) from by rw[show((-1:Rat))=((-1:Int):Rat) by decide +kernel];exact hz);have KG:=qk KG hb;clear hz hb SC;have hPS:=PB.scale HY.o.canon HQ.o (c:=(-1:Rat)) (k2:=3) (by rw[show((-1:Rat))=((-1:Int):Rat) by decide +kernel];exact jba);have hzl:=HZ.o.k.len;have h1:=hPS.len;have AD:=qh (Va ⟨xa,xn,xc⟩ ⟨za,zn,zc⟩ P (Qn (-1) Q) (k+3) w2 (HX.o.below KG.o) HZ.o.k.any HXN.o (by have:=HN.o;omega) (fun t ht=>(HP.o t ht).up (by omega)) hPS.lq (by have:=HK.o;omega) (by have:=HN.o;omega));clear hPS hzl h1;go_wp2_with fail
 with_reducible refine AD.o.mono ?_
 rintro e w3 ⟨z,rfl,hz,hb⟩;have HR:=qh (hz.mono KG.o.size);have KG:=qk KG hb;clear hz hb AD;go_wp2_with fail
 go_ret;exact⟨z,rfl,HR.o,KG.o⟩
theorem mono_mul (a b:Mo) (w:World) (h:(a.mul b).Small):Calls Tryz.prog 155 #[Mo.v a,Mo.v b] w fun e w'=>e=.returned (.tuple #[Mo.v (a.mul b),.int .i64 0])/\Below w.heap.size w w':=by
 obtain⟨h1,h2,h3,h4⟩:=h;change a.x+b.x<=65535 at h1;change a.y+b.y<=65535 at h2;change a.z+b.z<=65535 at h3;change a.t+b.t<=65535 at h4
 have hs:∀ m:Mo,m.Small->Mono.Small (fun i=>((m.at i:Nat):Int)):=fun m hm i hi=>by
  obtain⟨g1,g2,g3,g4⟩:=hm
  match i,hi with
  | 0,_=>exact⟨Int.natCast_nonneg _,by show(m.x:Int)<=_;omega⟩
  | 1,_=>exact⟨Int.natCast_nonneg _,by show(m.y:Int)<=_;omega⟩
  | 2,_=>exact⟨Int.natCast_nonneg _,by show(m.z:Int)<=_;omega⟩
  | 3,_=>exact⟨Int.natCast_nonneg _,by show(m.t:Int)<=_;omega⟩
 have hB:Mono.Yu (fun i=>((a.at i:Nat):Int)) (fun i=>((b.at i:Nat):Int))=true:=decide_eq_true (by
  show(a.x:Int)+b.x<=65535/\(a.y:Int)+b.y<=65535/\(a.z:Int)+b.z<=65535/\(a.t:Int)+b.t<=65535
  omega)
 refine(Mono.Zn (fun i=>((a.at i:Nat):Int)) (fun i=>((b.at i:Nat):Int)) w (hs a ⟨by omega,by omega,by omega,by omega⟩) (hs b ⟨by omega,by omega,by omega,by omega⟩)).mono ?_;rintro e w' ⟨rfl,hb⟩;refine⟨?_,hb⟩;unfold Mono.YZ Mono.mulM;simp only[hB,if_true];rfl
theorem jg5 (a b:Mo) (w:World) (ha:a.Small) (hb:b.Small) (h:¬(a.mul b).Small):Calls Tryz.prog 155 #[Mo.v a,Mo.v b] w fun e w'=>e=.returned (.tuple #[.agg #[.int .u16 0,.int .u16 0,.int .u16 0,.int .u16 0],.int .i64 3])/\Below w.heap.size w w':=by
 have hs:∀ m:Mo,m.Small->Mono.Small (fun i=>((m.at i:Nat):Int)):=fun m hm i hi=>by
  obtain⟨g1,g2,g3,g4⟩:=hm
  match i,hi with
  | 0,_=>exact⟨Int.natCast_nonneg _,by show(m.x:Int)<=_;omega⟩
  | 1,_=>exact⟨Int.natCast_nonneg _,by show(m.y:Int)<=_;omega⟩
  | 2,_=>exact⟨Int.natCast_nonneg _,by show(m.z:Int)<=_;omega⟩
  | 3,_=>exact⟨Int.natCast_nonneg _,by show(m.t:Int)<=_;omega⟩
 have hB:Mono.Yu (fun i=>((a.at i:Nat):Int)) (fun i=>((b.at i:Nat):Int))=false:=zo (by
  show ¬((a.x:Int)+b.x<=65535/\(a.y:Int)+b.y<=65535/\(a.z:Int)+b.z<=65535/\(a.t:Int)+b.t<=65535);intro h2;refine h ⟨?_,?_,?_,?_⟩
  ·show a.x+b.x<=65535;omega
  ·show a.y+b.y<=65535;omega
  ·show a.z+b.z<=65535;omega
  ·show a.t+b.t<=65535;omega)
 refine(Mono.Zn (fun i=>((a.at i:Nat):Int)) (fun i=>((b.at i:Nat):Int)) w (hs a ha) (hs b hb)).mono ?_;rintro e w' ⟨rfl,hb⟩;refine⟨?_,hb⟩;unfold Mono.YZ Mono.mulM;simp only[hB];rfl
def Ovf (P Q:List Tm):Prop:=∃ s∈P,∃ t∈Q,¬(s.1.mul t.1).Small
def MulR (w:World) (P Q:List Tm) (e:Ending) (w':World):Prop :=
 (∃ z:PV,e=.returned (.tuple #[z.v,.int .i64 0])/\¬Ovf P Q/\DP w' w.heap.size z (Xt P Q)/\Below w.heap.size w w')\/(e=.returned (.tuple #[.slice none 0 0,.int .i64 3])/\Ovf P Q/\Below w.heap.size w w')
theorem Bxs.only {w w':World} {b g:Nat} {t:TypeId} {l:List Value} {es:Array MapEntry} {k:Nat} (h:Bxs w g t l) (ho:Only b w w') (hm:w.heap[b]?=some (.map es k)):Bxs w' g t l :=
 h.of (ho.2.2.2.2 g h.lt fun e=>by subst e;have h2:w.heap[g]?=some (.cells l.toArray t (0,0)):=h;rw[hm] at h2;cases h2)
theorem mul_g (x y:PV) (P Q:List Tm) (k1 k2:Nat) (w:World) (hx:KP w x P) (hy:KP w y Q) (hp:∀ t∈P,LQ t.2 k1) (hq:∀ t∈Q,LQ t.2 k2) (hk:k1+k2<=900000)
  (hc:∀ (i:Nat) (s:Tm) (j:Nat) (m:Mo),P[i]?=some s->cf (mulL (P.take i) Q++ZE s (Q.take j)) m=0\/LQ (cf (mulL (P.take i) Q++ZE s (Q.take j)) m) 900000)
  (hd:∀ (i:Nat) (m:Mo),cf (mulL (P.take i) Q) m=0\/LQ (cf (mulL (P.take i) Q) m) 900000)
  (hn:P.length*Q.length<=1000000) (hpn:P.length<=1000000) (hqn:Q.length<=1000000) :
  Calls Tryz.prog 51 #[x.v,y.v] w (MulR w P Q):=by
 have HX:=qh hx;have HY:=qh hy;have HP:=qh hp;have HQ:=qh hq;have HK:=qh hk;have HC:=qh hc;have HD:=qh hd;have HN:=qh hn;have HPN:=qh hpn;have HQN:=qh hqn;have hxl:=hx.len;have hyl:=hy.len
 have hmm:=fun (t:TypeId) (w:World)=>run_makeMap (P:=Tryz.prog) t w
 have C1:=qh (Ya hx (fun t ht=>(hp t ht).up (by omega)) (by omega));obtain⟨xa,xn,xc⟩:=x;obtain⟨ya,yn,yc⟩:=y;change Calls Tryz.prog 51 #[.slice xa xn xc,.slice ya yn yc] w _;change xn=P.length at hxl;change yn=Q.length at hyl;have HXL:=qh hxl;have HYL:=qh hyl;obtain⟨L1,g1,g2,g3,g4⟩:=hx.ex;obtain⟨L2,k3,k4,k5,k6⟩:=hy.ex;have R1:=qh g1;have R2:=qh k3;have F1:=qh g3;have F2:=qh k5;have T1:=qh g4;have T2:=qh k6;have N1:=qh (show L1.length=xn from g2);have N2:=qh (show L2.length=yn from k4);clear hx hy hp hq hk hc hd hn hpn hqn hxl hyl g1 g2 g3 g4 k3 k4 k5 k6;go_enter Tryz.func51,Tryz.ntmps51;go_wp2_with fail
 with_reducible refine C1.o.mono ?_
 rintro e w1 ⟨rfl,hb⟩;have KG:=qh hb;clear hb C1;have C2:=qh (Ya (HY.o.below KG.o) (fun t ht=>(HQ.o t ht).up (by have:=HK.o;omega)) (by have h:=HYL.o;have:=HQN.o;show yn<=_;omega));go_wp2_with fail
 with_reducible refine C2.o.mono ?_
 rintro e w2 ⟨rfl,hb⟩;have KG:=qk KG hb;clear hb C2
 go_upto_region 4 with (fail)
 obtain⟨V0,hV⟩:∃ V,V=w2.alloc (.map #[] 0):=⟨_,rfl⟩
 have hbV:Below w2.heap.size w2 V0:=by rw[hV];exact zk.alloc zj _
 obtain⟨b,hb⟩:∃ b,b=w2.heap.size:=⟨_,rfl⟩;have HM0:=qh (show MK V0 w.heap.size b [] by rw[hV,hb];exact⟨heap_alloc_new w2 _,KG.o.size,fun e he=>(by cases he),List.Pairwise.nil,List.nodup_nil,fun e he=>(by cases he)⟩);rw[<- hV,<- hb];have HB:=qh (show w.heap.size<=b by rw[hb];exact KG.o.size);have KG:=qk KG hbV;clear hV hbV hmm hb;go_wp2_with fail
 go_loopw [24] (fun i wr=>∃ (j:Nat) (M:List TE),j<=xn/\i=.int .i64 j/\MK wr w.heap.size b M/\(∀ f,ev (M.map tm) f=ev (mulL (P.take j) Q) f)/\M.length<=j*Q.length/\(∀ s∈P.take j,∀ u∈Q,(s.1.mul u.1).Small)/\Below w.heap.size w wr) (fun i _=>xn-(intOf i).toNat)
 case atStart =>
  exact⟨0,[],Nat.zero_le _,rfl,HM0.o,fun f=>(by rw[zy];rfl),by simp,(fun s hs=>by rw[zy] at hs;cases hs),KG.o⟩
 case round =>
  obtain⟨j,M,hj,rfl,hM,hev,hml,hso,hb0⟩:=hrel;have HSO:=qh hso;have HJ:=qh hj;have HM:=qh hM;have HEV:=qh hev;have HML:=qh hml;have KG:=qh hb0;clear hj hM hev hml hso hb0;by_cases hjn:j<xn
  ·have HJN:=qh hjn
   have hjl:j<L1.length:=by rw[N1.o];exact hjn
   obtain⟨pb,po,rfl,hpb,hcs⟩:=(R1.o.below KG.o).off (i:=j) (by rw[List.length_map];exact hjl);obtain⟨e,he⟩:∃ e,L1[j]?=some e:=⟨_,List.getElem?_eq_getElem hjl⟩;obtain⟨t,q⟩:=e;obtain⟨c0,c1,c2,c3,c4,c5,c6,c7⟩:=RT.eight hcs (i:=j) (t:=t) (by rw[List.getElem?_map,he];rfl);have hmem:=List.mem_of_getElem? he;have HPJ:=qh (show P[j]?=some (t.m,q) by rw[<- T1.o,List.getElem?_map,he];rfl);have NT:=qh (show KF w t.c q from F1.o _ hmem);clear hcs he hpb hjl hmem
   go_upto_region 7 with (fail)
   obtain⟨V,hV⟩:∃ V,V=wr.alloc (.cells #[.bool t.c.t.s,.slice t.c.t.a t.c.t.n t.c.t.c,.bool t.c.l.s,.slice t.c.l.a t.c.l.n t.c.l.c,.int .u16 t.m.x,.int .u16 t.m.y,.int .u16 t.m.z,.int .u16 t.m.t] 71):=⟨_,rfl⟩
   have hbV:Below wr.heap.size wr V:=by rw[hV];exact zk.alloc zj _
   have B8:=qh (show Bxs V wr.heap.size 71 [.bool t.c.t.s,.slice t.c.t.a t.c.t.n t.c.t.c,.bool t.c.l.s,.slice t.c.l.a t.c.l.n t.c.l.c,.int .u16 t.m.x,.int .u16 t.m.y,.int .u16 t.m.z,.int .u16 t.m.t] by rw[hV];exact Bxs.new wr 71 [.bool t.c.t.s,.slice t.c.t.a t.c.t.n t.c.t.c,.bool t.c.l.s,.slice t.c.l.a t.c.l.n t.c.l.c,.int .u16 t.m.x,.int .u16 t.m.y,.int .u16 t.m.z,.int .u16 t.m.t]);obtain⟨A8,hA8⟩:∃ A,A=wr.heap.size:=⟨_,rfl⟩;rw[<- hV,<- hA8];rw[<- hA8] at B8;have HM:=qh (HM.o.below hbV);have KG:=qk KG hbV;have ek:IntKind.i64.wrap ((j:Int)+1)=(j:Int)+1:=IntWalk.i64_in _ (by have:=HJN.o;have:=HXL.o;have:=HPN.o;omega);clear hV hbV hA8 c0 c1 c2 c3 c4 c5 c6 c7 hjn;go_wp2_with fail
   go_loopw [30] (fun i wi=>∃ (l:Nat) (M':List TE),l<=yn/\i=.int .i64 l/\MK wi w.heap.size b M'/\Bxs wi A8 71 [.bool t.c.t.s,.slice t.c.t.a t.c.t.n t.c.t.c,.bool t.c.l.s,.slice t.c.l.a t.c.l.n t.c.l.c,.int .u16 t.m.x,.int .u16 t.m.y,.int .u16 t.m.z,.int .u16 t.m.t]/\(∀ f,ev (M'.map tm) f=ev (mulL (P.take j) Q++ZE (t.m,q) (Q.take l)) f)/\M'.length<=j*Q.length+l/\(∀ v∈Q.take l,(t.m.mul v.1).Small)/\Below w.heap.size w wi) (fun i _=>yn-(intOf i).toNat)
   case atStart =>
    exact⟨0,M,Nat.zero_le _,rfl,HM.o,B8.o,fun f=>(by rw[HEV.o,zy];show _=ev (_++[]) f;rw[List.append_nil]),HML.o,(fun v hv=>by rw[zy] at hv;cases hv),KG.o⟩
   case round =>
    obtain⟨l,M',hl,rfl,hM,hB8,hev,hml,hsi,hb0⟩:=hrel;have HSI:=qh hsi;have HL:=qh hl;have HM:=qh hM;have B8:=qh hB8;have HEV:=qh hev;have HML:=qh hml;have KG:=qh hb0;clear hl hM hB8 hev hml hsi hb0;by_cases hln:l<yn
    ·have HLN:=qh hln
     have hll:l<L2.length:=by rw[N2.o];exact hln
     obtain⟨qb,qo,rfl,hqb,hcs⟩:=(R2.o.below KG.o).off (i:=l) (by rw[List.length_map];exact hll);obtain⟨e,he⟩:∃ e,L2[l]?=some e:=⟨_,List.getElem?_eq_getElem hll⟩;obtain⟨u,r⟩:=e;obtain⟨c0,c1,c2,c3,c4,c5,c6,c7⟩:=RT.eight hcs (i:=l) (t:=u) (by rw[List.getElem?_map,he];rfl);have hmem:=List.mem_of_getElem? he;have HQL:=qh (show Q[l]?=some (u.m,r) by rw[<- T2.o,List.getElem?_map,he];rfl);have NU:=qh (show KF w u.c r from F2.o _ hmem);clear hcs he hqb hll hmem
     go_upto_region 10 with (fail)
     obtain⟨V,hV⟩:∃ V,V=wr.alloc (.cells #[.bool u.c.t.s,.slice u.c.t.a u.c.t.n u.c.t.c,.bool u.c.l.s,.slice u.c.l.a u.c.l.n u.c.l.c,.int .u16 u.m.x,.int .u16 u.m.y,.int .u16 u.m.z,.int .u16 u.m.t] 71):=⟨_,rfl⟩
     have hbV:Below wr.heap.size wr V:=by rw[hV];exact zk.alloc zj _
     have B10:=qh (show Bxs V wr.heap.size 71 [.bool u.c.t.s,.slice u.c.t.a u.c.t.n u.c.t.c,.bool u.c.l.s,.slice u.c.l.a u.c.l.n u.c.l.c,.int .u16 u.m.x,.int .u16 u.m.y,.int .u16 u.m.z,.int .u16 u.m.t] by rw[hV];exact Bxs.new wr 71 [.bool u.c.t.s,.slice u.c.t.a u.c.t.n u.c.t.c,.bool u.c.l.s,.slice u.c.l.a u.c.l.n u.c.l.c,.int .u16 u.m.x,.int .u16 u.m.y,.int .u16 u.m.z,.int .u16 u.m.t]);obtain⟨A10,hA10⟩:∃ A,A=wr.heap.size:=⟨_,rfl⟩;rw[<- hV,<- hA10];rw[<- hA10] at B10;have HM:=qh (HM.o.below hbV);have B8:=qh (B8.o.bl hbV);have KG:=qk KG hbV;have hpm:=List.mem_of_getElem? HPJ.o;have hqm:=List.mem_of_getElem? HQL.o;have LQq:=qh (show LQ q 900000 from(HP.o _ hpm).up (by have:=HK.o;omega));have LQr:=qh (show LQ r 900000 from(HQ.o _ hqm).up (by have:=HK.o;omega));have HQR:=qh (show LQ (q*r) 900000 from((HP.o _ hpm).ls.mul (HQ.o _ hqm).ls).lq HK.o HK.o);have HTS:=qh (show t.m.Small from HX.o.small _ hpm);have HUS:=qh (show u.m.Small from HY.o.small _ hqm);clear hV hbV hA10 hpm hqm c0 c1 c2 c3 c4 c5 c6 c7 hln;by_cases hsm:(t.m.mul u.m).Small
     ·have HSM:=qh hsm;clear hsm;obtain⟨m,hm⟩:∃ m,m=t.m.mul u.m:=⟨_,rfl⟩;have MU:=qh (mono_mul t.m u.m V HSM.o);rw[<- hm] at MU HSM;have HMU:=qh hm;clear hm;have c80:=B8.o.ce 0;have c81:=B8.o.ce 1;have c82:=B8.o.ce 2;have c83:=B8.o.ce 3;have c84:=B8.o.ce 4;have c85:=B8.o.ce 5;have c86:=B8.o.ce 6;have c87:=B8.o.ce 7;have c100:=B10.o.ce 0;have c101:=B10.o.ce 1;have c102:=B10.o.ce 2;have c103:=B10.o.ce 3;have c104:=B10.o.ce 4;have c105:=B10.o.ce 5;have c106:=B10.o.ce 6;have c107:=B10.o.ce 7;go_wp2_with fail
      with_reducible refine MU.o.mono ?_
      rintro e w5 ⟨rfl,hb⟩;have HM:=qh (HM.o.below hb);have B8:=qh (B8.o.bl hb);have B10:=qh (B10.o.bl hb);have KG:=qk KG hb;clear hb MU c80 c81 c82 c83 c84 c85 c86 c87 c100 c101 c102 c103 c104 c105 c106 c107
      go_upto_region 13 with (fail)
      obtain⟨V,hV⟩:∃ V,V=w5.alloc (.cells #[.int .u16 m.x,.int .u16 m.y,.int .u16 m.z,.int .u16 m.t] 69):=⟨_,rfl⟩
      have hbV:Below w5.heap.size w5 V:=by rw[hV];exact zk.alloc zj _
      have B11:=qh (show Bxs V w5.heap.size 69 [.int .u16 m.x,.int .u16 m.y,.int .u16 m.z,.int .u16 m.t] by rw[hV];exact Bxs.new w5 69 [.int .u16 m.x,.int .u16 m.y,.int .u16 m.z,.int .u16 m.t]);obtain⟨A11,hA11⟩:∃ A,A=w5.heap.size:=⟨_,rfl⟩;rw[<- hV,<- hA11];rw[<- hA11] at B11;have HM:=qh (HM.o.below hbV);have B8:=qh (B8.o.bl hbV);have B10:=qh (B10.o.bl hbV);have KG:=qk KG hbV;have NT:=qh (NT.o.below KG.o);have NU:=qh (NU.o.below KG.o);have HSZ:=qh (show w.heap.size<=V.heap.size from KG.o.size)
      have HLK:=qh (show ∀ e∈M',LQ e.2 900000 from fun e he=>by
       refine jay (l:=M'.map tm) (L:=mulL (P.take j) Q++ZE (t.m,q) (Q.take l)) ?_ HEV.o (fun m=>HC.o j _ l m HPJ.o) zj (tm e) (List.mem_map_of_mem he);have h:=HM.o.keys;rw[List.map_map]
       exact h)
      have HMV:=qh (show ∀ e∈M',∀ b,FV.blk e.1.c b->b<V.heap.size from fun e he b hb=>((HM.o.df e he).Q7 b hb).2);have el:IntKind.i64.wrap ((l:Int)+1)=(l:Int)+1:=IntWalk.i64_in _ (by have:=HLN.o;have:=HYL.o;have:=HQN.o;omega);clear hV hbV hA11;obtain⟨q101,hq101⟩:∃ z:Rat,z=q*r:=⟨_,rfl⟩;have Hq101:=qh hq101;have LQq101:=qh (show LQ q101 1800000 by rw[hq101];exact LQ.mul (LQq.o.up (by decide:_<=900000)) (LQr.o.up (by decide:_<=900000)) (by decide));clear hq101
      go_upto_region 13 with (fail)
      refine FS.Jb 7 [] (FS.JH [(5,FS.Sp.made (fun x:FV=>x.v) (fun x w'=>DF w' V.heap.size x q101) FV.blk)])
       (fun w'=>Below V.heap.size V w') (by kernel_rfl) (by kernel_rfl) (by kernel_rfl)
       (FS.Jd (FS.Sp.Jg _ (fun _ _ _ h _ hk=>h.kept hk) (FS.JM (by kernel_rfl))) (FS.Jk)) (fun _ _ h hb=>h.trans (hb.mono h.size)) (zk.drew) ?_
      simp only[zu,zi,ze,zx,zy,zv,zw]
      iterate 5
       refine FS.Jc rfl rfl rfl ?_ (fun w' hw'=>?_) ?_;rotate_left
       ·have hb':=hw'.world;have hs0:=(B8.o.bl hb').ce 0;have hs1:=(B8.o.bl hb').ce 1;have hs2:=(B8.o.bl hb').ce 2;have hs3:=(B8.o.bl hb').ce 3;have hs4:=(B8.o.bl hb').ce 4;have hs5:=(B8.o.bl hb').ce 5;have hs6:=(B8.o.bl hb').ce 6;have hs7:=(B8.o.bl hb').ce 7;have hsf:=(B8.o.bl hb').fz;have hsl:=(B8.o.bl hb').lt;have hs0:=(B10.o.bl hb').ce 0;have hs1:=(B10.o.bl hb').ce 1;have hs2:=(B10.o.bl hb').ce 2;have hs3:=(B10.o.bl hb').ce 3;have hs4:=(B10.o.bl hb').ce 4;have hs5:=(B10.o.bl hb').ce 5;have hs6:=(B10.o.bl hb').ce 6;have hs7:=(B10.o.bl hb').ce 7;have hsf:=(B10.o.bl hb').fz;have hsl:=(B10.o.bl hb').lt;clear hw';go_simp
        try rfl
       conv=>arg 10;simp only[Act.put,zq0,zq1,zq2]
      refine FS.Je rfl rfl rfl (fun w' hw'=>?_) ?_
      ·have hb':=hw'.world;refine FS.Jn (FS.PM (fun x:FV=>x.v) (fun x w'=>DF w' V.heap.size x q101) FV.blk w'.heap.size) ?_ (fun _ _ h=>h.post (fun _ _=>FV.inj));go_simp;have CT:=qmul ((NT.o.below hb')).any (((NT.o.below hb')).len LQq.o (by decide:_<=900000)) ((NU.o.below hb')).any (((NU.o.below hb')).len LQr.o (by decide:_<=900000));rw[show q*r=q101 from Hq101.o.symm] at CT;refine CT.mono ?_;rintro e w'' ⟨za,rfl,ho,hb⟩;exact⟨_,rfl,⟨za,rfl,ho.mono hb'.size,ho.Q7⟩,hb⟩
      rintro _ ⟨y5,rfl⟩
      conv=>arg 10;simp only[Act.put,zq0,zq1,zq2]
      refine FS.Jc rfl rfl rfl ?_ (fun w' hw'=>?_) ?_;rotate_left
      ·have hb':=hw'.world;have hs0:=(B11.o.bl hb').ce 0;have hs1:=(B11.o.bl hb').ce 1;have hs2:=(B11.o.bl hb').ce 2;have hs3:=(B11.o.bl hb').ce 3;have hsf:=(B11.o.bl hb').fz;have hsl:=(B11.o.bl hb').lt;clear hw';go_simp
       try rfl
      conv=>arg 10;simp only[Act.put,zq0,zq1,zq2]
      refine FS.Jm (fun w102 hb hF=>?_);have N103:=qh (show DF w102 V.heap.size y5 q101 from(FS.JX (val:=(fun x:FV=>x.v)) (Φ:=fun x w'=>DF w' V.heap.size x q101) (fun _ _=>FV.inj) (hF.all 5)));clear hF;have NT:=qh (NT.o.below hb);have NU:=qh (NU.o.below hb);have HM:=qh (HM.o.below hb);have B8:=qh (B8.o.bl hb);have B10:=qh (B10.o.bl hb);have B11:=qh (B11.o.bl hb);have KG:=qk KG hb;clear hb;have HAP:=qh (show ∀ e∈M',FV.apart e.1.c y5 from fun e he b hb1 hb2=>Nat.not_lt_of_le (N103.o.Q7 b hb2).1 (HMV.o e he b hb1));have AD:=qh (Yp b w.heap.size M' y5 (q*r) m w102 HM.o (show DF w102 w.heap.size y5 (q*r) by have h:=N103.o.mono HSZ.o;rwa [show q101=q*r from Hq101.o] at h) HAP.o HSM.o HQR.o HLK.o KG.o.size);have c110:=B11.o.ce 0;have c111:=B11.o.ce 1;have c112:=B11.o.ce 2;have c113:=B11.o.ce 3;go_wp2_with fail
      with_reducible refine AD.o.mono ?_
      rintro e w9 ⟨rfl,⟨M2,hM2,hv'⟩,hOn⟩;have HM2:=qh hM2;have HV':=qh hv';have B8:=qh (Bxs.only B8.o hOn HM.o.blk);have KG:=qh (Only.bel KG.o hOn HB.o KG.o.size);clear hM2 hv' hOn AD c110 c111 c112 c113;go_wp2_with fail
      go_roundw
      case rel =>
       refine⟨l+1,M2,by have:=HLN.o;omega,rfl,HM2.o,B8.o,fun f=>?_,?_,fun v hv=>?_,KG.o⟩
       ·rw[HV'.o,K9,HEV.o,List.take_add_one,HQL.o];unfold ZE;rw[List.map_append,<- List.append_assoc,QU (_++_)];show _=_+(q*r*f (t.m.mul u.m)+0);rw[HMU.o];grind
       ·have h1:=congrArg List.length HV'.o;have h2:=Kz m (q*r) (M'.map tm);rw[List.length_map] at h1 h2;have:=HML.o;omega
       ·rw[List.take_add_one,HQL.o] at hv
        rcases List.mem_append.1 hv with hv | hv
        ·exact HSI.o v hv
        ·rw[List.mem_singleton.1 hv];show(t.m.mul u.m).Small;rw[<- HMU.o];exact HSM.o
      case measure=>simp[intOf];have:=HLN.o;omega
     ·have MU:=qh (jg5 t.m u.m V HTS.o HUS.o hsm);have HOV:=qh (show Ovf P Q from⟨_,List.mem_of_getElem? HPJ.o,_,List.mem_of_getElem? HQL.o,hsm⟩);clear hsm;have c80:=B8.o.ce 0;have c81:=B8.o.ce 1;have c82:=B8.o.ce 2;have c83:=B8.o.ce 3;have c84:=B8.o.ce 4;have c85:=B8.o.ce 5;have c86:=B8.o.ce 6;have c87:=B8.o.ce 7;have c100:=B10.o.ce 0;have c101:=B10.o.ce 1;have c102:=B10.o.ce 2;have c103:=B10.o.ce 3;have c104:=B10.o.ce 4;have c105:=B10.o.ce 5;have c106:=B10.o.ce 6;have c107:=B10.o.ce 7;go_wp2_with fail
      with_reducible refine MU.o.mono ?_
      rintro e w5 ⟨rfl,hb⟩;have KG:=qk KG hb;clear hb MU c80 c81 c82 c83 c84 c85 c86 c87 c100 c101 c102 c103 c104 c105 c106 c107;go_wp2_with fail
      go_ret2;exact Or.inr ⟨rfl,HOV.o,KG.o.alloc KG.o.size _⟩
    ·have HLE:=qh (show l=yn by have:=HL.o;omega)
     have hge:¬((l:Int)<(yn:Int)):=by omega
     clear hln;go_wp2_with fail
     go_roundw
     case rel =>
      refine⟨j+1,M',by have:=HJN.o;omega,rfl,HM.o,fun f=>?_,?_,fun s hs=>?_,KG.o⟩
      ·rw[HEV.o,List.take_of_length_le (l:=Q) (by rw[HLE.o,HYL.o];exact zj),List.take_add_one,HPJ.o];show _=ev (mulL (P.take j++[(t.m,q)]) Q) f;rw[jgo]
      ·rw[Nat.add_mul,Nat.one_mul,<- HYL.o,<- HLE.o,HLE.o,HYL.o];have h:=HML.o;have h2:=HLE.o;have h3:=HYL.o;omega
      ·rw[List.take_add_one,HPJ.o] at hs
       rcases List.mem_append.1 hs with hs | hs
       ·exact HSO.o s hs
       ·rw[List.mem_singleton.1 hs];intro v hv;refine HSI.o v ?_;rw[List.take_of_length_le (by rw[HLE.o,HYL.o];exact zj)];exact hv
     case measure=>simp[intOf];have:=HJN.o;omega
  ·have HJE:=qh (show j=xn by have:=HJ.o;omega)
   have hge:¬((j:Int)<(xn:Int)):=by omega
   have HLK:=qh (show ∀ e∈M,LQ e.2 900000 from fun e he=>by
    refine jay (l:=M.map tm) (L:=mulL (P.take j) Q) ?_ HEV.o (fun m=>HD.o j m) zj (tm e) (List.mem_map_of_mem he);have h:=HM.o.keys;rw[List.map_map]
    exact h)
   have SM:=qh (Yq b w.heap.size M wr HM.o HLK.o KG.o.size (by have h1:=HML.o;rw[HJE.o,HXL.o] at h1;have h4:=HN.o;omega));clear hjn;go_wp2_with fail
   with_reducible refine SM.o.mono ?_
   rintro e w9 ⟨z,rfl,hz,hb⟩;have HZ:=qh hz;have KG:=qk KG hb;clear hz hb SM;go_wp2_with fail
   go_ret2;refine Or.inl ⟨z,rfl,?_,?_,KG.o⟩
   ·rintro⟨s,hs,u,hu,hov⟩;refine hov (HSO.o s ?_ u hu);rw[List.take_of_length_le (by rw[HJE.o,HXL.o];exact zj)];exact hs
   have e1:nf (M.map tm)=Xt P Q:=VV fun f=>by
    rw[HEV.o,List.take_of_length_le (by rw[HJE.o,HXL.o];exact zj)]
   rw[<- e1];exact HZ.o
theorem mul_o (x y:PV) (P Q:List Tm) (k1 k2:Nat) (w:World) (hx:KP w x P) (hy:KP w y Q) (hp:∀ t∈P,LQ t.2 k1) (hq:∀ t∈Q,LQ t.2 k2)
  (hk:P.length*(k1+k2+1)<=900000) (h2:k2<=900000) (hn:P.length*Q.length<=1000000) (hpn:P.length<=1000000) (hqn:Q.length<=1000000) :
  Calls Tryz.prog 51 #[x.v,y.v] w (MulR w P Q):=by
 match P,hx,hp,hk,hn,hpn with
 | [],hx,_,_,hn,hpn=>exact mul_g x y [] Q 0 k2 w hx hy (fun t ht=>by cases ht) hq (by omega) (fun i s j m hs=>by cases hs) (fun i m=>by rw[List.take_nil];exact Or.inl rfl) hn hpn hqn
 | t :: r,hx,hp,hk,hn,hpn =>
  exact mul_g x y (t :: r) Q k1 k2 w hx hy hp hq (by have:=Nat.le_mul_of_pos_left (k1+k2+1) (show 0<r.length+1 by omega);rw[List.length_cons] at hk;omega) (fun i s j m hs=>part_cf hy.canon hp hq hs j m hk) (fun i m=>all_cf hy.canon hp hq i m hk) hn hpn hqn
structure RE (w:World) (b off i:Nat) (t:TV):Prop where
 lt:b<w.heap.size
 cell:∀ j v,t.cells[j]?=some v->w.cell? ⟨b,off+i*8+j,none⟩=some v
theorem RE.below {w w':World} {b off i:Nat} {t:TV} (h:RE w b off i t) (hb:Below w.heap.size w w'):RE w' b off i t :=
 ⟨Nat.lt_of_lt_of_le h.lt hb.size,fun j v hj=>(hb.cell (p:=⟨b,off+i*8+j,none⟩) h.lt).trans (h.cell j v hj)⟩
theorem RE.eight {w:World} {b off i:Nat} {t:TV} (h:RE w b off i t) :
  w.cell? ⟨b,off+i*8,none⟩=some (.bool t.c.t.s)/\w.cell? ⟨b,off+i*8+1,none⟩=some (.slice t.c.t.a t.c.t.n t.c.t.c)/\w.cell? ⟨b,off+i*8+2,none⟩=some (.bool t.c.l.s)/\w.cell? ⟨b,off+i*8+3,none⟩=some (.slice t.c.l.a t.c.l.n t.c.l.c) /\
  w.cell? ⟨b,off+i*8+4,none⟩=some (.int .u16 t.m.x)/\w.cell? ⟨b,off+i*8+5,none⟩=some (.int .u16 t.m.y)/\w.cell? ⟨b,off+i*8+6,none⟩=some (.int .u16 t.m.z)/\w.cell? ⟨b,off+i*8+7,none⟩=some (.int .u16 t.m.t) :=
 ⟨h.cell 0 _ rfl,h.cell 1 _ rfl,h.cell 2 _ rfl,h.cell 3 _ rfl,h.cell 4 _ rfl,h.cell 5 _ rfl,h.cell 6 _ rfl,h.cell 7 _ rfl⟩
theorem RT.one {w:World} {a:Option Addr} {ts:List TV} (h:RT w a ts) (hn:ts≠[]):∃ b off,a=some ⟨b,off,none⟩/\∀ i t,ts[i]?=some t->RE w b off i t:=by
 obtain⟨b,off,ha,hc⟩:=h.ex hn;exact⟨b,off,ha,fun i t hi=>⟨block_lt_of_cell (hc i t hi 0 _ rfl),hc i t hi⟩⟩
theorem jg6 (t u:TV) (q:Rat) (w:World) (h1:KF w t.c q) (h2:KF w u.c q) (hm:t.m=u.m) (hq:LQ q 900000):Calls Tryz.prog 40 #[TV.v t,TV.v u] w fun e w'=>e=.returned (.bool true)/\Below w.heap.size w w':=by
 obtain⟨V,hV⟩:∃ V,V=(w.alloc (.cells #[.bool t.c.t.s,.slice t.c.t.a t.c.t.n t.c.t.c,.bool t.c.l.s,.slice t.c.l.a t.c.l.n t.c.l.c,.int .u16 t.m.x,.int .u16 t.m.y,.int .u16 t.m.z,.int .u16 t.m.t] 71)).alloc (.cells #[.bool u.c.t.s,.slice u.c.t.a u.c.t.n u.c.t.c,.bool u.c.l.s,.slice u.c.l.a u.c.l.n u.c.l.c,.int .u16 u.m.x,.int .u16 u.m.y,.int .u16 u.m.z,.int .u16 u.m.t] 71):=⟨_,rfl⟩
 have hbV:Below w.heap.size w V:=by rw[hV];exact(zk.alloc zj _).alloc (by go_size) _
 have B1:=qh (show Bxs V w.heap.size 71 [.bool t.c.t.s,.slice t.c.t.a t.c.t.n t.c.t.c,.bool t.c.l.s,.slice t.c.l.a t.c.l.n t.c.l.c,.int .u16 t.m.x,.int .u16 t.m.y,.int .u16 t.m.z,.int .u16 t.m.t] by rw[hV];exact(Bxs.new w 71 [.bool t.c.t.s,.slice t.c.t.a t.c.t.n t.c.t.c,.bool t.c.l.s,.slice t.c.l.a t.c.l.n t.c.l.c,.int .u16 t.m.x,.int .u16 t.m.y,.int .u16 t.m.z,.int .u16 t.m.t]).alloc _)
 have B2:=qh (show Bxs V (w.heap.size+1) 71 [.bool u.c.t.s,.slice u.c.t.a u.c.t.n u.c.t.c,.bool u.c.l.s,.slice u.c.l.a u.c.l.n u.c.l.c,.int .u16 u.m.x,.int .u16 u.m.y,.int .u16 u.m.z,.int .u16 u.m.t] by
  have h:=Bxs.new (w.alloc (.cells #[.bool t.c.t.s,.slice t.c.t.a t.c.t.n t.c.t.c,.bool t.c.l.s,.slice t.c.l.a t.c.l.n t.c.l.c,.int .u16 t.m.x,.int .u16 t.m.y,.int .u16 t.m.z,.int .u16 t.m.t] 71)) 71 [.bool u.c.t.s,.slice u.c.t.a u.c.t.n u.c.t.c,.bool u.c.l.s,.slice u.c.l.a u.c.l.n u.c.l.c,.int .u16 u.m.x,.int .u16 u.m.y,.int .u16 u.m.z,.int .u16 u.m.t];rw[World.size_alloc] at h
  rw[hV];exact h)
 have KG:=qh hbV;have SF:=qh (qsameFr (h1.below hbV) (h1.len hq zj) (h2.below hbV) (h2.len hq zj) rfl);have HV:=qh hV;obtain⟨tc,⟨mx,my,mz,mt⟩⟩:=t;obtain⟨uc,um⟩:=u;change (⟨mx,my,mz,mt⟩:Mo)=um at hm;subst hm;change Calls Tryz.prog 40 #[.agg #[.bool tc.t.s,.slice tc.t.a tc.t.n tc.t.c,.bool tc.l.s,.slice tc.l.a tc.l.n tc.l.c,.int .u16 mx,.int .u16 my,.int .u16 mz,.int .u16 mt],.agg #[.bool uc.t.s,.slice uc.t.a uc.t.n uc.t.c,.bool uc.l.s,.slice uc.l.a uc.l.n uc.l.c,.int .u16 mx,.int .u16 my,.int .u16 mz,.int .u16 mt]] w _;clear hV hbV h1 h2 hq;go_enter Tryz.func40,Tryz.ntmps40
 go_upto_region 1 with (fail)
 rw[show(w.alloc (.cells #[.bool tc.t.s,.slice tc.t.a tc.t.n tc.t.c,.bool tc.l.s,.slice tc.l.a tc.l.n tc.l.c,.int .u16 mx,.int .u16 my,.int .u16 mz,.int .u16 mt] 71)).alloc (.cells #[.bool uc.t.s,.slice uc.t.a uc.t.n uc.t.c,.bool uc.l.s,.slice uc.l.a uc.l.n uc.l.c,.int .u16 mx,.int .u16 my,.int .u16 mz,.int .u16 mt] 71)=V from HV.o.symm];have c10:=B1.o.ce 0;have c11:=B1.o.ce 1;have c12:=B1.o.ce 2;have c13:=B1.o.ce 3;have c14:=B1.o.ce 4;have c15:=B1.o.ce 5;have c16:=B1.o.ce 6;have c17:=B1.o.ce 7;have c20:=B2.o.ce 0;have c21:=B2.o.ce 1;have c22:=B2.o.ce 2;have c23:=B2.o.ce 3;have c24:=B2.o.ce 4;have c25:=B2.o.ce 5;have c26:=B2.o.ce 6;have c27:=B2.o.ce 7;go_wp2_with fail
 with_reducible refine SF.o.mono ?_
 rintro e w1 ⟨rfl,hb⟩;have KG:=qk KG hb;have B1:=qh (B1.o.bl hb);have B2:=qh (B2.o.bl hb);clear hb SF c10 c11 c12 c13 c14 c15 c16 c17 c20 c21 c22 c23 c24 c25 c26 c27;have c10:=B1.o.ce 0;have c11:=B1.o.ce 1;have c12:=B1.o.ce 2;have c13:=B1.o.ce 3;have c14:=B1.o.ce 4;have c15:=B1.o.ce 5;have c16:=B1.o.ce 6;have c17:=B1.o.ce 7;have c20:=B2.o.ce 0;have c21:=B2.o.ce 1;have c22:=B2.o.ce 2;have c23:=B2.o.ce 3;have c24:=B2.o.ce 4;have c25:=B2.o.ce 5;have c26:=B2.o.ce 6;have c27:=B2.o.ce 7;go_wp2_with fail
 go_ret;exact⟨rfl,KG.o⟩
theorem jeg (x y:PV) (P:List Tm) (w:World) (hx:KP w x P) (hy:KP w y P) (hp:∀ t∈P,LQ t.2 900000) (hn:P.length<=1000000):Calls Tryz.prog 18 #[x.v,y.v] w fun e w'=>e=.returned (.bool true)/\Below w.heap.size w w':=by
 have hxl:=hx.len;have hyl:=hy.len;obtain⟨xa,xn,xc⟩:=x;obtain⟨ya,n,yc⟩:=y;change xn=P.length at hxl;change n=P.length at hyl;obtain rfl:xn=n:=hxl.trans hyl.symm;obtain⟨L1,g1,g2,g3,g4⟩:=hx.ex;obtain⟨L2,k3,k4,k5,k6⟩:=hy.ex;have HP:=qh hp;have HNN:=qh (show xn<=1000000 by rw[hyl];exact hn);have R1:=qh g1;have R2:=qh k3;have F1:=qh g3;have F2:=qh k5;have T1:=qh g4;have T2:=qh k6;have N1:=qh (show L1.length=xn from g2);have N2:=qh (show L2.length=xn from k4);change Calls Tryz.prog 18 #[.slice xa xn xc,.slice ya xn yc] w _;clear hx hy hp hn hxl hyl g1 g2 g3 g4 k3 k4 k5 k6;go_enter Tryz.func18,Tryz.ntmps18;go_wp2_with fail
 go_loopw [5] (fun i wr=>∃ j:Nat,j<=xn/\i=.int .i64 j/\Below w.heap.size w wr) (fun i _=>xn-(intOf i).toNat)
 case atStart =>
  exact⟨0,Nat.zero_le _,rfl,zk⟩
 case round =>
  obtain⟨j,hj,rfl,hb0⟩:=hrel;have HJ:=qh hj;have KG:=qh hb0;clear hj hb0;by_cases hjn:j<xn
  ·have HJN:=qh hjn
   have h1l:j<L1.length:=by rw[N1.o];exact hjn
   have h2l:j<L2.length:=by rw[N2.o];exact hjn
   obtain⟨pb,po,rfl,hc1⟩:=(R1.o.below KG.o).one (fun h=>by rw[List.map_eq_nil_iff] at h;rw[h] at h1l;simp at h1l);obtain⟨qb,qo,rfl,hc2⟩:=(R2.o.below KG.o).one (fun h=>by rw[List.map_eq_nil_iff] at h;rw[h] at h2l;simp at h2l);obtain⟨⟨t,q⟩,he1⟩:∃ e,L1[j]?=some e:=⟨_,List.getElem?_eq_getElem h1l⟩;obtain⟨⟨u,r⟩,he2⟩:∃ e,L2[j]?=some e:=⟨_,List.getElem?_eq_getElem h2l⟩;have E1:=qh (hc1 j t (by rw[List.getElem?_map,he1];rfl));have E2:=qh (hc2 j u (by rw[List.getElem?_map,he2];rfl))
   have p1:P[j]?=some (t.m,q):=by rw[<- T1.o,List.getElem?_map,he1];rfl
   have p2:P[j]?=some (u.m,r):=by rw[<- T2.o,List.getElem?_map,he2];rfl
   have pe:(t.m,q)=(u.m,r):=Option.some.inj (p1.symm.trans p2);have HMM:=qh (show t.m=u.m from congrArg Prod.fst pe);obtain rfl:q=r:=congrArg Prod.snd pe;have NT:=qh (show KF wr t.c q from(F1.o _ (List.mem_of_getElem? he1)).below KG.o);have NU:=qh (show KF wr u.c q from(F2.o _ (List.mem_of_getElem? he2)).below KG.o);have LQq:=qh (HP.o _ (List.mem_of_getElem? p1));have ek:IntKind.i64.wrap ((j:Int)+1)=(j:Int)+1:=IntWalk.i64_in _ (by have:=HJN.o;have:=HNN.o;omega);clear hc1 hc2 he1 he2 p1 p2 pe h1l h2l
   go_upto_region 6 with (fail)
   refine FS.Jb 9 [] (FS.JH [(8,FS.Sp.know (.bool true))])
    (fun w'=>Below wr.heap.size wr w') (by kernel_rfl) (by kernel_rfl) (by kernel_rfl)
    (FS.Jd (FS.Sp.Jl _ _) (FS.Jk)) (fun _ _ h hb=>h.trans (hb.mono h.size)) (zk.drew) ?_
   simp only[zu,zi,ze,zx,zy,zv,zw]
   iterate 8
    refine FS.Jc rfl rfl rfl ?_ (fun w' hw'=>?_) ?_;rotate_left
    ·have hb':=hw'.world;obtain⟨hs0,hs1,hs2,hs3,hs4,hs5,hs6,hs7⟩:=(E1.o.below hb').eight;obtain⟨hs0,hs1,hs2,hs3,hs4,hs5,hs6,hs7⟩:=(E2.o.below hb').eight;clear hw';go_simp
     try rfl
    conv=>arg 10;simp only[Act.put,zq0,zq1,zq2]
   refine FS.Je rfl rfl rfl (fun w' hw'=>?_) ?_
   ·have hb':=hw'.world;refine FS.Jn (FS.PK (.bool true)) ?_ (fun _ _ h=>h.post);go_simp;have CT:=jg6 t u q w' (NT.o.below hb') (NU.o.below hb') HMM.o LQq.o;refine CT.mono ?_;rintro e w'' ⟨rfl,hb⟩;exact⟨_,rfl,rfl,hb⟩
   rintro _ rfl
   conv=>arg 10;simp only[Act.put,zq0,zq1,zq2]
   refine FS.Jm (fun w101 hb hF=>?_);clear hF;have KG:=qk KG hb;clear hb;go_wp2_with fail
   go_roundw
   case rel =>
    exact⟨j+1,by have:=HJN.o;omega,rfl,KG.o⟩
   case measure=>simp[intOf];have:=HJN.o;omega
  ·have hge:¬((j:Int)<(xn:Int)):=by omega
   clear hjn;go_wp2_with fail
   go_ret;exact⟨rfl,KG.o⟩
def IR (w:World) (e:Ending) (w':World):Prop:=∃ z:Int,e=.returned (.int .i64 z)/\Below w.heap.size w w'
theorem IR.is {w w':World} (z:Int) (h:Below w.heap.size w w'):IR w (.returned (.int .i64 z)) w':=⟨z,rfl,h⟩
def BR (w:World) (Φ:Prop) (e:Ending) (w':World):Prop:=∃ b:Bool,e=.returned (.bool b)/\(b=false->Φ)/\Below w.heap.size w w'
theorem BR.yes {w w':World} {Φ:Prop} (h:Below w.heap.size w w'):BR w Φ (.returned (.bool true)) w':=⟨true,rfl,nofun,h⟩
theorem BR.no {w w':World} {Φ:Prop} (h:Below w.heap.size w w') (hp:Φ):BR w Φ (.returned (.bool false)) w':=⟨false,rfl,fun _=>hp,h⟩
theorem jd5 (a:Option Addr) (n c:Nat) (w:World):Calls Tryz.prog 169 #[.slice a n c] w fun e w'=>IR w e w':=by
 go_enter Tryz.func169,Tryz.ntmps169;go_wp2_with fail
 go_ret;exact IR.is _ zk
theorem jcs (s:Bool) (a:Option Addr) (n c:Nat) (w:World):Calls Tryz.prog 66 #[.agg #[.bool s,.slice a n c]] w fun e w'=>IR w e w':=by
 obtain⟨V,hV⟩:∃ V,V=w.alloc (.cells #[.bool s,.slice a n c] 26):=⟨_,rfl⟩
 have hbV:Below w.heap.size w V:=by rw[hV];exact zk.alloc zj _
 have B1:=qh (show Bxs V w.heap.size 26 [.bool s,.slice a n c] by rw[hV];exact Bxs.new w 26 [.bool s,.slice a n c]);have KG:=qh hbV;have HV:=qh hV;clear hV hbV;go_enter Tryz.func66,Tryz.ntmps66
 go_upto_region 1 with (fail)
 rw[show w.alloc (.cells #[.bool s,.slice a n c] 26)=V from HV.o.symm];have c0:=B1.o.ce 0;have c1:=B1.o.ce 1;go_wp2_with fail
 with_reducible refine(jd5 _ _ _ _).mono ?_
 rintro e w1 ⟨zw1,rfl,hb⟩;have KG:=qk KG hb;have B1:=qh (B1.o.bl hb);clear hb c0 c1;go_wp2_with fail
 go_ret;exact IR.is _ KG.o
theorem jg7 (x:FV) (w:World):Calls Tryz.prog 11 #[x.v] w fun e w'=>IR w e w':=by
 obtain⟨V,hV⟩:∃ V,V=w.alloc (.cells #[.bool x.t.s,.slice x.t.a x.t.n x.t.c,.bool x.l.s,.slice x.l.a x.l.n x.l.c] 28):=⟨_,rfl⟩
 have hbV:Below w.heap.size w V:=by rw[hV];exact zk.alloc zj _
 have B1:=qh (show Bxs V w.heap.size 28 [.bool x.t.s,.slice x.t.a x.t.n x.t.c,.bool x.l.s,.slice x.l.a x.l.n x.l.c] by rw[hV];exact Bxs.new w 28 [.bool x.t.s,.slice x.t.a x.t.n x.t.c,.bool x.l.s,.slice x.l.a x.l.n x.l.c]);have KG:=qh hbV;have HV:=qh hV;clear hV hbV;change Calls Tryz.prog 11 #[.agg #[.bool x.t.s,.slice x.t.a x.t.n x.t.c,.bool x.l.s,.slice x.l.a x.l.n x.l.c]] w _;go_enter Tryz.func11,Tryz.ntmps11
 go_upto_region 1 with (fail)
 rw[show w.alloc (.cells #[.bool x.t.s,.slice x.t.a x.t.n x.t.c,.bool x.l.s,.slice x.l.a x.l.n x.l.c] 28)=V from HV.o.symm];have c0:=B1.o.ce 0;have c1:=B1.o.ce 1;have c2:=B1.o.ce 2;have c3:=B1.o.ce 3;go_wp2_with fail
 with_reducible refine(jcs _ _ _ _ _).mono ?_
 rintro e w1 ⟨zw1,rfl,hb⟩;have KG:=qk KG hb;have B1:=qh (B1.o.bl hb);clear hb c0 c1 c2 c3;by_cases h:wrap64 (1+zw1)<=1048576
 ·have c0:=B1.o.ce 0;have c1:=B1.o.ce 1;have c2:=B1.o.ce 2;have c3:=B1.o.ce 3;go_wp2_with fail
  with_reducible refine(jcs _ _ _ _ _).mono ?_
  rintro e w2 ⟨z2,rfl,hb⟩;have KG:=qk KG hb;clear hb c0 c1 c2 c3;go_wp2_with fail
  go_ret;exact IR.is _ KG.o
 ·have h2:1048576<wrap64 (1+zw1):=by omega
  go_wp2_with fail
  go_ret;exact IR.is _ KG.o
theorem jg8 (t:TV) (w:World):Calls Tryz.prog 168 #[TV.v t] w fun e w'=>IR w e w':=by
 obtain⟨V,hV⟩:∃ V,V=w.alloc (.cells #[.bool t.c.t.s,.slice t.c.t.a t.c.t.n t.c.t.c,.bool t.c.l.s,.slice t.c.l.a t.c.l.n t.c.l.c,.int .u16 t.m.x,.int .u16 t.m.y,.int .u16 t.m.z,.int .u16 t.m.t] 71):=⟨_,rfl⟩
 have hbV:Below w.heap.size w V:=by rw[hV];exact zk.alloc zj _
 have B1:=qh (show Bxs V w.heap.size 71 [.bool t.c.t.s,.slice t.c.t.a t.c.t.n t.c.t.c,.bool t.c.l.s,.slice t.c.l.a t.c.l.n t.c.l.c,.int .u16 t.m.x,.int .u16 t.m.y,.int .u16 t.m.z,.int .u16 t.m.t] by rw[hV];exact Bxs.new w 71 [.bool t.c.t.s,.slice t.c.t.a t.c.t.n t.c.t.c,.bool t.c.l.s,.slice t.c.l.a t.c.l.n t.c.l.c,.int .u16 t.m.x,.int .u16 t.m.y,.int .u16 t.m.z,.int .u16 t.m.t]);have KG:=qh hbV;have HV:=qh hV;clear hV hbV;change Calls Tryz.prog 168 #[.agg #[.bool t.c.t.s,.slice t.c.t.a t.c.t.n t.c.t.c,.bool t.c.l.s,.slice t.c.l.a t.c.l.n t.c.l.c,.int .u16 t.m.x,.int .u16 t.m.y,.int .u16 t.m.z,.int .u16 t.m.t]] w _;go_enter Tryz.func168,Tryz.ntmps168
 go_upto_region 1 with (fail)
 rw[show w.alloc (.cells #[.bool t.c.t.s,.slice t.c.t.a t.c.t.n t.c.t.c,.bool t.c.l.s,.slice t.c.l.a t.c.l.n t.c.l.c,.int .u16 t.m.x,.int .u16 t.m.y,.int .u16 t.m.z,.int .u16 t.m.t] 71)=V from HV.o.symm];have c0:=B1.o.ce 0;have c1:=B1.o.ce 1;have c2:=B1.o.ce 2;have c3:=B1.o.ce 3;have c4:=B1.o.ce 4;have c5:=B1.o.ce 5;have c6:=B1.o.ce 6;have c7:=B1.o.ce 7;go_wp2_with fail
 with_reducible refine(jg7 t.c _).mono ?_
 rintro e w1 ⟨zw1,rfl,hb⟩;have KG:=qk KG hb;have B1:=qh (B1.o.bl hb);clear hb c0 c1 c2 c3 c4 c5 c6 c7;go_wp2_with fail
 go_ret;exact IR.is _ KG.o
theorem jg9 (x:PV) (ts:List TV) (w:World) (hr:RT w x.a ts) (hl:ts.length=x.n) (hn:x.n<=1000000000):Calls Tryz.prog 65 #[x.v] w fun e w'=>IR w e w':=by
 obtain⟨xa,xn,xc⟩:=x;have HR:=qh hr;have HL:=qh (show ts.length=xn from hl);have HN:=qh (show xn<=1000000000 from hn);change Calls Tryz.prog 65 #[.slice xa xn xc] w _;clear hr hl hn;go_enter Tryz.func65,Tryz.ntmps65;go_wp2_with fail
 go_loopw [3,4] (fun s i wr=>∃ (j:Nat) (z:Int),j<=xn/\i=.int .i64 j/\s=.int .i64 z/\Below w.heap.size w wr) (fun _ i _=>xn-(intOf i).toNat)
 case atStart =>
  exact⟨0,_,Nat.zero_le _,rfl,rfl,zk⟩
 case round =>
  obtain⟨j,z,hj,rfl,rfl,hb0⟩:=hrel;have HJ:=qh hj;have KG:=qh hb0;clear hj hb0;by_cases hjn:j<xn
  ·by_cases hz:z<=1048576
   ·have HJN:=qh hjn
    have hjl:j<ts.length:=by rw[HL.o];exact hjn
    obtain⟨pb,po,rfl,hc⟩:=(HR.o.below KG.o).one (fun h=>by rw[h] at hjl;simp at hjl);obtain⟨t,he⟩:∃ t,ts[j]?=some t:=⟨_,List.getElem?_eq_getElem hjl⟩;obtain⟨c0,c1,c2,c3,c4,c5,c6,c7⟩:=(hc j t he).eight;have ek:IntKind.i64.wrap ((j:Int)+1)=(j:Int)+1:=IntWalk.i64_in _ (by have:=HJN.o;have:=HN.o;omega);clear hc he hjl;go_wp2_with fail
    with_reducible refine(jg8 t _).mono ?_
    rintro e w1 ⟨z1,rfl,hb⟩;have KG:=qk KG hb;clear hb c0 c1 c2 c3 c4 c5 c6 c7;go_wp2_with fail
    go_roundw
    case rel =>
     exact⟨j+1,_,by have:=HJN.o;omega,rfl,rfl,KG.o⟩
    case measure=>simp[intOf];have:=HJN.o;omega
   ·have hz2:1048576<z:=by omega
    go_wp2_with fail
    go_ret;exact IR.is _ KG.o
  ·have hge:¬((j:Int)<(xn:Int)):=by omega
   clear hjn;go_wp2_with fail
   go_ret;exact IR.is _ KG.o
def Xo (m:Nat) (ts:List TV):Prop:=ts.length<=m/\∀ t∈ts,t.c.t.n<=4/\t.c.l.n<=1
def jha (m:Nat) (Xs:List (PV × List TV)):Prop:=∀ e∈Xs,Xo m e.2
theorem jd6 (g m k:Nat) (Xs:List (PV × List TV)) (w:World) (hk:Xs.length=k) (hc:∀ i e,Xs[i]?=some e->w.cell? ⟨g,i,none⟩=some e.1.v) (hr:∀ e∈Xs,RT w e.1.a e.2/\e.2.length=e.1.n)
  (hn:Xs.length<=1000) (hm:m<=1000) :
  Calls Tryz.prog 10 #[.int .i64 m,.slice (some ⟨g,0,none⟩) k k] w (BR w (jha m Xs)):=by
 have HK:=qh hk;have HC:=qh hc;have HR:=qh hr;have HN:=qh hn;have HM:=qh hm;clear hk hc hr hn hm;go_enter Tryz.func10,Tryz.ntmps10;go_wp2_with fail
 go_loopw [5] (fun i wr=>∃ j:Nat,j<=k/\i=.int .i64 j/\(∀ i e,Xs[i]?=some e->i<j->Xo m e.2)/\Below w.heap.size w wr) (fun i _=>k-(intOf i).toNat)
 case atStart =>
  exact⟨0,Nat.zero_le _,rfl,fun i e _ h=>absurd h (Nat.not_lt_zero _),zk⟩
 case round =>
  obtain⟨j,hj,rfl,hg,hb0⟩:=hrel;have HJ:=qh hj;have HG:=qh hg;have KG:=qh hb0;clear hj hg hb0;by_cases hjn:j<k
  ·have HJN:=qh hjn;obtain⟨⟨⟨xa,xn,xc⟩,ts⟩,he⟩:∃ e,Xs[j]?=some e:=⟨_,List.getElem?_eq_getElem (by rw[HK.o];exact hjn)⟩;have HE:=qh he;have CG:=qh (show ∀ w2,Below w.heap.size w w2->w2.cell? ⟨g,j,none⟩=some (.slice xa xn xc) from fun (w2:World) (h:Below w.heap.size w w2)=>(h.cell (p:=⟨g,j,none⟩) (block_lt_of_cell (HC.o j _ he))).trans (HC.o j _ he));have c0:=CG.o _ KG.o;obtain⟨r1,r2⟩:=HR.o _ (List.mem_of_getElem? he);have RX:=qh r1;have LX:=qh (show ts.length=xn from r2);have ek:IntKind.i64.wrap ((j:Int)+1)=(j:Int)+1:=IntWalk.i64_in _ (by have:=HJN.o;have:=HK.o;have:=HN.o;omega);have em:IntKind.i64.wrap (40*(m:Int))=40*(m:Int):=IntWalk.i64_in _ (by have:=HM.o;omega);clear he r1 r2;by_cases hxm:xn<=m
   ·have HXM:=qh hxm;have NX:=qh (show xn<=1000000000 by have:=HM.o;omega)
    have h1:¬((xn:Int)>(m:Int)):=by omega
    have h2:¬((m:Int)<(xn:Int)):=by omega
    have PS:=qh (jg9 ⟨xa,xn,xc⟩ ts wr (RX.o.below KG.o) LX.o NX.o);clear hxm;go_wp2_with fail
    with_reducible refine PS.o.mono ?_
    rintro e w1 ⟨z,rfl,hb⟩;have KG:=qk KG hb;clear hb PS c0;by_cases hz:z>40*(m:Int)
    ·have hz2:40*(m:Int)<z:=hz;go_wp2_with fail
     go_ret;exact BR.yes KG.o
    ·have hz2:¬(40*(m:Int)<z):=hz;go_wp2_with fail
     go_loopw [6] (fun i wr=>∃ l:Nat,l<=xn/\i=.int .i64 l/\(∀ i t,ts[i]?=some t->i<l->t.c.t.n<=4/\t.c.l.n<=1)/\Below w.heap.size w wr) (fun i _=>xn-(intOf i).toNat)
     case atStart =>
      exact⟨0,Nat.zero_le _,rfl,fun i e _ h=>absurd h (Nat.not_lt_zero _),KG.o⟩
     case round =>
      obtain⟨l,hl,rfl,hg2,hb0⟩:=hrel;have HL:=qh hl;have HG2:=qh hg2;have KG:=qh hb0;clear hl hg2 hb0;have c0:=CG.o _ KG.o;by_cases hln:l<xn
      ·have HLN:=qh hln
       have hll:l<ts.length:=by rw[LX.o];exact hln
       obtain⟨pb,po,rfl,hc⟩:=(RX.o.below KG.o).one (fun h=>by rw[h] at hll;simp at hll);obtain⟨t,ht⟩:∃ t,ts[l]?=some t:=⟨_,List.getElem?_eq_getElem hll⟩;obtain⟨d0,d1,d2,d3,d4,d5,d6,d7⟩:=(hc l t ht).eight;have HT:=qh ht;have el:IntKind.i64.wrap ((l:Int)+1)=(l:Int)+1:=IntWalk.i64_in _ (by have:=HLN.o;have:=NX.o;omega);clear hc ht hll;by_cases h4:t.c.t.n<=4
       ·have g1:¬((t.c.t.n:Int)>4):=by omega
        have g2:¬((4:Int)<(t.c.t.n:Int)):=by omega
        by_cases h5:t.c.l.n<=1
        ·have g3:¬((t.c.l.n:Int)>1):=by omega
         have g4:¬((1:Int)<(t.c.l.n:Int)):=by omega
         have H45:=qh (show t.c.t.n<=4/\t.c.l.n<=1 from⟨h4,h5⟩);clear h4 h5;go_wp2_with fail
         go_roundw
         case rel =>
          refine⟨l+1,by have:=HLN.o;omega,rfl,fun i t' h1 h2=>?_,KG.o⟩;by_cases h3:i<l
          ·exact HG2.o i t' h1 h3
          ·obtain rfl:i=l:=by omega
           rw[HT.o] at h1;obtain rfl:=Option.some.inj h1;exact H45.o
         case measure=>simp[intOf];have:=HLN.o;omega
        ·have g3:(t.c.l.n:Int)>1:=by omega
         have g4:(1:Int)<(t.c.l.n:Int):=by omega
         clear h4 h5;go_wp2_with fail
         go_ret;exact BR.yes KG.o
       ·have g1:(t.c.t.n:Int)>4:=by omega
        have g2:(4:Int)<(t.c.t.n:Int):=by omega
        clear h4;go_wp2_with fail
        go_ret;exact BR.yes KG.o
      ·have hge:¬((l:Int)<(xn:Int)):=by omega
       have HLE:=qh (show l=xn by have:=HL.o;omega);clear hln;go_wp2_with fail
       go_roundw
       case rel =>
        refine⟨j+1,by have:=HJN.o;omega,rfl,fun i e' h1 h2=>?_,KG.o⟩;by_cases h3:i<j
        ·exact HG.o i e' h1 h3
        ·obtain rfl:i=j:=by omega
         rw[HE.o] at h1;obtain rfl:=Option.some.inj h1;refine⟨by have h5:=LX.o;have h6:=HXM.o;show ts.length<=m;omega,fun t ht=>?_⟩;obtain⟨i2,h7⟩:=List.mem_iff_getElem?.1 (show t∈ts from ht);exact HG2.o i2 t h7 (by have h8:=(List.getElem?_eq_some_iff.1 h7).1;have h5:=LX.o;have h9:=HLE.o;omega)
       case measure=>simp[intOf];have:=HJN.o;omega
   ·have h1:(xn:Int)>(m:Int):=by omega
    have h2:(m:Int)<(xn:Int):=by omega
    clear hxm;go_wp2_with fail
    go_ret;exact BR.yes KG.o
  ·have hge:¬((j:Int)<(k:Int)):=by omega
   have HJE:=qh (show j=k by have:=HJ.o;omega);clear hjn;go_wp2_with fail
   go_ret
   refine BR.no KG.o fun e he=>?_
   obtain⟨i,h⟩:=List.mem_iff_getElem?.1 he;exact HG.o i e h (by have h8:=(List.getElem?_eq_some_iff.1 h).1;have h9:=HJE.o;have:=HK.o;omega)
structure TwN (w:World) (lo:Nat) (t x:NV) (o:Nat->Int):Prop where
 s:t.s=x.s
 n:t.n=x.n
 c:t.c=x.n+1
 own:Limb.Own 160 w lo t.a (x.n+1) (x.n+1) (tw o x.n)
structure TwF (w:World) (lo:Nat) (t x:FV) (o1 o2:Nat->Int):Prop where
 top:TwN w lo t.t x.t o1
 low:TwN w lo t.l x.l o2
 ap:Xw t.t.a t.l.a
theorem TwN.kept {w w':World} {lo:Nat} {t x:NV} {o:Nat->Int} (h:TwN w lo t x o) (hk:∀ b,t.blk b->w'.heap[b]?=w.heap[b]?):TwN w' lo t x o:=⟨h.s,h.n,h.c,h.own.kept hk⟩
theorem TwN.Q7 {w:World} {lo:Nat} {t x:NV} {o:Nat->Int} (h:TwN w lo t x o):∀ b,t.blk b->lo<=b/\b<w.heap.size:=fun b ⟨p,hp,e⟩=>by
 rcases h.own.place with h0 | ⟨g,cur,ha,hlo,hg,_⟩
 ·rw[h0.1] at hp;cases hp
 ·rw[ha] at hp
  cases hp
  subst e;exact⟨hlo,lt_of_block hg⟩
theorem TwN.below {w w':World} {lo:Nat} {t x:NV} {o:Nat->Int} (h:TwN w lo t x o) (hb:Below w.heap.size w w'):TwN w' lo t x o:=h.kept fun b h1=>hb.block b (h.Q7 b h1).2
theorem TwN.mono {w:World} {lo lo':Nat} {t x:NV} {o:Nat->Int} (h:TwN w lo t x o) (hl:lo'<=lo):TwN w lo' t x o:=⟨h.s,h.n,h.c,h.own.mono hl⟩
theorem TwF.kept {w w':World} {lo:Nat} {t x:FV} {o1 o2:Nat->Int} (h:TwF w lo t x o1 o2) (hk:∀ b,FV.blk t b->w'.heap[b]?=w.heap[b]?):TwF w' lo t x o1 o2:=⟨h.top.kept fun b hb=>hk b (Or.inl hb),h.low.kept fun b hb=>hk b (Or.inr hb),h.ap⟩
theorem TwF.Q7 {w:World} {lo:Nat} {t x:FV} {o1 o2:Nat->Int} (h:TwF w lo t x o1 o2):∀ b,FV.blk t b->lo<=b/\b<w.heap.size:=fun b hb=>hb.elim (h.top.Q7 b) (h.low.Q7 b)
theorem TwF.below {w w':World} {lo:Nat} {t x:FV} {o1 o2:Nat->Int} (h:TwF w lo t x o1 o2) (hb:Below w.heap.size w w'):TwF w' lo t x o1 o2:=⟨h.top.below hb,h.low.below hb,h.ap⟩
theorem TwF.mono {w:World} {lo lo':Nat} {t x:FV} {o1 o2:Nat->Int} (h:TwF w lo t x o1 o2) (hl:lo'<=lo):TwF w lo' t x o1 o2:=⟨h.top.mono hl,h.low.mono hl,h.ap⟩
theorem TwF.put {w:World} {lo:Nat} {t x:FV} {o1 o2:Nat->Int} (h:TwF w lo t x o1 o2) {b:Nat} (hb:∀ g,FV.blk t g->g≠b) (v0 v1 v2 v3 v4 v5 v6 v7:Value):TwF (Zt w b v0 v1 v2 v3 v4 v5 v6 v7) lo t x o1 o2:=by
 have h1:∀ (u:World) (i:Nat) (v:Value) (g:Nat),g≠b->(u.setCell ⟨b,i,none⟩ v).heap[g]?=u.heap[g]?:=fun u i v g hne=>Below.heap_setCell _ _ _ _ hne
 refine h.kept fun g hg=>?_
 have hne:=hb g hg;unfold Zt;rw[h1 _ _ _ _ hne,h1 _ _ _ _ hne,h1 _ _ _ _ hne,h1 _ _ _ _ hne,h1 _ _ _ _ hne,h1 _ _ _ _ hne,h1 _ _ _ _ hne,h1 _ _ _ _ hne]
theorem jhb (x:FV) (o1 o2:Nat->Int) (w:World) (h1:Rd w x.t.a x.t.n o1) (hn1:x.t.n<=100000000) (h2:Rd w x.l.a x.l.n o2) (hn2:x.l.n<=100000000) :
  Calls Tryz.prog 13 #[x.v] w fun e w'=>∃ y:FV,e=.returned y.v/\TwF w' w.heap.size y x o1 o2/\Below w.heap.size w w' :=
 (jaf x.t.s x.t.a x.t.n x.t.c o1 x.l.s x.l.a x.l.n x.l.c o2 w h1 hn1 h2 hn2).mono fun e w' ⟨g1,g2,he,p1,p2,hne,hb⟩ =>
  ⟨⟨⟨x.t.s,some ⟨g1,0,none⟩,x.t.n,x.t.n+1⟩,⟨x.l.s,some ⟨g2,0,none⟩,x.l.n,x.l.n+1⟩⟩,he,⟨⟨rfl,rfl,rfl,p1⟩,⟨rfl,rfl,rfl,p2⟩,fun p q hp hq=>by cases hp;cases hq;exact hne⟩,hb⟩
theorem jai (t:TV) (o1 o2:Nat->Int) (w:World) (h1:Rd w t.c.t.a t.c.t.n o1) (hn1:t.c.t.n<=100000000) (h2:Rd w t.c.l.a t.c.l.n o2) (hn2:t.c.l.n<=100000000) :
  Calls Tryz.prog 67 #[TV.v t] w fun e w'=>∃ y:FV,e=.returned (TV.v ⟨y,t.m⟩)/\TwF w' w.heap.size y t.c o1 o2/\Below w.heap.size w w':=by
 obtain⟨V,hV⟩:∃ V,V=(w.alloc (.cells #[.bool t.c.t.s,.slice t.c.t.a t.c.t.n t.c.t.c,.bool t.c.l.s,.slice t.c.l.a t.c.l.n t.c.l.c,.int .u16 t.m.x,.int .u16 t.m.y,.int .u16 t.m.z,.int .u16 t.m.t] 71)).alloc (.cells #[.bool false,.slice none 0 0,.bool false,.slice none 0 0,.int .u16 0,.int .u16 0,.int .u16 0,.int .u16 0] 71):=⟨_,rfl⟩
 have hbV:Below w.heap.size w V:=by rw[hV];exact(zk.alloc zj _).alloc (by go_size) _
 have B1:=qh (show Bxs V w.heap.size 71 [.bool t.c.t.s,.slice t.c.t.a t.c.t.n t.c.t.c,.bool t.c.l.s,.slice t.c.l.a t.c.l.n t.c.l.c,.int .u16 t.m.x,.int .u16 t.m.y,.int .u16 t.m.z,.int .u16 t.m.t] by rw[hV];exact(Bxs.new w 71 [.bool t.c.t.s,.slice t.c.t.a t.c.t.n t.c.t.c,.bool t.c.l.s,.slice t.c.l.a t.c.l.n t.c.l.c,.int .u16 t.m.x,.int .u16 t.m.y,.int .u16 t.m.z,.int .u16 t.m.t]).alloc _)
 have B2:=qh (show Bxs V (w.heap.size+1) 71 [.bool false,.slice none 0 0,.bool false,.slice none 0 0,.int .u16 0,.int .u16 0,.int .u16 0,.int .u16 0] by
  have h:=Bxs.new (w.alloc (.cells #[.bool t.c.t.s,.slice t.c.t.a t.c.t.n t.c.t.c,.bool t.c.l.s,.slice t.c.l.a t.c.l.n t.c.l.c,.int .u16 t.m.x,.int .u16 t.m.y,.int .u16 t.m.z,.int .u16 t.m.t] 71)) 71 [.bool false,.slice none 0 0,.bool false,.slice none 0 0,.int .u16 0,.int .u16 0,.int .u16 0,.int .u16 0];rw[World.size_alloc] at h
  rw[hV];exact h)
 have HR1:=qh (h1.below hbV);have HR2:=qh (h2.below hbV);have HN1:=qh hn1;have HN2:=qh hn2;have KG:=qh hbV;have HV:=qh hV;obtain⟨A2,hA2⟩:∃ A,A=w.heap.size+1:=⟨_,rfl⟩;have HA2:=qh (show w.heap.size<=A2 by omega);rw[<- hA2] at B2;have HA3:=qh hA2;have HAV:=qh B2.o.lt;have HSZ:=qh KG.o.size;clear hV hbV h1 h2 hn1 hn2 hA2;change Calls Tryz.prog 67 #[.agg #[.bool t.c.t.s,.slice t.c.t.a t.c.t.n t.c.t.c,.bool t.c.l.s,.slice t.c.l.a t.c.l.n t.c.l.c,.int .u16 t.m.x,.int .u16 t.m.y,.int .u16 t.m.z,.int .u16 t.m.t]] w _;go_enter Tryz.func67,Tryz.ntmps67
 go_upto_region 1 with (fail)
 rw[show(w.alloc (.cells #[.bool t.c.t.s,.slice t.c.t.a t.c.t.n t.c.t.c,.bool t.c.l.s,.slice t.c.l.a t.c.l.n t.c.l.c,.int .u16 t.m.x,.int .u16 t.m.y,.int .u16 t.m.z,.int .u16 t.m.t] 71)).alloc (.cells #[.bool false,.slice none 0 0,.bool false,.slice none 0 0,.int .u16 0,.int .u16 0,.int .u16 0,.int .u16 0] 71)=V from HV.o.symm,show w.heap.size+1=A2 from HA3.o.symm]
 go_upto_region 1 with (fail)
 refine FS.Jb 6 [] (FS.JH [(2,FS.Sp.made (fun x:FV=>x.v) (fun x w'=>TwF w' V.heap.size x t.c o1 o2) FV.blk)])
  (fun w'=>Below V.heap.size V w') (by kernel_rfl) (by kernel_rfl) (by kernel_rfl)
  (FS.Jd (FS.Sp.Jg _ (fun _ _ _ h _ hk=>h.kept hk) (FS.JM (by kernel_rfl))) (FS.Jk)) (fun _ _ h hb=>h.trans (hb.mono h.size)) (zk.drew) ?_
 simp only[zu,zi,ze,zx,zy,zv,zw]
 iterate 2
  refine FS.Jc rfl rfl rfl ?_ (fun w' hw'=>?_) ?_;rotate_left
  ·have hb':=hw'.world;have hs0:=(B1.o.bl hb').ce 0;have hs1:=(B1.o.bl hb').ce 1;have hs2:=(B1.o.bl hb').ce 2;have hs3:=(B1.o.bl hb').ce 3;have hs4:=(B1.o.bl hb').ce 4;have hs5:=(B1.o.bl hb').ce 5;have hs6:=(B1.o.bl hb').ce 6;have hs7:=(B1.o.bl hb').ce 7;have hsf:=(B1.o.bl hb').fz;have hsl:=(B1.o.bl hb').lt;clear hw';go_simp
   try rfl
  conv=>arg 10;simp only[Act.put,zq0,zq1,zq2]
 refine FS.Je rfl rfl rfl (fun w' hw'=>?_) ?_
 ·have hb':=hw'.world;refine FS.Jn (FS.PM (fun x:FV=>x.v) (fun x w'=>TwF w' V.heap.size x t.c o1 o2) FV.blk w'.heap.size) ?_ (fun _ _ h=>h.post (fun _ _=>FV.inj));go_simp;have CT:=(show Calls Tryz.prog 13 #[.agg #[.bool t.c.t.s,.slice t.c.t.a t.c.t.n t.c.t.c,.bool t.c.l.s,.slice t.c.l.a t.c.l.n t.c.l.c]] w' _ from jhb t.c o1 o2 w' (HR1.o.below hb') HN1.o (HR2.o.below hb') HN2.o);refine CT.mono ?_;rintro e w'' ⟨za,rfl,ho,hb⟩;exact⟨_,rfl,⟨za,rfl,ho.mono hb'.size,ho.Q7⟩,hb⟩
 rintro _ ⟨y2,rfl⟩
 conv=>arg 10;simp only[Act.put,zq0,zq1,zq2]
 iterate 3
  refine FS.Jc rfl rfl rfl ?_ (fun w' hw'=>?_) ?_;rotate_left
  ·have hb':=hw'.world;have hs0:=(B1.o.bl hb').ce 0;have hs1:=(B1.o.bl hb').ce 1;have hs2:=(B1.o.bl hb').ce 2;have hs3:=(B1.o.bl hb').ce 3;have hs4:=(B1.o.bl hb').ce 4;have hs5:=(B1.o.bl hb').ce 5;have hs6:=(B1.o.bl hb').ce 6;have hs7:=(B1.o.bl hb').ce 7;have hsf:=(B1.o.bl hb').fz;have hsl:=(B1.o.bl hb').lt;clear hw';go_simp
   try rfl
  conv=>arg 10;simp only[Act.put,zq0,zq1,zq2]
 refine FS.Jm (fun w101 hb hF=>?_);have N102:=qh (show TwF w101 V.heap.size y2 t.c o1 o2 from(FS.JX (val:=(fun x:FV=>x.v)) (Φ:=fun x w'=>TwF w' V.heap.size x t.c o1 o2) (fun _ _=>FV.inj) (hF.all 2)));clear hF;have B1:=qh (B1.o.bl hb);have B2:=qh (B2.o.bl hb);have KG:=qk KG hb;clear hb;have HD:=qh (show TwF (Zt w101 A2 (.bool y2.t.s) (.slice y2.t.a y2.t.n y2.t.c) (.bool y2.l.s) (.slice y2.l.a y2.l.n y2.l.c) (.int .u16 t.m.x) (.int .u16 t.m.y) (.int .u16 t.m.z) (.int .u16 t.m.t)) w.heap.size y2 t.c o1 o2 from(N102.o.put (fun g hg=>by have:=(N102.o.Q7 g hg).1;have:=HAV.o;omega) ..).mono HSZ.o);have HB:=qh (show Below w.heap.size w (Zt w101 A2 (.bool y2.t.s) (.slice y2.t.a y2.t.n y2.t.c) (.bool y2.l.s) (.slice y2.l.a y2.l.n y2.l.c) (.int .u16 t.m.x) (.int .u16 t.m.y) (.int .u16 t.m.z) (.int .u16 t.m.t)) from Kc KG.o HA2.o ..);have c20:=B2.o.ce 0;have c21:=B2.o.ce 1;have c22:=B2.o.ce 2;have c23:=B2.o.ce 3;have c24:=B2.o.ce 4;have c25:=B2.o.ce 5;have c26:=B2.o.ce 6;have c27:=B2.o.ce 7;have c2f:=B2.o.fz;have c2l:=B2.o.lt;go_wp2_with fail
 exact bodyPost_ret (Jf rfl _ _ _ _ _ _ _ rfl (VU B2.o ..) Tryz.underlying71 rfl (by kernel_rfl)) rfl ⟨y2,rfl,HD.o,HB.o⟩
open Go.ChangeShapes Go.WideShapes Go.ChangeAt
structure FZ (x:FV) (z:Int):Prop where
 lo:0<=z
 hi:z<=1000000000000000
 is:z<=1000->x.t.n<=z.toNat/\x.l.n<=z.toNat
end Pol
namespace Pol
open Go.RowKit Go.Sort Limb
theorem eqM_run (a b:Mo) (w:World):(binOp BinOp.eql 69 (Mo.v a) (Mo.v b)).run Tryz.prog w=.ok (.bool (decide (a=b))) w:=by
 have h:=jfa a b w;have e:binOp BinOp.eql 69 (Mo.v a) (Mo.v b)=(do pure (.bool (<- Op.equal 69 (Mo.v a) (Mo.v b)))):=rfl;rw[e];simp only[Sem.run_bind,h];rfl
theorem all_same {P Q:List Tm} {j:Nat} (h:∀ i,i<j->P[i]?=Q[i]?) (h1:j=P.length) (h2:j=Q.length):P=Q:=by
 apply List.ext_getElem?;intro i;by_cases hi:i<j
 ·exact h i hi
 ·rw[List.getElem?_eq_none (by omega),List.getElem?_eq_none (by omega)]
theorem jhc {P Q:List Tm} {j:Nat} (h:∀ i,i<j->P[i]?=Q[i]?) {m n:Mo} {q r:Rat} (h1:P[j]?=some (m,q)) (h2:Q[j]?=some (n,r)) (hs:true=decide (m=n/\q=r)):∀ i,i<j+1->P[i]?=Q[i]?:=fun i hi=>by
 by_cases e:i<j
 ·exact h i e
 ·obtain rfl:i=j:=by omega
  obtain⟨rfl,rfl⟩:=of_decide_eq_true hs.symm;rw[h1,h2]
theorem not_same {P Q:List Tm} {j:Nat} {m n:Mo} {q r:Rat} (h1:P[j]?=some (m,q)) (h2:Q[j]?=some (n,r)) (hs:false=decide (m=n/\q=r)):¬P=Q:=fun e=>by
 rw[e,h2] at h1;have h3:=Option.some.inj h1;exact of_decide_eq_false hs.symm ⟨(congrArg Prod.fst h3).symm,(congrArg Prod.snd h3).symm⟩
theorem same1_d (t u:TV) (q r:Rat) (w:World) (h1:KF w t.c q) (h2:KF w u.c r) (hq:LQ q 900000) (hr:LQ r 900000):Calls Tryz.prog 159 #[TV.v t,TV.v u] w fun e w'=>e=.returned (.bool (decide (t.m=u.m/\q=r)))/\Below w.heap.size w w':=by
 obtain⟨V,hV⟩:∃ V,V=(w.alloc (.cells #[.bool t.c.t.s,.slice t.c.t.a t.c.t.n t.c.t.c,.bool t.c.l.s,.slice t.c.l.a t.c.l.n t.c.l.c,.int .u16 t.m.x,.int .u16 t.m.y,.int .u16 t.m.z,.int .u16 t.m.t] 71)).alloc (.cells #[.bool u.c.t.s,.slice u.c.t.a u.c.t.n u.c.t.c,.bool u.c.l.s,.slice u.c.l.a u.c.l.n u.c.l.c,.int .u16 u.m.x,.int .u16 u.m.y,.int .u16 u.m.z,.int .u16 u.m.t] 71):=⟨_,rfl⟩
 have hbV:Below w.heap.size w V:=by rw[hV];exact(zk.alloc zj _).alloc (by go_size) _
 have B1:=qh (show Bxs V w.heap.size 71 [.bool t.c.t.s,.slice t.c.t.a t.c.t.n t.c.t.c,.bool t.c.l.s,.slice t.c.l.a t.c.l.n t.c.l.c,.int .u16 t.m.x,.int .u16 t.m.y,.int .u16 t.m.z,.int .u16 t.m.t] by rw[hV];exact(Bxs.new w 71 [.bool t.c.t.s,.slice t.c.t.a t.c.t.n t.c.t.c,.bool t.c.l.s,.slice t.c.l.a t.c.l.n t.c.l.c,.int .u16 t.m.x,.int .u16 t.m.y,.int .u16 t.m.z,.int .u16 t.m.t]).alloc _)
 have B2:=qh (show Bxs V (w.heap.size+1) 71 [.bool u.c.t.s,.slice u.c.t.a u.c.t.n u.c.t.c,.bool u.c.l.s,.slice u.c.l.a u.c.l.n u.c.l.c,.int .u16 u.m.x,.int .u16 u.m.y,.int .u16 u.m.z,.int .u16 u.m.t] by
  have h:=Bxs.new (w.alloc (.cells #[.bool t.c.t.s,.slice t.c.t.a t.c.t.n t.c.t.c,.bool t.c.l.s,.slice t.c.l.a t.c.l.n t.c.l.c,.int .u16 t.m.x,.int .u16 t.m.y,.int .u16 t.m.z,.int .u16 t.m.t] 71)) 71 [.bool u.c.t.s,.slice u.c.t.a u.c.t.n u.c.t.c,.bool u.c.l.s,.slice u.c.l.a u.c.l.n u.c.l.c,.int .u16 u.m.x,.int .u16 u.m.y,.int .u16 u.m.z,.int .u16 u.m.t];rw[World.size_alloc] at h
  rw[hV];exact h)
 have KG:=qh hbV;have SF:=qh (qcmp (h1.below hbV).any (h1.len hq zj) (h2.below hbV).any (h2.len hr zj));have HV:=qh hV;have hqe:=eqM_run t.m u.m;obtain⟨mb,hmb⟩:∃ b,b=decide (t.m=u.m):=⟨_,rfl⟩;rw[<- hmb] at hqe;obtain⟨cv,hcv⟩:∃ c,c=cmpQ q r:=⟨_,rfl⟩;obtain⟨fb,hfb⟩:∃ b,b=(cv==0):=⟨_,rfl⟩;rw[<- hcv] at SF;have HR:=qh (show decide (t.m=u.m/\q=r)=(mb&&fb) by rw[hmb,hfb,hcv,jgw];by_cases a:t.m=u.m <;> by_cases b:q=r <;> simp[a,b]);have hfb2:=hfb.symm;rw[HR.o];clear hV hbV h1 h2 hq hr hmb hcv hfb;go_enter Tryz.func159,Tryz.ntmps159
 go_upto_region 1 with (fail)
 rw[show(w.alloc (.cells #[.bool t.c.t.s,.slice t.c.t.a t.c.t.n t.c.t.c,.bool t.c.l.s,.slice t.c.l.a t.c.l.n t.c.l.c,.int .u16 t.m.x,.int .u16 t.m.y,.int .u16 t.m.z,.int .u16 t.m.t] 71)).alloc (.cells #[.bool u.c.t.s,.slice u.c.t.a u.c.t.n u.c.t.c,.bool u.c.l.s,.slice u.c.l.a u.c.l.n u.c.l.c,.int .u16 u.m.x,.int .u16 u.m.y,.int .u16 u.m.z,.int .u16 u.m.t] 71)=V from HV.o.symm];have c10:=B1.o.ce 0;have c11:=B1.o.ce 1;have c12:=B1.o.ce 2;have c13:=B1.o.ce 3;have c14:=B1.o.ce 4;have c15:=B1.o.ce 5;have c16:=B1.o.ce 6;have c17:=B1.o.ce 7;have c20:=B2.o.ce 0;have c21:=B2.o.ce 1;have c22:=B2.o.ce 2;have c23:=B2.o.ce 3;have c24:=B2.o.ce 4;have c25:=B2.o.ce 5;have c26:=B2.o.ce 6;have c27:=B2.o.ce 7
 rcases Bool.eq_false_or_eq_true mb with rfl | rfl
 ·go_wp2_with fail
  with_reducible refine SF.o.mono ?_
  rintro e w1 ⟨rfl,hb⟩;have KG:=qk KG hb;clear hb SF c10 c11 c12 c13 c14 c15 c16 c17 c20 c21 c22 c23 c24 c25 c26 c27;go_wp2_with fail
  go_ret;exact⟨rfl,KG.o⟩
 ·go_wp2_with fail
  go_ret;exact⟨rfl,KG.o⟩
theorem equal_d (x y:PV) (P Q:List Tm) (w:World) (hx:KP w x P) (hy:KP w y Q) (hp:∀ t∈P,LQ t.2 900000) (hq:∀ t∈Q,LQ t.2 900000) (hn:P.length<=1000000):Calls Tryz.prog 158 #[x.v,y.v,.func (.func 159) #[] #[]] w fun e w'=>e=.returned (.bool (decide (P=Q)))/\Below w.heap.size w w':=by
 have hxl:=hx.len;have hyl:=hy.len;obtain⟨xa,xn,xc⟩:=x;obtain⟨ya,yn,yc⟩:=y;change xn=P.length at hxl;change yn=Q.length at hyl;obtain⟨L1,g1,g2,g3,g4⟩:=hx.ex;obtain⟨L2,k3,k4,k5,k6⟩:=hy.ex;have HP:=qh hp;have HQ:=qh hq;have HNN:=qh (show xn<=1000000 by rw[hxl];exact hn);have R1:=qh g1;have R2:=qh k3;have F1:=qh g3;have F2:=qh k5;have T1:=qh g4;have T2:=qh k6;have N1:=qh (show L1.length=xn from g2);have N2:=qh (show L2.length=yn from k4);have HXL:=qh hxl;have HYL:=qh hyl;obtain⟨res,hres⟩:∃ b,b=decide (P=Q):=⟨_,rfl⟩;have HRES:=qh hres;rw[<- hres];clear hx hy hp hq hn hxl hyl g1 g2 g3 g4 k3 k4 k5 k6 hres;by_cases hne:¬(xn=yn)
 ·have h1:¬((xn:Int)=(yn:Int)):=by omega
  have hf:false=res:=by rw[HRES.o];exact(zo fun h=>hne (by rw[HXL.o,HYL.o,h])).symm
  change Calls Tryz.prog 158 #[.slice xa xn xc,.slice ya yn yc,.func (.func 159) #[] #[]] w _;go_enter Tryz.func158,Tryz.ntmps158;go_wp2_with fail
  go_ret;exact⟨by rw[<- hf];rfl,zk⟩
 have hne2:xn=yn:=Decidable.of_not_not hne;clear hne;subst hne2;change Calls Tryz.prog 158 #[.slice xa xn xc,.slice ya xn yc,.func (.func 159) #[] #[]] w _;go_enter Tryz.func158,Tryz.ntmps158;go_wp2_with fail
 go_loopw [17] (fun i wr=>∃ j:Nat,j<=xn/\i=.int .i64 j/\(∀ i,i<j->P[i]?=Q[i]?)/\Below w.heap.size w wr) (fun i _=>xn-(intOf i).toNat)
 case atStart =>
  exact⟨0,Nat.zero_le _,rfl,fun i hi=>absurd hi (Nat.not_lt_zero _),zk⟩
 case round =>
  obtain⟨j,hj,rfl,hal,hb0⟩:=hrel;have HJ:=qh hj;have HAL:=qh hal;have KG:=qh hb0;clear hj hal hb0;by_cases hjn:j<xn
  ·have HJN:=qh hjn
   have h1l:j<L1.length:=by rw[N1.o];exact hjn
   have h2l:j<L2.length:=by rw[N2.o];exact hjn
   obtain⟨pb,po,rfl,hc1⟩:=(R1.o.below KG.o).one (fun h=>by rw[List.map_eq_nil_iff] at h;rw[h] at h1l;simp at h1l);obtain⟨qb,qo,rfl,hc2⟩:=(R2.o.below KG.o).one (fun h=>by rw[List.map_eq_nil_iff] at h;rw[h] at h2l;simp at h2l);obtain⟨⟨t,q⟩,he1⟩:∃ e,L1[j]?=some e:=⟨_,List.getElem?_eq_getElem h1l⟩;obtain⟨⟨u,r⟩,he2⟩:∃ e,L2[j]?=some e:=⟨_,List.getElem?_eq_getElem h2l⟩;have E1:=qh (hc1 j t (by rw[List.getElem?_map,he1];rfl));have E2:=qh (hc2 j u (by rw[List.getElem?_map,he2];rfl))
   have p1:P[j]?=some (t.m,q):=by rw[<- T1.o,List.getElem?_map,he1];rfl
   have p2:Q[j]?=some (u.m,r):=by rw[<- T2.o,List.getElem?_map,he2];rfl
   have P1:=qh p1;have P2:=qh p2;have NT:=qh (show KF wr t.c q from(F1.o _ (List.mem_of_getElem? he1)).below KG.o);have NU:=qh (show KF wr u.c r from(F2.o _ (List.mem_of_getElem? he2)).below KG.o);have LQq:=qh (HP.o _ (List.mem_of_getElem? p1));have LQr:=qh (HQ.o _ (List.mem_of_getElem? p2));have ek:IntKind.i64.wrap ((j:Int)+1)=(j:Int)+1:=IntWalk.i64_in _ (by have:=HJN.o;have:=HNN.o;omega);obtain⟨sb,hsb⟩:∃ b,b=decide (t.m=u.m/\q=r):=⟨_,rfl⟩;have HSB:=qh hsb;clear hc1 hc2 he1 he2 p1 p2 h1l h2l hsb;obtain⟨V,hV⟩:∃ V,V=(wr.alloc (.cells #[.bool t.c.t.s,.slice t.c.t.a t.c.t.n t.c.t.c,.bool t.c.l.s,.slice t.c.l.a t.c.l.n t.c.l.c,.int .u16 t.m.x,.int .u16 t.m.y,.int .u16 t.m.z,.int .u16 t.m.t] 71)).alloc (.cells #[.bool u.c.t.s,.slice u.c.t.a u.c.t.n u.c.t.c,.bool u.c.l.s,.slice u.c.l.a u.c.l.n u.c.l.c,.int .u16 u.m.x,.int .u16 u.m.y,.int .u16 u.m.z,.int .u16 u.m.t] 71):=⟨_,rfl⟩
   have hbV:Below wr.heap.size wr V:=by rw[hV];exact(zk.alloc zj _).alloc (by go_size) _
   have B1:=qh (show Bxs V wr.heap.size 71 [.bool t.c.t.s,.slice t.c.t.a t.c.t.n t.c.t.c,.bool t.c.l.s,.slice t.c.l.a t.c.l.n t.c.l.c,.int .u16 t.m.x,.int .u16 t.m.y,.int .u16 t.m.z,.int .u16 t.m.t] by rw[hV];exact(Bxs.new wr 71 [.bool t.c.t.s,.slice t.c.t.a t.c.t.n t.c.t.c,.bool t.c.l.s,.slice t.c.l.a t.c.l.n t.c.l.c,.int .u16 t.m.x,.int .u16 t.m.y,.int .u16 t.m.z,.int .u16 t.m.t]).alloc _)
   have B2:=qh (show Bxs V (wr.heap.size+1) 71 [.bool u.c.t.s,.slice u.c.t.a u.c.t.n u.c.t.c,.bool u.c.l.s,.slice u.c.l.a u.c.l.n u.c.l.c,.int .u16 u.m.x,.int .u16 u.m.y,.int .u16 u.m.z,.int .u16 u.m.t] by
    have h:=Bxs.new (wr.alloc (.cells #[.bool t.c.t.s,.slice t.c.t.a t.c.t.n t.c.t.c,.bool t.c.l.s,.slice t.c.l.a t.c.l.n t.c.l.c,.int .u16 t.m.x,.int .u16 t.m.y,.int .u16 t.m.z,.int .u16 t.m.t] 71)) 71 [.bool u.c.t.s,.slice u.c.t.a u.c.t.n u.c.t.c,.bool u.c.l.s,.slice u.c.l.a u.c.l.n u.c.l.c,.int .u16 u.m.x,.int .u16 u.m.y,.int .u16 u.m.z,.int .u16 u.m.t];rw[World.size_alloc] at h
    rw[hV];exact h)
   obtain⟨d10,d11,d12,d13,d14,d15,d16,d17⟩:=E1.o.eight;obtain⟨d20,d21,d22,d23,d24,d25,d26,d27⟩:=(E2.o.below ((Below.refl wr.heap.size wr).alloc zj (.cells #[.bool t.c.t.s,.slice t.c.t.a t.c.t.n t.c.t.c,.bool t.c.l.s,.slice t.c.l.a t.c.l.n t.c.l.c,.int .u16 t.m.x,.int .u16 t.m.y,.int .u16 t.m.z,.int .u16 t.m.t] 71))).eight;have S1:=qh (same1_d t u q r V (NT.o.below hbV) (NU.o.below hbV) LQq.o LQr.o);rw[show decide (t.m=u.m/\q=r)=sb from HSB.o.symm] at S1;have KG:=qk KG hbV;have HV:=qh hV;clear hV hbV
   go_upto_region 7 with (fail)
   rw[show(wr.alloc (.cells #[.bool t.c.t.s,.slice t.c.t.a t.c.t.n t.c.t.c,.bool t.c.l.s,.slice t.c.l.a t.c.l.n t.c.l.c,.int .u16 t.m.x,.int .u16 t.m.y,.int .u16 t.m.z,.int .u16 t.m.t] 71)).alloc (.cells #[.bool u.c.t.s,.slice u.c.t.a u.c.t.n u.c.t.c,.bool u.c.l.s,.slice u.c.l.a u.c.l.n u.c.l.c,.int .u16 u.m.x,.int .u16 u.m.y,.int .u16 u.m.z,.int .u16 u.m.t] 71)=V from HV.o.symm];clear d10 d11 d12 d13 d14 d15 d16 d17 d20 d21 d22 d23 d24 d25 d26 d27;have c10:=B1.o.ce 0;have c11:=B1.o.ce 1;have c12:=B1.o.ce 2;have c13:=B1.o.ce 3;have c14:=B1.o.ce 4;have c15:=B1.o.ce 5;have c16:=B1.o.ce 6;have c17:=B1.o.ce 7;have c20:=B2.o.ce 0;have c21:=B2.o.ce 1;have c22:=B2.o.ce 2;have c23:=B2.o.ce 3;have c24:=B2.o.ce 4;have c25:=B2.o.ce 5;have c26:=B2.o.ce 6;have c27:=B2.o.ce 7;go_wp2_with fail
   with_reducible refine S1.o.mono ?_
   rintro e w1 ⟨rfl,hb⟩;have KG:=qk KG hb;clear hb S1 c10 c11 c12 c13 c14 c15 c16 c17 c20 c21 c22 c23 c24 c25 c26 c27
   rcases Bool.eq_false_or_eq_true sb with rfl | rfl
   ·go_wp2_with fail
    go_roundw
    case rel =>
     exact⟨j+1,by have:=HJN.o;omega,rfl,jhc HAL.o P1.o P2.o HSB.o,KG.o⟩
    case measure=>simp[intOf];have:=HJN.o;omega
   ·go_wp2_with fail
    go_ret;refine⟨by rw[HRES.o,zo (not_same P1.o P2.o HSB.o)];rfl,KG.o⟩
  ·have hge:¬((j:Int)<(xn:Int)):=by omega
   have HJE:=qh (show j=xn by have:=HJ.o;omega);clear hjn;go_wp2_with fail
   go_ret;refine⟨by rw[HRES.o,decide_eq_true (all_same HAL.o (by rw[HJE.o,HXL.o]) (by rw[HJE.o,HYL.o]))];rfl,KG.o⟩
end Pol
namespace Book
open Go.RowKit Go.Sort Go.FreshG Limb Pol
def Qo:List TV->Nat->List HL
 | [],_=>[]
 | t :: r,q=>⟨t.c.t.a,t.c.t.n,t.c.t.c,q⟩ :: ⟨t.c.l.a,t.c.l.n,t.c.l.c,q+1⟩ :: Qo r (q+2)
theorem Zl:∀ (ts:List TV) (q:Nat),(Qo ts q).length=2*ts.length
 | [],_=>rfl
 | t :: r,q=>by
  show(Qo r (q+2)).length+1+1=2*(r.length+1);rw[Zl r (q+2)];omega
theorem YK:∀ (ts:List TV) (t:TV) (q:Nat),Qo (ts++[t]) q=Qo ts q++[⟨t.c.t.a,t.c.t.n,t.c.t.c,q+2*ts.length⟩]++[⟨t.c.l.a,t.c.l.n,t.c.l.c,q+2*ts.length+1⟩]
 | [],t,q=>rfl
 | s :: r,t,q=>by
  show(⟨s.c.t.a,s.c.t.n,s.c.t.c,q⟩:HL) :: ⟨s.c.l.a,s.c.l.n,s.c.l.c,q+1⟩ :: Qo (r++[t]) (q+2)=⟨s.c.t.a,s.c.t.n,s.c.t.c,q⟩ :: ⟨s.c.l.a,s.c.l.n,s.c.l.c,q+1⟩ :: (Qo r (q+2)++[_]++[_]);rw[YK r t (q+2),List.length_cons,show q+2+2*r.length=q+2*(r.length+1) by omega]
theorem RE.Q8 {base:Nat} {w w':World} {b o i:Nat} {t:TV} (h:RE w b o i t) (hk:QL base w w') (hb:b<base):RE w' b o i t :=
 ⟨Nat.lt_of_lt_of_le h.lt hk.bel.size,fun j v hj=>(World.cell?_of_block (a:=⟨b,o+i*8+j,none⟩) (hk.bel.block b hb)).trans (h.cell j v hj)⟩
theorem BkS.term {w:World} {b base q:Nat} {L M:List HL} (h:BkS w b base q L M) (hk:L.length<=29990) (hq:q<=59990) (t:TV) :
  Calls Tryz.prog 45 #[.pointer (some ⟨b,0,none⟩),TV.v t] w (Vl b base (q+2) (fracL L q t.c.t.a t.c.t.n t.c.t.c t.c.l.a t.c.l.n t.c.l.c) M w):=by
 obtain⟨V,hV⟩:∃ V,V=w.alloc (.cells #[.bool t.c.t.s,.slice t.c.t.a t.c.t.n t.c.t.c,.bool t.c.l.s,.slice t.c.l.a t.c.l.n t.c.l.c,.int .u16 t.m.x,.int .u16 t.m.y,.int .u16 t.m.z,.int .u16 t.m.t] 71):=⟨_,rfl⟩;have HS:=qh (show BkS V b base q L M by rw[hV];exact h.alloc _);have HA:=qh (show QL base w V by rw[hV];exact QL.alloc h.hw _);have B3:=qh (show Bxs V w.heap.size 71 [.bool t.c.t.s,.slice t.c.t.a t.c.t.n t.c.t.c,.bool t.c.l.s,.slice t.c.l.a t.c.l.n t.c.l.c,.int .u16 t.m.x,.int .u16 t.m.y,.int .u16 t.m.z,.int .u16 t.m.t] by rw[hV];exact Bxs.new w 71 [.bool t.c.t.s,.slice t.c.t.a t.c.t.n t.c.t.c,.bool t.c.l.s,.slice t.c.l.a t.c.l.n t.c.l.c,.int .u16 t.m.x,.int .u16 t.m.y,.int .u16 t.m.z,.int .u16 t.m.t]);have HV:=qh hV;have K:=qh (HS.o.frac hk hq t.c.t.s t.c.t.a t.c.t.n t.c.t.c t.c.l.s t.c.l.a t.c.l.n t.c.l.c);clear h hk hq hV;change Calls Tryz.prog 45 #[.pointer (some ⟨b,0,none⟩),.agg #[.bool t.c.t.s,.slice t.c.t.a t.c.t.n t.c.t.c,.bool t.c.l.s,.slice t.c.l.a t.c.l.n t.c.l.c,.int .u16 t.m.x,.int .u16 t.m.y,.int .u16 t.m.z,.int .u16 t.m.t]] w _;go_enter Tryz.func45,Tryz.ntmps45
 go_upto_region 1 with (fail)
 rw[show w.alloc (.cells #[.bool t.c.t.s,.slice t.c.t.a t.c.t.n t.c.t.c,.bool t.c.l.s,.slice t.c.l.a t.c.l.n t.c.l.c,.int .u16 t.m.x,.int .u16 t.m.y,.int .u16 t.m.z,.int .u16 t.m.t] 71)=V from HV.o.symm];have c0:=B3.o.ce 0;have c1:=B3.o.ce 1;have c2:=B3.o.ce 2;have c3:=B3.o.ce 3;go_wp2_with fail
 refine K.o.mono ?_;rintro e w1 ⟨⟨r,rfl⟩,h⟩;have H:=qh h;clear h c0 c1 c2 c3;go_wp2_with fail
 (try simp only[Exit.inBlock,Exit.then])
 refine bodyPost_end (results_none rfl _ _ _) rfl ?_;exact⟨⟨_,rfl⟩,H.o.1,HA.o.trans H.o.2⟩
theorem BkS.poly {w:World} {b base q:Nat} {L M:List HL} (h:BkS w b base q L M) (x:PV) (ts:List TV) (hr:RT w x.a ts) (hn:ts.length=x.n) (hfar:∀ p,x.a=some p->p.block<base) (hk:L.length+2*x.n<=29990) (hq:q+2*x.n<=59990) (hm:M.length<=30000) :
  Calls Tryz.prog 23 #[.pointer (some ⟨b,0,none⟩),x.v] w (Vl b base (q+2*x.n+1) (L++Qo ts q) (M++[⟨x.a,x.n,x.c,q+2*x.n⟩]) w):=by
 obtain⟨xa,xn,xc⟩:=x;have HS:=qh h;have HR:=qh (show RT w xa ts from hr);have HN:=qh (show ts.length=xn from hn);have HF:=qh hfar;have HK:=qh (show L.length+2*xn<=29990 from hk);have HQ:=qh (show q+2*xn<=59990 from hq);have HM:=qh hm;clear h hr hn hfar hk hq hm;change Calls Tryz.prog 23 #[.pointer (some ⟨b,0,none⟩),.slice xa xn xc] w _;go_enter Tryz.func23,Tryz.ntmps23;go_wp2_with fail
 go_loopw [4] (fun i wr=>∃ j:Nat,j<=xn/\i=.int .i64 j/\BkS wr b base (q+2*j) (L++Qo (ts.take j) q) M/\QL base w wr) (fun i _=>xn-(intOf i).toNat)
 case atStart=>exact⟨0,Nat.zero_le _,rfl,by simpa[Qo] using HS.o,QL.refl _ _⟩
 case round =>
  obtain⟨j,hj,rfl,hs,hkb⟩:=hrel;have HJ:=qh hj;have HS:=qh hs;have KB:=qh hkb;clear hj hs hkb;by_cases hjn:j<xn
  ·have HJN:=qh hjn
   have hlt:(j:Int)<(xn:Int):=by omega
   obtain⟨t,ht⟩:∃ t,ts[j]?=some t:=⟨_,List.getElem?_eq_getElem (by rw[HN.o];exact hjn)⟩;obtain⟨pb,po,rfl,hre⟩:=HR.o.one (fun e=>by rw[e] at ht;simp at ht);have HT:=qh ht;have E1:=qh (RE.Q8 (hre j t ht) KB.o (HF.o _ rfl));have ek:IntKind.i64.wrap ((j:Int)+1)=(j:Int)+1:=IntWalk.i64_in _ (by have:=HJN.o;have:=HK.o;omega)
   have hll:(ts.take j).length=j:=by rw[List.length_take,HN.o];omega
   have HLL:=qh hll;have CT:=qh (show Calls Tryz.prog 45 #[.pointer (some ⟨b,0,none⟩),.agg #[.bool t.c.t.s,.slice t.c.t.a t.c.t.n t.c.t.c,.bool t.c.l.s,.slice t.c.l.a t.c.l.n t.c.l.c,.int .u16 t.m.x,.int .u16 t.m.y,.int .u16 t.m.z,.int .u16 t.m.t]] wr _ from HS.o.term (by rw[List.length_append,Zl,hll];have:=HJN.o;have:=HK.o;omega) (by have:=HJN.o;have:=HQ.o;omega) t);obtain⟨c0,c1,c2,c3,c4,c5,c6,c7⟩:=E1.o.eight;clear hjn ht hre hll;go_wp2_with fail
   with_reducible refine CT.o.mono ?_
   rintro e w1 ⟨⟨r,rfl⟩,hs,hk⟩
   have HS2:=qh (show BkS w1 b base (q+2*(j+1)) (L++Qo (ts.take (j+1)) q) M by
    rw[List.take_add_one,HT.o];show BkS w1 b base (q+2*(j+1)) (L++Qo (ts.take j++[t]) q) M;rw[YK,HLL.o,<- List.append_assoc,<- List.append_assoc]
    exact hs)
   have KB:=qh (KB.o.trans hk);clear hs hk CT c0 c1 c2 c3 c4 c5 c6 c7;go_wp2_with fail
   go_roundw
   case rel=>exact⟨j+1,HJN.o,rfl,HS2.o,KB.o⟩
   case measure=>simp[intOf];have:=HJN.o;omega
  ·have hge:¬((j:Int)<(xn:Int)):=by omega
   obtain rfl:j=xn:=by have:=HJ.o;omega
   have HAL:=qh (show ts.take j=ts from List.take_of_length_le (by rw[HN.o];exact zj));have HS2:=qh (show BkS wr b base (q+2*j) (L++Qo ts q) M by rw[<- HAL.o];exact HS.o);have K:=qh (HS2.o.keepT HM.o (by have:=HQ.o;omega) xa j xc);clear hjn;go_wp2_with fail
   refine K.o.mono ?_;rintro e w1 ⟨⟨r,rfl⟩,h⟩;have H:=qh h;clear h;go_wp2_with fail
   (try simp only[Exit.inBlock,Exit.then])
   refine bodyPost_end (results_none rfl _ _ _) rfl ?_;exact⟨⟨_,rfl⟩,H.o.1,KB.o.trans H.o.2⟩
end Book
namespace Pol
open Go.RowKit Go.Sort Limb
def moF (m:Mo):Nat->Int:=fun i=>((m.at i:Nat):Int)
theorem ZP {m:Mo} (h:m.Small):Mono.Small (moF m):=fun i _=>⟨Int.natCast_nonneg _,by have:=at_small h i;unfold moF;omega⟩
def Zm (o:Int) (m:Mo):Int:=Mono.KO o (moF m)
theorem jct {a b:Int}:Mono.Ju a b>0↔b<a:=by
 rcases Int.lt_trichotomy a b with h | h | h
 ·rw[Mono.JI h];omega
 ·rw[Mono.JW h];omega
 ·rw[Mono.JL h];omega
def put4 (w:World) (b:Nat) (v0 v1 v2 v3:Value):World:=(((w.setCell ⟨b,0,none⟩ v0).setCell ⟨b,1,none⟩ v1).setCell ⟨b,2,none⟩ v2).setCell ⟨b,3,none⟩ v3
theorem jcu {w:World} {b:Nat} {t:TypeId} {u0 u1 u2 u3:Value} (h:Bxs w b t [u0,u1,u2,u3]) (v0 v1 v2 v3:Value):Bxs (put4 w b v0 v1 v2 v3) b t [v0,v1,v2,v3]:=(((h.put 0 v0).put 1 v1).put 2 v2).put 3 v3
theorem put4_kf {w:World} {b:Nat} {x:FV} {q:Rat} {t:TypeId} {u0 u1 u2 u3:Value} (h:KF w x q) (hb:Bxs w b t [u0,u1,u2,u3]) (n0:XR u0=true) (n1:XR u1=true) (n2:XR u2=true) (n3:XR u3=true) {v0 v1 v2 v3:Value} (m0:XR v0=true) (m1:XR v1=true) (m2:XR v2=true):KF (put4 w b v0 v1 v2 v3) x q :=
 (((h.Jv hb (by simp[n0,n1,n2,n3]) 0 v0).Jv (hb.put 0 v0) (by simp[m0,n1,n2,n3]) 1 v1).Jv ((hb.put 0 v0).put 1 v1) (by simp[m0,m1,n2,n3]) 2 v2).Jv (((hb.put 0 v0).put 1 v1).put 2 v2) (by simp[m0,m1,m2,n3]) 3 v3
theorem Vy {B:Nat} {u w:World} {b:Nat} (h:Below B u w) (hb:B<=b) (v0 v1 v2 v3:Value):Below B u (put4 w b v0 v1 v2 v3):=(((h.setCell hb v0).setCell hb v1).setCell hb v2).setCell hb v3
theorem Vz {q:Rat} {k:Nat} (h:LQ q k):∀ m:Nat,LQ (q ^ m) (m*k+1)
 | 0=>by
  have h1:LQ ((1:Int):Rat) 1:=by constructor <;> decide +kernel
  rw[Rat.pow_zero,Nat.zero_mul,Nat.zero_add]
  exact h1
 | m+1=>by
  rw[Rat.pow_succ];exact((Vz h m).ls.mul h.ls).lq (by rw[Nat.add_mul];omega) (by rw[Nat.add_mul];omega)
structure EF (w:World) (lo:Nat) (x:FV) (q:Rat):Prop where
 t:DN w lo x.t q.num
 l:DN w lo x.l (q.den:Int)
theorem EF.below {w w':World} {lo:Nat} {x:FV} {q:Rat} (h:EF w lo x q) (hb:Below w.heap.size w w'):EF w' lo x q:=⟨h.t.below hb,h.l.below hb⟩
theorem EF.mono {w:World} {lo lo':Nat} {x:FV} {q:Rat} (h:EF w lo x q) (hl:lo'<=lo):EF w lo' x q:=⟨h.t.mono hl,h.l.mono hl⟩
theorem EF.k {w:World} {lo:Nat} {x:FV} {q:Rat} (h:EF w lo x q):KF w x q:=⟨h.t.k,h.l.k⟩
theorem EF.kept {w w':World} {lo:Nat} {x:FV} {q:Rat} (h:EF w lo x q) (hk:∀ b,FV.blk x b->w'.heap[b]?=w.heap[b]?):EF w' lo x q:=⟨h.t.kept fun b hb=>hk b (Or.inl hb),h.l.kept fun b hb=>hk b (Or.inr hb)⟩
theorem EF.Q7 {w:World} {lo:Nat} {x:FV} {q:Rat} (h:EF w lo x q):∀ b,FV.blk x b->lo<=b/\b<w.heap.size:=fun b hb=>hb.elim (h.t.Q7 b) (h.l.Q7 b)
theorem EF.Jv {w:World} {lo:Nat} {x:FV} {q:Rat} (h:EF w lo x q) {g:Nat} {t:TypeId} {l:List Value} (hb:Bxs w g t l) (ht:160≠t) (i:Nat) (v:Value):EF (w.setCell ⟨g,i,none⟩ v) lo x q:=⟨h.t.Jv hb ht i v,h.l.Jv hb ht i v⟩
def RKV (w:World) (q:Rat) (e:Ending) (w':World):Prop:=∃ y:FV,e=.returned y.v/\EF w' w.heap.size y q/\Below w.heap.size w w'
theorem ZO.rkv {w w':World} {q:Rat} {e:Ending} (h:ZO w q.num (q.den:Int) e w'):RKV w q e w':=by
 obtain⟨a1,c1,a2,c2,rfl,o1,o2,hb⟩:=h;exact⟨⟨⟨_,a1,_,c1⟩,⟨_,a2,_,c2⟩⟩,rfl,⟨⟨rfl,rfl,o1⟩,⟨rfl,rfl,o2⟩⟩,hb⟩
theorem raddV {w:World} {x y:FV} {p q:Rat} (h1:AF w x p) (b1:LF x 900000) (h2:AF w y q) (b2:LF y 900000):Calls Tryz.prog 130 #[x.v,y.v] w (RKV w (p+q)):=by
 obtain⟨o1,o2,r1,r2,e1⟩:=h1.ex;obtain⟨o3,o4,r3,r4,e2⟩:=h2.ex
 exact(jgl x.t.s x.t.a x.t.n x.t.c o1 x.l.s x.l.a x.l.n x.l.c o2 y.t.s y.t.a y.t.n y.t.c o3 y.l.s y.l.a y.l.n y.l.c o4 w p q e1.symm e2.symm r1 (by omega) h1.l1 r2 (by omega) h1.l2 r3 (by omega) h2.l1 r4 (by omega) h2.l2).mono fun _ _ h=>ZO.rkv h
theorem rmulV {w:World} {x y:FV} {p q:Rat} (h1:AF w x p) (b1:LF x 900000) (h2:AF w y q) (b2:LF y 900000):Calls Tryz.prog 81 #[x.v,y.v] w (RKV w (p*q)):=by
 obtain⟨o1,o2,r1,r2,e1⟩:=h1.ex;obtain⟨o3,o4,r3,r4,e2⟩:=h2.ex
 exact(jgm x.t.s x.t.a x.t.n x.t.c o1 x.l.s x.l.a x.l.n x.l.c o2 y.t.s y.t.a y.t.n y.t.c o3 y.l.s y.l.a y.l.n y.l.c o4 w p q e1.symm e2.symm r1 (by omega) h1.l1 r2 (by omega) h1.l2 r3 (by omega) h2.l1 r4 (by omega) h2.l2).mono fun _ _ h=>ZO.rkv h
theorem rnegV {w:World} {x:FV} {p:Rat} (h1:AF w x p) (b1:LF x 900000):Calls Tryz.prog 175 #[x.v] w (RKV w (-p)):=by
 obtain⟨o1,o2,r1,r2,e1⟩:=h1.ex
 exact(jgk x.t.s x.t.a x.t.n x.t.c o1 x.l.s x.l.a x.l.n x.l.c o2 w p e1.symm r1 (by omega) h1.l1 r2 (by omega) h1.l2).mono fun _ _ h=>ZO.rkv h
theorem YR {w:World} {x:FV} {p:Rat} (h1:AF w x p) (b1:LF x 900000):Calls Tryz.prog 77 #[x.v] w fun e w'=>e=.returned (.int .i64 (Ju p.num 0))/\Below w.heap.size w w':=by
 obtain⟨o1,o2,r1,r2,e1⟩:=h1.ex;exact jdu x.t.s x.t.a x.t.n x.t.c o1 x.l.s x.l.a x.l.n x.l.c o2 w p e1.symm r1 (by omega) h1.l1 r2 (by omega) h1.l2
theorem rofV (n:Int) (w:World) (h1:-9223372036854775808<=n) (h2:n<=9223372036854775807):Calls Tryz.prog 76 #[.int .i64 n] w (RKV w (n:Rat)) :=
 (jcj n w h1 h2).mono fun _ _ h=>ZO.rkv (q:=(n:Rat)) (by rw[Rat.num_intCast,Rat.den_intCast];exact h)
open Classical in
theorem VA {w:World} {x:FV} {p:Rat} (h1:KF w x p) (b1:LF x 900000):Calls Tryz.prog 128 #[x.v] w fun e w'=>e=.returned (.bool true)/\Below w.heap.size w w':=by
 have h:=XM x.t.s x.t.a x.t.n x.t.c _ x.l.s x.l.a x.l.n x.l.c _ w h1.t.rd (by omega) h1.t.le h1.l.rd (by omega) h1.l.le;rw[decide_eq_true (by rw[h1.t.s,h1.t.n,h1.l.s,h1.l.n];exact Ym p)] at h;exact h
open Classical in
theorem rcheckVB {w:World} {x:FV} (h1:BF w x) (b1:LF x 900000):Calls Tryz.prog 128 #[x.v] w fun e w'=>e=.returned (.bool false)/\Below w.heap.size w w':=by
 obtain⟨o1,o2,r1,r2,hk⟩:=h1.ex;have h:=XM x.t.s x.t.a x.t.n x.t.c o1 x.l.s x.l.a x.l.n x.l.c o2 w r1 (by omega) h1.l1 r2 (by omega) h1.l2;rw[zo hk] at h;exact h
theorem jd7 (o:Int) (a b:Mo) (w:World) (ha:a.Small) (hb:b.Small):Calls Tryz.prog 151 #[.int .u8 o,Mo.v a,Mo.v b] w fun e w'=>e=.returned (.int .i64 (Mono.Ju (Zm o a) (Zm o b)))/\Below w.heap.size w w':=by
 have h:=Mono.rcmp_any o (moF a) (moF b) w (ZP ha) (ZP hb);rw[Mono.cmp_key (o:=o) (ZP ha) (ZP hb)] at h;exact h
theorem VB {a b:Mo} (ha:a.Small) (hb:b.Small):a.lt b↔Zm 0 a<Zm 0 b:=by
 have hk:∀ m:Mo,Zm 0 m=(m.x:Int)*281474976710656+(m.y:Int)*4294967296+(m.z:Int)*65536+(m.t:Int):=fun m=>by
  unfold Zm Mono.KO;rw[if_neg (by decide),if_neg (by decide)];rfl
 obtain⟨a1,a2,a3,a4⟩:=ha;obtain⟨b1,b2,b3,b4⟩:=hb;rw[hk,hk];unfold Mo.lt;omega

end Pol
end Go.Proofs.YtgkkbkoiaccmfaaGreatDoor
