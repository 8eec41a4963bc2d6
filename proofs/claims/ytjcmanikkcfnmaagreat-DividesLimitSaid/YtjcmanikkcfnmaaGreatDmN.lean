/-
  The references' fractions, and their order of products of letters, under one name each.
-/
import Derived.Test.YtjcmanikkcfnmaaGreatDmM
import Derived.Shelf.Spec.SlicesGrow
import Derived.Lib.EndianBits
set_option linter.unusedSimpArgs false
set_option linter.unusedVariables false
set_option maxHeartbeats 16000000
set_option maxRecDepth 100000
namespace Go.Proofs.YtjcmanikkcfnmaaGreat.Pol
open Go.RowKit Go.Sort Go.Proofs.YtjcmanikkcfnmaaGreat.Limb
theorem TV.one (t:TV):∀ u∈t.cells,u.oneCell'=true:=by
 intro u hu;simp only[TV.cells,List.mem_cons,List.mem_nil_iff,or_false] at hu
 rcases hu with rfl | rfl | rfl | rfl | rfl | rfl | rfl | rfl <;> rfl
theorem flat_inv (ts:List TV) (j:Nat) (v:Value) (h:(ts.flatMap TV.cells)[j]?=some v):∃ i k t,j=i*8+k∧ts[i]?=some t∧t.cells[k]?=some v:=by
 have hj:=(List.getElem?_eq_some_iff.1 h).1;rw[flat_len] at hj
 have hi:j/8<ts.length:=by omega
 refine⟨j/8,j%8,ts[j/8],by omega,List.getElem?_eq_getElem hi,?_⟩;rw[← flat_get ts (j/8) (j%8) _ (List.getElem?_eq_getElem hi) (Nat.mod_lt _ (by omega)),show j/8*8+j%8=j by omega];exact h
theorem app_run (w:World) (lo:Nat) (v:Value) (ts us:List TV) (a:Option Addr) (n c ty:Nat) (h:OT w lo v ts) (hr:RT w a us) (hl:us.length=n) (hs:ts.length+us.length≤4000000) (hlo:lo≤w.heap.size) :
  ∃ v' w',(Builtin.append_ #[35,35] ty #[v,.slice a n c]).run Tryz.prog w=.ok v' w'∧OT w' lo v' (ts++us)∧w.grownBy w' v.ownBlock:=by
 obtain⟨i0,hi,hz0,hz1,hz2⟩:=info_parts info8
 cases a with
 | none =>
  have hn:us=[]:=by
   by_cases h0:us=[]
   ·exact h0
   ·obtain⟨b,off,h1,-⟩:=hr.ex h0
    cases h1
  subst hn;obtain rfl:0=n:=hl;refine⟨v,w,?_,by rw[List.append_nil];exact h,rfl,rfl,rfl,Nat.le_refl _,fun _ _ _=>rfl⟩
  rcases h.2 with ⟨rfl,h0⟩ | ⟨g,cap,cur,rfl,_,_,hnc,_⟩
  ·simp[Builtin.append_,run_underlying (P:=Tryz.prog) Tryz.underlying35,sizeOf,typeInfo,hi,Builtin.lenOf,Builtin.firstCells]
  ·simp[Builtin.append_,run_underlying (P:=Tryz.prog) Tryz.underlying35,sizeOf,typeInfo,hi,Builtin.lenOf,Builtin.firstCells,hnc,storeCells]
 | some ad =>
  have hcell:∀ j u,(us.flatMap TV.cells)[j]?=some u→w.cell? (ad.add j)=some u:=fun j u hj=>by
   obtain⟨i,k,t,rfl,h2,h3⟩:=flat_inv us j u hj;obtain⟨b,off,h4,h5⟩:=hr.ex (fun h0=>by rw[h0] at h2;cases h2);obtain rfl:=Option.some.inj h4;have h6:=h5 i t h2 k u h3;rw[Nat.add_assoc] at h6;rw[show(⟨b,off,none⟩:Addr).add (i*8+k)=⟨b,off+(i*8+k),none⟩ by simp[Addr.add]];exact h6
  obtain⟨v',w',h1,h2,h3,-⟩:=run_append_own (P:=Tryz.prog) w lo 35 ty 32 i0 _ 8 72 Tryz.underlying35 hi hz0 hz1 hz2 rfl (by decide) v ts.length (ts.flatMap TV.cells) h ad n c (us.flatMap TV.cells)
   (by rw[flat_len,hl]) hcell (fun u hu=>by obtain⟨t,_,ht⟩:=List.mem_flatMap.1 hu;exact TV.one t u ht) (by rw[← hl];unfold maxLen;omega) (by rw[← hl];omega) hlo
  refine⟨v',w',h1,?_,h3⟩;show w'.ownsRow _ _ _ _ _ _;rw[List.flatMap_append,List.length_append,hl];exact h2
theorem growS_any (n:Nat) (w:World) (hn:n≤4000000):Calls Tryz.prog 76 #[.slice none 0 0,.int .i64 n] w fun e w'=>∃ v,e=.returned v∧OT w' w.heap.size v []∧Below w.heap.size w w':=by
 obtain⟨i0,hi,hz0,hz1,hz2⟩:=info_parts info8
 by_cases h0:n=0
 ·subst h0;refine(Any8.slices_Grow_room (P:=Tryz.prog) (ρ:=Tryz.growT_ren) Tryz.growT none 0 0 0 w (Nat.le_refl _) (by decide) (by decide) (by decide)).mono ?_;rintro e w' ⟨rfl,rfl⟩;exact⟨_,rfl,World.ownsRow_nil _ _ _ _,Below.refl _ _⟩
 ·refine(Any8.slices_Grow_grow (P:=Tryz.prog) (ρ:=Tryz.growT_ren) Tryz.growT i0 _ hi hz0 (by rw[hz1];decide) none 0 0 n [] w (Nat.le_refl _) (by omega) (by rw[hz2];omega) (by omega) (by rw[Nat.zero_mul];rfl) (fun _=>rfl) (fun a h=>by cases h)).mono ?_;rintro e w' ⟨rfl,rfl⟩;obtain⟨G,hG⟩:∃ G,G=grownCap w (0+n) 0 32:=⟨_,rfl⟩
  have h1:0+n≤G:=by rw[hG];exact grownCap_ge _ _ _ _
  have h2:G≤maxLen:=by rw[hG];exact grownCap_le_maxLen _ _ _ _ (by unfold maxLen;omega)
  refine⟨_,rfl,?_,((Below.refl _ _).drew).alloc (Nat.le_refl _) _⟩;change World.ownsRow (w.drew.alloc (.cells _ 32)) w.drew.heap.size 32 8 (.slice (some ⟨w.drew.heap.size,0,none⟩) 0 (grownCap w (0+n) 0 32)) 0 [];rw[← hG];refine World.ownsRow_made w.drew _ G (Nat.le_refl _) h2 ?_;change (_++Builtin.zeroCells _ (grownCap w (0+n) 0 32-(0+n))).size=_;rw[← hG];simp only[Array.size_append,size_zeroCells,Value.cells];simp;omega
theorem conc_any (g:Nat) (Xs:List (PV × List TV)) (w:World) (hc:∀ i e,Xs[i]?=some e→w.cell? ⟨g,i,none⟩=some e.1.v) (hr:∀ e∈Xs,RT w e.1.a e.2∧e.2.length=e.1.n)
  (hs:(Xs.flatMap Prod.snd).length≤4000000) (hn:Xs.length≤1000) :
  Calls Tryz.prog 42 #[.slice (some ⟨g,0,none⟩) Xs.length Xs.length] w fun e w'=>∃ v,e=.returned v∧OT w' w.heap.size v (Xs.flatMap Prod.snd)∧Below w.heap.size w w':=by
 obtain⟨m,hm⟩:∃ m,m=Xs.length:=⟨_,rfl⟩;rw[← hm] at hn ⊢;have HC:=qh hc;have HR:=qh hr;have HS:=qh hs;have HN:=qh hn;have HM:=qh hm
 have HT:=qh (show ∀ j,((Xs.take j).flatMap Prod.snd).length≤4000000 from fun j=>by
  refine Nat.le_trans ?_ hs;have h:=congrArg (fun l=>(l.flatMap Prod.snd).length) (List.take_append_drop j Xs);simp only[List.flatMap_append,List.length_append] at h
  omega)
 have HW:=qh (show ∀ (i:Nat) e,Xs[i]?=some e→(Xs.take (i+1)).flatMap Prod.snd=(Xs.take i).flatMap Prod.snd++e.2 from fun i e he=>by
  rw[List.take_add_one,he];simp)
 clear hc hr hs hn hm;go_enter Tryz.func42,Tryz.ntmps42;go_wp2_with fail
 go_loopw [3,11] (fun s i wr=>∃ j:Nat,j≤m∧i=.int .i64 j∧s=.int .i64 (((Xs.take j).flatMap Prod.snd).length:Nat)∧Below w.heap.size w wr) (fun _ i _=>m-(intOf i).toNat)
 case atStart =>
  exact⟨0,Nat.zero_le _,rfl,rfl,Below.refl _ _⟩
 case round =>
  obtain⟨j,hj,rfl,rfl,hb0⟩:=hrel;have HJ:=qh hj;have KG:=qh hb0;clear hj hb0;obtain⟨z,hz⟩:∃ z,z=((Xs.take j).flatMap Prod.snd).length:=⟨_,rfl⟩;rw[← hz];have HZ:=qh hz;have HZ4:=qh (show z≤4000000 by rw[hz];exact HT.out j);clear hz
  by_cases hjn:j<m
  ·have HJN:=qh hjn;obtain⟨⟨⟨xa,xn,xc⟩,ts⟩,he⟩:∃ e,Xs[j]?=some e:=⟨_,List.getElem?_eq_getElem (by rw[← HM.out];exact hjn)⟩;have HE:=qh he;have c0:=(KG.out.cell (p:=⟨g,j,none⟩) (block_lt_of_cell (HC.out j _ he))).trans (HC.out j _ he);have hxn:ts.length=xn:=(HR.out _ (List.mem_of_getElem? he)).2;have h4:=HT.out (j+1);rw[HW.out j _ he,List.length_append] at h4;have HX4:=qh (show z+xn≤4000000 by rw[HZ.out];change _+ts.length≤_ at h4;omega);have ek:IntKind.i64.wrap ((j:Int)+1)=(j:Int)+1:=IntWalk.i64_in _ (by have:=HJN.out;have:=HN.out;omega);have ez:IntKind.i64.wrap ((z:Int)+(xn:Int))=(z:Int)+(xn:Int):=IntWalk.i64_in _ (by have:=HX4.out;omega)
   have e0:¬((z:Int)+(xn:Int)<0):=by omega
   have HXN:=qh hxn;clear he hxn h4;go_wp2_with fail
   go_roundw
   case rel =>
    refine⟨j+1,by have:=HJN.out;omega,rfl,?_,KG.out⟩;rw[HW.out j _ HE.out,List.length_append,← HZ.out];show Value.int IntKind.i64 ((z:Int)+(xn:Int))=.int .i64 ((z+ts.length:Nat):Int);rw[HXN.out]
    rfl
   case measure=>simp[intOf];have:=HJN.out;omega
  ·have HJE:=qh (show j=m by have:=HJ.out;omega)
   have hge:¬((j:Int)<(m:Int)):=by omega
   have GR:=qh (growS_any z wr HZ4.out);clear hjn;go_wp2_with fail
   with_reducible refine GR.out.mono ?_
   rintro e w1 ⟨v,rfl,ho,hb⟩;have HO:=qh (OT.mono ho KG.out.size);have KG:=qk KG hb;clear ho hb GR hge;go_wp2_with fail
   go_loopw [6,27] (fun s i wr=>∃ j:Nat,j≤m∧i=.int .i64 j∧OT wr w.heap.size s ((Xs.take j).flatMap Prod.snd)∧Below w.heap.size w wr) (fun _ i _=>m-(intOf i).toNat)
   case atStart =>
    exact⟨0,Nat.zero_le _,rfl,HO.out,KG.out⟩
   case round =>
    obtain⟨i,hi,rfl,ho,hb0⟩:=hrel;have HI:=qh hi;have HO:=qh ho;have KG:=qh hb0;clear hi ho hb0
    by_cases hin:i<m
    ·have HIN:=qh hin;obtain⟨⟨⟨xa,xn,xc⟩,ts⟩,he⟩:∃ e,Xs[i]?=some e:=⟨_,List.getElem?_eq_getElem (by rw[← HM.out];exact hin)⟩;have HE:=qh he;have c0:=(KG.out.cell (p:=⟨g,i,none⟩) (block_lt_of_cell (HC.out i _ he))).trans (HC.out i _ he);have hxn:=HR.out _ (List.mem_of_getElem? he);have h4:=HT.out (i+1);rw[HW.out i _ he,List.length_append] at h4;obtain⟨s',w2,hrun,ho,hgw⟩:=app_run _ w.heap.size _ ((Xs.take i).flatMap Prod.snd) ts xa xn xc 35 HO.out (hxn.1.below KG.out) hxn.2 h4 KG.out.size;have HO2:=qh ho;have KG2:=qh (KG.out.grown hgw KG.out.size (fun g hg=>(World.ownsRow.lt HO.out g hg).1));have ek:IntKind.i64.wrap ((i:Int)+1)=(i:Int)+1:=IntWalk.i64_in _ (by have:=HIN.out;have:=HN.out;omega);clear he hxn h4 ho hgw;go_wp2_with (first | (at_builtin;refine wpList_append_run rfl _ _ 35 rfl _ _ rfl rfl _ _ hrun ?_))
     go_roundw
     case rel =>
      refine⟨i+1,by have:=HIN.out;omega,rfl,?_,KG2.out⟩;rw[HW.out i _ HE.out];exact HO2.out
     case measure=>simp[intOf];have:=HIN.out;omega
    ·have HIE:=qh (show i=m by have:=HI.out;omega)
     have hge:¬((i:Int)<(m:Int)):=by omega
     clear hin;go_wp2_with fail
     go_ret;refine⟨_,rfl,?_,KG.out⟩;have h:=HO.out;rw[HIE.out,HM.out,List.take_length] at h;exact h
theorem of_at {w V:World} {x:PV} {P:List Tm} (h:AP w x P) (hV:Below w.heap.size w V) (hq:∀ t∈P,LQ t.2 900000) (hn:x.n≤1000000000):Calls Tryz.prog 31 #[x.v] V fun e w'=>∃ y:PV,e=.returned y.v∧KP w y P∧y.n≤x.n∧Below V.heap.size V w':=by
 rcases h with h | ⟨h,rfl⟩
 ·exact(of_k (h.below hV) hq hn).mono fun e w' ⟨h1,h2⟩=>⟨x,h1,h,Nat.le_refl _,h2⟩
 ·exact(of_b (h.below hV) hn).mono fun e w' ⟨h1,h2⟩=>⟨⟨none,0,0⟩,h1,KP.nil _ _ _,Nat.zero_le _,h2⟩
theorem AP.canon {w:World} {x:PV} {P:List Tm} (h:AP w x P):Canon P:=h.elim (fun h=>h.canon) (fun h=>by rw[h.2];exact Canon.nil)
theorem pair_get {α:Type} {x y:α} {P:α→Prop} (h1:P x) (h2:P y):∀ e∈[x,y],P e:=fun e he=>by
 rcases List.mem_cons.1 he with rfl | he
 ·exact h1
 ·rw[List.mem_singleton.1 he];exact h2
theorem add_any (x y:PV) (P Q:List Tm) (k:Nat) (w:World) (hx:AP w x P) (hy:AP w y Q) (hxn:x.n≤1000000) (hyn:y.n≤1000000) (hp:∀ t∈P,LQ t.2 k) (hq:∀ t∈Q,LQ t.2 k)
  (hk:2*k+2≤900000) (hn:P.length+Q.length≤1000000) :
  Calls Tryz.prog 16 #[x.v,y.v] w fun e w'=>∃ z:PV,e=.returned z.v∧DP w' w.heap.size z (addP P Q)∧Below w.heap.size w w':=by
 have HX:=qh hx;have HY:=qh hy;have HXN:=qh hxn;have HYN:=qh hyn;have HK:=qh hk
 have hall:∀ t∈P++Q,LQ t.2 k:=fun t ht=>(List.mem_append.1 ht).elim (hp t) (hq t)
 have HALL:=qh hall;have HN:=qh hn;have HCF:=qh (show ∀ j m,cf ((P++Q).take j) m=0∨LQ (cf ((P++Q).take j) m) (2*k+2) from fun j m=>add_cf hx.canon hy.canon hp hq j m);have HPQ:=qh (show ∀ t∈P,LQ t.2 900000 from fun t ht=>(hp t ht).up (by omega));have HQQ:=qh (show ∀ t∈Q,LQ t.2 900000 from fun t ht=>(hq t ht).up (by omega))
 have hmm:=fun (t:TypeId) (w:World)=>run_makeMap (P:=Tryz.prog) t w
 obtain⟨xa,xn,xc⟩:=x;obtain⟨ya,yn,yc⟩:=y;change Calls Tryz.prog 16 #[.slice xa xn xc,.slice ya yn yc] w _;clear hx hy hxn hyn hp hq hk hn hall;go_enter Tryz.func16,Tryz.ntmps16
 go_upto_region 2 with (fail)
 clear hmm;obtain⟨V0,hV⟩:∃ V,V=w.alloc (.map #[] 0):=⟨_,rfl⟩
 have hbV:Below w.heap.size w V0:=by rw[hV];exact(Below.refl _ _).alloc (Nat.le_refl _) _
 have HM0:=qh (show MK V0 w.heap.size w.heap.size [] by rw[hV];exact⟨heap_alloc_new w _,Nat.le_refl _,fun e he=>(by cases he),List.Pairwise.nil,List.nodup_nil,fun e he=>(by cases he)⟩);rw[← hV];have KG:=qh hbV;clear hV hbV;have O1:=qh (of_at HX.out KG.out HPQ.out (by have h:xn≤1000000:=HXN.out;show xn≤_;omega));go_wp2_with fail
 with_reducible refine O1.out.mono ?_
 rintro e w1 ⟨⟨pa,pn,pc⟩,he,hp,hpn,hb⟩;obtain rfl:e=.returned (.slice pa pn pc):=he;have HP:=qh hp;have HPN:=qh hpn;have HM1:=qh (HM0.out.below hb);have KG:=qk KG hb;clear hp hpn hb O1 HM0;have O2:=qh (of_at HY.out KG.out HQQ.out (by have h:yn≤1000000:=HYN.out;show yn≤_;omega));go_wp2_with fail
 with_reducible refine O2.out.mono ?_
 rintro e w2 ⟨⟨qa,qn,qc⟩,he,hq,hqn,hb⟩;obtain rfl:e=.returned (.slice qa qn qc):=he;have HQ:=qh hq;have HQN:=qh hqn;have HM2:=qh (HM1.out.below hb);have KG:=qk KG hb;clear hq hqn hb O2 HM1;obtain⟨L1,g1,g2,g3,g4⟩:=HP.out.ex;obtain⟨L2,k1,k2,k3,k4⟩:=HQ.out.ex;have BB:=qh (Bxs.new w2 35 [.slice pa pn pc,.slice qa qn qc]);have hb3:Below w2.heap.size w2 (w2.alloc (.cells #[.slice pa pn pc,.slice qa qn qc] 35)):=(Below.refl _ _).alloc (Nat.le_refl _) _;have HM3:=qh (HM2.out.below hb3);have KG:=qk KG hb3;have HLL:=qh (show(L1++L2).map tm=P++Q by rw[List.map_append,g4,k4]);have HKF:=qh (show ∀ e∈L1++L2,KF w e.1.c e.2 from fun e he=>(List.mem_append.1 he).elim (g3 e) (k3 e));have HLN:=qh (show L1.length+L2.length≤2000000 by have h1:=HPN.out;have h2:=HXN.out;have h3:=HQN.out;have h4:=HYN.out;change pn≤xn at h1;change xn≤_ at h2;change qn≤yn at h3;change yn≤_ at h4;change L1.length=pn at g2;change L2.length=qn at k2;omega)
 have CC:=qh (show Calls Tryz.prog 42 #[.slice (some ⟨w2.heap.size,0,none⟩) 2 2] (w2.alloc (.cells #[.slice pa pn pc,.slice qa qn qc] 35)) _ from conc_any w2.heap.size [(⟨pa,pn,pc⟩,L1.map Prod.fst),(⟨qa,qn,qc⟩,L2.map Prod.fst)] (w2.alloc (.cells #[.slice pa pn pc,.slice qa qn qc] 35)) (fun i e he=>by
   match i,he with
   | 0,he=>obtain rfl:=Option.some.inj he;exact BB.out.cell (i:=0) rfl
   | 1,he=>obtain rfl:=Option.some.inj he;exact BB.out.cell (i:=1) rfl)
  (pair_get ⟨g1.below KG.out,by rw[List.length_map];exact g2⟩ ⟨k1.below KG.out,by rw[List.length_map];exact k2⟩) (by simp;have:=HLN.out;omega) (by simp))
 have HF:=qh (show(([(⟨pa,pn,pc⟩,L1.map Prod.fst),(⟨qa,qn,qc⟩,L2.map Prod.fst)]:List (PV × List TV)).flatMap Prod.snd)=(L1++L2).map Prod.fst by simp);have HLEN:=qh (show(L1++L2).length≤2000000 by rw[List.length_append];exact HLN.out);obtain⟨L,hL⟩:∃ L,L=L1++L2:=⟨_,rfl⟩;rw[← hL] at HLL HKF HF HLEN;clear g1 g2 g3 g4 k1 k2 k3 k4 hL hb3 HM2;go_wp2_with fail
 with_reducible refine CC.out.mono ?_
 rintro e w3 ⟨v,rfl,ho,hb⟩;rw[HF.out] at ho;have HO3:=qh (OT.mono ho KG.out.size);have HM4:=qh (HM3.out.below hb);have KG:=qk KG hb;clear ho hb CC HM3 BB;obtain⟨ra,rc,rfl,-,-⟩:=OT.slice HO3.out;obtain⟨rn,hrn⟩:∃ n,n=(L.map Prod.fst).length:=⟨_,rfl⟩;rw[← hrn] at HO3 ⊢;have HRN:=qh (show L.length=rn by rw[hrn,List.length_map]);clear hrn;go_wp2_with fail
 go_loopw [16] (fun i wr=>∃ (j:Nat) (M:List TE),j≤rn∧i=.int .i64 j∧MK wr w.heap.size w.heap.size M∧(∀ f,ev (M.map tm) f=ev ((L.take j).map tm) f)∧M.length≤j∧OT wr w.heap.size (.slice ra rn rc) (L.map Prod.fst)∧Below w.heap.size w wr) (fun i _=>rn-(intOf i).toNat)
 case atStart =>
  exact⟨0,[],Nat.zero_le _,rfl,HM4.out,fun f=>(by rw[List.take_zero]),Nat.le_refl _,HO3.out,KG.out⟩
 case round =>
  obtain⟨j,M,hj,rfl,hM,hev,hml,ho,hb0⟩:=hrel;have HJ:=qh hj;have HM:=qh hM;have HEV:=qh hev;have HML:=qh hml;have HO:=qh ho;have KG:=qh hb0;clear hj hM hev hml ho hb0;have HLP:=qh (show L.length=P.length+Q.length by have h:=congrArg List.length HLL.out;rw[List.length_map,List.length_append] at h;exact h)
  have HLK:=qh (show ∀ e∈M,LQ e.2 900000 from fun e he=>by
   refine like_lq (l:=M.map tm) (L:=(L.take j).map tm) ?_ HEV.out (fun m=>?_) HK.out (tm e) (List.mem_map_of_mem he)
   ·have h:=HM.out.keys;rw[List.map_map];exact h
   ·rw[List.map_take,HLL.out];exact HCF.out j m)
  by_cases hjn:j<rn
  ·have HJN:=qh hjn
   have hjl:j<L.length:=by rw[HRN.out];exact hjn
   obtain⟨ra',rc',e1,-,hrt⟩:=OT.slice HO.out
   obtain⟨rfl,-,rfl⟩:ra=ra'∧rn=_∧rc=rc':=by simpa only[Value.slice.injEq] using e1
   obtain⟨pb,po,rfl,hpb,hcs⟩:=hrt.off (i:=j) (by rw[List.length_map];exact hjl);obtain⟨e,he⟩:∃ e,L[j]?=some e:=⟨_,List.getElem?_eq_getElem hjl⟩;obtain⟨t,q⟩:=e;obtain⟨c0,c1,c2,c3,c4,c5,c6,c7⟩:=RT.eight hcs (i:=j) (t:=t) (by rw[List.getElem?_map,he];rfl);have HE:=qh he;have hmem:=List.mem_of_getElem? he;clear hcs he hpb hjl hrt e1
   go_upto_region 5 with (fail)
   obtain⟨V,hV⟩:∃ V,V=wr.alloc (.cells #[.bool t.c.t.s,.slice t.c.t.a t.c.t.n t.c.t.c,.bool t.c.l.s,.slice t.c.l.a t.c.l.n t.c.l.c,.int .u16 t.m.x,.int .u16 t.m.y,.int .u16 t.m.z,.int .u16 t.m.t] 32):=⟨_,rfl⟩
   have hbV:Below wr.heap.size wr V:=by rw[hV];exact(Below.refl _ _).alloc (Nat.le_refl _) _
   have B7:=qh (show Bxs V wr.heap.size 32 [.bool t.c.t.s,.slice t.c.t.a t.c.t.n t.c.t.c,.bool t.c.l.s,.slice t.c.l.a t.c.l.n t.c.l.c,.int .u16 t.m.x,.int .u16 t.m.y,.int .u16 t.m.z,.int .u16 t.m.t] by rw[hV];exact Bxs.new wr 32 [.bool t.c.t.s,.slice t.c.t.a t.c.t.n t.c.t.c,.bool t.c.l.s,.slice t.c.l.a t.c.l.n t.c.l.c,.int .u16 t.m.x,.int .u16 t.m.y,.int .u16 t.m.z,.int .u16 t.m.t]);obtain⟨A7,hA7⟩:∃ A,A=wr.heap.size:=⟨_,rfl⟩;rw[← hV,← hA7];rw[← hA7] at B7;have HM:=qh (HM.out.below hbV);have HO:=qh (OT.below HO.out hbV);have KG:=qk KG hbV;have NF:=qh (show KF V t.c q from(HKF.out _ hmem).below KG.out)
   have hpq:(t.m,q)∈P++Q:=by rw[← HLL.out];exact List.mem_map_of_mem hmem
   have HQ1:=qh (show LQ q k from HALL.out _ hpq);have LQq:=qh (show LQ q 900000 from HQ1.out.up (by have:=HK.out;omega));have HS1:=qh (show t.m.Small from(List.mem_append.1 hpq).elim (HP.out.small _) (HQ.out.small _));have HSZ:=qh (show w.heap.size≤V.heap.size from KG.out.size);have ek:IntKind.i64.wrap ((j:Int)+1)=(j:Int)+1:=IntWalk.i64_in _ (by have:=HJN.out;have:=HRN.out;have:=HLEN.out;omega);clear hV hbV hA7 hmem hpq c0 c1 c2 c3 c4 c5 c6 c7 hjn;have HMV:=qh (show ∀ e∈M,∀ b,FV.blk e.1.c b→b<V.heap.size from fun e he b hb=>((HM.out.df e he).blks b hb).2);obtain⟨q101,hq101⟩:∃ z:Rat,z=((1:Int):Rat):=⟨_,rfl⟩;have Hq101:=qh hq101;have LQq101:=qh (show LQ q101 3 by rw[hq101];exact LQ.int (by decide) (by decide));clear hq101;obtain⟨q102,hq102⟩:∃ z:Rat,z=q*q101:=⟨_,rfl⟩;have Hq102:=qh hq102;have LQq102:=qh (show LQ q102 1800000 by rw[hq102];exact LQ.mul (LQq.out.up (by decide:_≤900000)) (LQq101.out.up (by decide:_≤900000)) (by decide));clear hq102
   go_upto_region 5 with (fail)
   refine FS.wp_region_fresh 7 [] (FS.spOf [(3,FS.Sp.made (fun x:FV=>x.v) (fun x w'=>DF w' V.heap.size x q101) FV.blk),(4,FS.Sp.made (fun x:FV=>x.v) (fun x w'=>DF w' V.heap.size x q102) FV.blk)])
    (fun w'=>Below V.heap.size V w') (by kernel_rfl) (by kernel_rfl) (by kernel_rfl)
    (FS.spOf_cons (FS.Sp.made_keeps _ (fun _ _ _ h _ hk=>h.kept hk) (FS.notTaken (by kernel_rfl))) (FS.spOf_cons (FS.Sp.made_keeps _ (fun _ _ _ h _ hk=>h.kept hk) (FS.notTaken (by kernel_rfl))) (FS.spOf_nil))) (fun _ _ h hb=>h.trans (hb.mono h.size)) ((Below.refl _ _).drew) ?_
   simp only[List.append_eq,List.cons_append,List.nil_append,List.take_succ_cons,List.take_zero,List.drop_succ_cons,List.drop_zero]
   iterate 3
    refine FS.wpF_reads rfl rfl rfl ?_ (fun w' hw'=>?_) ?_;rotate_left
    ·have hb':=hw'.world;have hs0:=(B7.out.below hb' B7.out.lt).cell (i:=0) rfl;have hs1:=(B7.out.below hb' B7.out.lt).cell (i:=1) rfl;have hs2:=(B7.out.below hb' B7.out.lt).cell (i:=2) rfl;have hs3:=(B7.out.below hb' B7.out.lt).cell (i:=3) rfl;have hs4:=(B7.out.below hb' B7.out.lt).cell (i:=4) rfl;have hs5:=(B7.out.below hb' B7.out.lt).cell (i:=5) rfl;have hs6:=(B7.out.below hb' B7.out.lt).cell (i:=6) rfl;have hs7:=(B7.out.below hb' B7.out.lt).cell (i:=7) rfl;have hsf:=(B7.out.below hb' B7.out.lt).fz;have hsl:=(B7.out.below hb' B7.out.lt).lt;clear hw';go_simp
     try rfl
    conv=>arg 10;simp only[Act.put,zq0,zq1,zq2]
   refine FS.wpF_spec rfl rfl rfl (fun w' hw'=>?_) ?_
   ·have hb':=hw'.world;refine FS.gives_of (FS.PM (fun x:FV=>x.v) (fun x w'=>DF w' V.heap.size x q101) FV.blk w'.heap.size) ?_ (fun _ _ h=>h.post (fun _ _=>FV.inj));go_simp;have CT:=qof 1 w' (by decide) (by decide);rw[show((1:Int):Rat)=q101 from Hq101.out.symm] at CT;refine CT.mono ?_;rintro e w'' ⟨za,rfl,ho,hb⟩;exact⟨_,rfl,⟨za,rfl,ho.mono hb'.size,ho.blks⟩,hb⟩
   rintro _ ⟨y3,rfl⟩
   conv=>arg 10;simp only[Act.put,zq0,zq1,zq2]
   refine FS.wpF_spec rfl rfl rfl (fun w' hw'=>?_) ?_
   ·have hb':=hw'.world;refine FS.gives_of (FS.PM (fun x:FV=>x.v) (fun x w'=>DF w' V.heap.size x q102) FV.blk w'.heap.size) ?_ (fun _ _ h=>h.post (fun _ _=>FV.inj));go_simp;have f3:=FS.made_of (val:=(fun x:FV=>x.v)) (Φ:=fun x w'=>DF w' V.heap.size x q101) (fun _ _=>FV.inj) (hw'.fact 3 (by kernel_rfl));have CT:=qmul ((NF.out.below hb')).any (((NF.out.below hb')).len LQq.out (by decide:_≤900000)) (f3).k.any (((f3).k).len LQq101.out (by decide:_≤900000));rw[show q*q101=q102 from Hq102.out.symm] at CT;refine CT.mono ?_;rintro e w'' ⟨za,rfl,ho,hb⟩;exact⟨_,rfl,⟨za,rfl,ho.mono hb'.size,ho.blks⟩,hb⟩
   rintro _ ⟨y4,rfl⟩
   conv=>arg 10;simp only[Act.put,zq0,zq1,zq2]
   iterate 2
    refine FS.wpF_reads rfl rfl rfl ?_ (fun w' hw'=>?_) ?_;rotate_left
    ·have hb':=hw'.world;have hs0:=(B7.out.below hb' B7.out.lt).cell (i:=0) rfl;have hs1:=(B7.out.below hb' B7.out.lt).cell (i:=1) rfl;have hs2:=(B7.out.below hb' B7.out.lt).cell (i:=2) rfl;have hs3:=(B7.out.below hb' B7.out.lt).cell (i:=3) rfl;have hs4:=(B7.out.below hb' B7.out.lt).cell (i:=4) rfl;have hs5:=(B7.out.below hb' B7.out.lt).cell (i:=5) rfl;have hs6:=(B7.out.below hb' B7.out.lt).cell (i:=6) rfl;have hs7:=(B7.out.below hb' B7.out.lt).cell (i:=7) rfl;have hsf:=(B7.out.below hb' B7.out.lt).fz;have hsl:=(B7.out.below hb' B7.out.lt).lt;clear hw';go_simp
     try rfl
    conv=>arg 10;simp only[Act.put,zq0,zq1,zq2]
   refine FS.wpF_nil (fun w103 hb hF=>?_);have N104:=qh (show DF w103 V.heap.size y4 q102 from(FS.made_of (val:=(fun x:FV=>x.v)) (Φ:=fun x w'=>DF w' V.heap.size x q102) (fun _ _=>FV.inj) (hF.all 4)));clear hF;have NF:=qh (NF.out.below hb);have HM:=qh (HM.out.below hb);have HO:=qh (HO.out.below hb);have B7:=qh (B7.out.below hb B7.out.lt);have KG:=qk KG hb;clear hb;have HAP:=qh (show ∀ e∈M,FV.apart e.1.c y4 from fun e he b hb1 hb2=>Nat.not_lt_of_le (N104.out.blks b hb2).1 (HMV.out e he b hb1));have AD:=qh (add_likes w.heap.size w.heap.size M y4 q t.m w103 HM.out (show DF w103 w.heap.size y4 q by have h:=N104.out.mono HSZ.out;rwa [show q102=q by rw[Hq102.out,Hq101.out];grind] at h) HAP.out HS1.out LQq.out HLK.out KG.out.size);go_wp2_with fail
   with_reducible refine AD.out.mono ?_
   rintro e w9 ⟨rfl,⟨M',hM',hv'⟩,hOn⟩;have HM':=qh hM';have HV':=qh hv';have HO:=qh (show OT w9 w.heap.size _ (L.map Prod.fst) from OT.only HO.out hOn (fun cur h=>by rw[HM.out.blk] at h;cases h));have KG:=qh (Only.bel KG.out hOn (Nat.le_refl _) KG.out.size);clear hM' hv' hOn AD;go_wp2_with fail
   go_roundw
   case rel =>
    refine⟨j+1,M',by have:=HJN.out;omega,rfl,HM'.out,fun f=>?_,?_,HO.out,KG.out⟩
    ·rw[HV'.out,ev_putT,HEV.out,List.take_add_one,HE.out,List.map_append,ev_append];show _=_+(q*f t.m+0)
     grind
    ·have h1:=congrArg List.length HV'.out;have h2:=putT_len t.m q (M.map tm);rw[List.length_map] at h1 h2;have:=HML.out;omega
   case measure=>simp[intOf];have:=HJN.out;omega
  ·have HJE:=qh (show j=rn by have:=HJ.out;omega)
   have hge:¬((j:Int)<(rn:Int)):=by omega
   have SM:=qh (sum_likes w.heap.size w.heap.size M wr HM.out HLK.out KG.out.size (by have h1:=HML.out;have h2:=HJ.out;have h3:=HRN.out;have h4:=HLP.out;have h5:=HN.out;omega));clear hjn;go_wp2_with fail
   with_reducible refine SM.out.mono ?_
   rintro e w9 ⟨z,rfl,hz,hb⟩;have HZ:=qh hz;have KG:=qk KG hb;clear hz hb SM;go_wp2_with fail
   go_ret;refine⟨z,rfl,?_,KG.out⟩
   have e1:nf (M.map tm)=addP P Q:=nf_of_ev fun f=>by
    rw[HEV.out,List.take_of_length_le (by rw[HRN.out,HJE.out];exact Nat.le_refl _),HLL.out]
   rw[← e1];exact HZ.out
theorem lq_neg:LQ ((-1:Int):Rat) 3:=LQ.int (by decide) (by decide)
theorem psub_any (x y:PV) (P Q:List Tm) (k n:Nat) (w:World) (hx:AP w x P) (hy:AP w y Q) (hxn:x.n≤1000000) (hyn:y.n≤1000000) (hp:∀ t∈P,LQ t.2 k) (hq:PB Q n k 65535)
  (hk:2*k+8≤900000) (hkk:n*(k+4)≤900000) (hn:P.length+n≤1000000) :
  Calls Tryz.prog 17 #[x.v,y.v] w fun e w'=>∃ z:PV,e=.returned z.v∧DP w' w.heap.size z (subP P Q)∧Below w.heap.size w w':=by
 have HX:=qh hx;have HY:=qh hy;have HXN:=qh hxn;have HYN:=qh hyn;have HP:=qh hp;have HQ:=qh hq;have HK:=qh hk;have HKK:=qh hkk;have HN:=qh hn;have OF:=qh (qof (-1) w (by decide) (by decide));obtain⟨xa,xn,xc⟩:=x;obtain⟨ya,yn,yc⟩:=y;change Calls Tryz.prog 17 #[.slice xa xn xc,.slice ya yn yc] w _;clear hx hy hxn hyn hp hq hk hkk hn;go_enter Tryz.func17,Tryz.ntmps17;go_wp2_with fail
 with_reducible refine OF.out.mono ?_
 rintro e w1 ⟨c,rfl,hc,hb⟩;have HC:=qh hc;have KG:=qh hb;clear hc hb OF;have SC:=qh (scale_any ⟨ya,yn,yc⟩ Q c ((-1:Int):Rat) k n 3 w1 (HY.out.below KG.out) HQ.out HYN.out HC.out.k.any ((HC.out.k).len lq_neg (by decide)) lq_neg (by have:=HK.out;omega) HKK.out);go_wp2_with fail
 with_reducible refine SC.out.mono ?_
 rintro e w2 ⟨⟨za,zn,zc⟩,he,hz,hb⟩;obtain rfl:e=.returned (.slice za zn zc):=he;have HZ:=qh (show DP w2 w1.heap.size ⟨za,zn,zc⟩ (scaleP (-1) Q) from by rw[show((-1:Rat))=((-1:Int):Rat) by decide +kernel];exact hz);have KG:=qk KG hb;clear hz hb SC;have hPS:=PB.scale HY.out.canon HQ.out (c:=(-1:Rat)) (k2:=3) (by rw[show((-1:Rat))=((-1:Int):Rat) by decide +kernel];exact lq_neg);have hzl:=HZ.out.k.len;have h1:=hPS.len;have AD:=qh (add_any ⟨xa,xn,xc⟩ ⟨za,zn,zc⟩ P (scaleP (-1) Q) (k+3) w2 (HX.out.below KG.out) HZ.out.k.any HXN.out (by have:=HN.out;omega) (fun t ht=>(HP.out t ht).up (by omega)) hPS.lq (by have:=HK.out;omega) (by have:=HN.out;omega));clear hPS hzl h1;go_wp2_with fail
 with_reducible refine AD.out.mono ?_
 rintro e w3 ⟨z,rfl,hz,hb⟩;have HR:=qh (hz.mono KG.out.size);have KG:=qk KG hb;clear hz hb AD;go_wp2_with fail
 go_ret;exact⟨z,rfl,HR.out,KG.out⟩
theorem mono_mul (a b:Mo) (w:World) (h:(a.mul b).Small):Calls Tryz.prog 39 #[Mo.v a,Mo.v b] w fun e w'=>e=.returned (.tuple #[Mo.v (a.mul b),.int .i64 0])∧Below w.heap.size w w':=by
 obtain⟨h1,h2,h3,h4⟩:=h;change a.x+b.x≤65535 at h1;change a.y+b.y≤65535 at h2;change a.z+b.z≤65535 at h3;change a.t+b.t≤65535 at h4
 have hs:∀ m:Mo,m.Small→Mono.Small (fun i=>((m.at i:Nat):Int)):=fun m hm i hi=>by
  obtain⟨g1,g2,g3,g4⟩:=hm
  match i,hi with
  | 0,_=>exact⟨Int.natCast_nonneg _,by show(m.x:Int)≤_;omega⟩
  | 1,_=>exact⟨Int.natCast_nonneg _,by show(m.y:Int)≤_;omega⟩
  | 2,_=>exact⟨Int.natCast_nonneg _,by show(m.z:Int)≤_;omega⟩
  | 3,_=>exact⟨Int.natCast_nonneg _,by show(m.t:Int)≤_;omega⟩
 have hB:Mono.mulB (fun i=>((a.at i:Nat):Int)) (fun i=>((b.at i:Nat):Int))=true:=decide_eq_true (by
  show(a.x:Int)+b.x≤65535∧(a.y:Int)+b.y≤65535∧(a.z:Int)+b.z≤65535∧(a.t:Int)+b.t≤65535
  omega)
 refine(Mono.mul_any (fun i=>((a.at i:Nat):Int)) (fun i=>((b.at i:Nat):Int)) w (hs a ⟨by omega,by omega,by omega,by omega⟩) (hs b ⟨by omega,by omega,by omega,by omega⟩)).mono ?_;rintro e w' ⟨rfl,hb⟩;refine⟨?_,hb⟩;unfold Mono.mulE Mono.mulM;simp only[hB,if_true]
 rfl
theorem mono_mulX (a b:Mo) (w:World) (ha:a.Small) (hb:b.Small) (h:¬(a.mul b).Small):Calls Tryz.prog 39 #[Mo.v a,Mo.v b] w fun e w'=>e=.returned (.tuple #[.agg #[.int .u16 0,.int .u16 0,.int .u16 0,.int .u16 0],.int .i64 3])∧Below w.heap.size w w':=by
 have hs:∀ m:Mo,m.Small→Mono.Small (fun i=>((m.at i:Nat):Int)):=fun m hm i hi=>by
  obtain⟨g1,g2,g3,g4⟩:=hm
  match i,hi with
  | 0,_=>exact⟨Int.natCast_nonneg _,by show(m.x:Int)≤_;omega⟩
  | 1,_=>exact⟨Int.natCast_nonneg _,by show(m.y:Int)≤_;omega⟩
  | 2,_=>exact⟨Int.natCast_nonneg _,by show(m.z:Int)≤_;omega⟩
  | 3,_=>exact⟨Int.natCast_nonneg _,by show(m.t:Int)≤_;omega⟩
 have hB:Mono.mulB (fun i=>((a.at i:Nat):Int)) (fun i=>((b.at i:Nat):Int))=false:=decide_eq_false (by
  show ¬((a.x:Int)+b.x≤65535∧(a.y:Int)+b.y≤65535∧(a.z:Int)+b.z≤65535∧(a.t:Int)+b.t≤65535);intro h2;refine h ⟨?_,?_,?_,?_⟩
  ·show a.x+b.x≤65535;omega
  ·show a.y+b.y≤65535;omega
  ·show a.z+b.z≤65535;omega
  ·show a.t+b.t≤65535;omega)
 refine(Mono.mul_any (fun i=>((a.at i:Nat):Int)) (fun i=>((b.at i:Nat):Int)) w (hs a ha) (hs b hb)).mono ?_;rintro e w' ⟨rfl,hb⟩;refine⟨?_,hb⟩;unfold Mono.mulE Mono.mulM;simp only[hB]
 rfl
def Ovf (P Q:List Tm):Prop:=∃ s∈P,∃ t∈Q,¬(s.1.mul t.1).Small
def MulR (w:World) (P Q:List Tm) (e:Ending) (w':World):Prop :=
 (∃ z:PV,e=.returned (.tuple #[z.v,.int .i64 0])∧¬Ovf P Q∧DP w' w.heap.size z (mulP P Q)∧Below w.heap.size w w')∨(e=.returned (.tuple #[.slice none 0 0,.int .i64 3])∧Ovf P Q∧Below w.heap.size w w')
theorem Bxs.only {w w':World} {b g:Nat} {t:TypeId} {l:List Value} {es:Array MapEntry} {k:Nat} (h:Bxs w g t l) (ho:Only b w w') (hm:w.heap[b]?=some (.map es k)):Bxs w' g t l :=
 h.of (ho.2.2.2.2 g h.lt fun e=>by subst e;have h2:w.heap[g]?=some (.cells l.toArray t (0,0)):=h;rw[hm] at h2;cases h2)
theorem mul_g (x y:PV) (P Q:List Tm) (k1 k2:Nat) (w:World) (hx:KP w x P) (hy:KP w y Q) (hp:∀ t∈P,LQ t.2 k1) (hq:∀ t∈Q,LQ t.2 k2) (hk:k1+k2≤900000)
  (hc:∀ (i:Nat) (s:Tm) (j:Nat) (m:Mo),P[i]?=some s→cf (mulL (P.take i) Q++rowL s (Q.take j)) m=0∨LQ (cf (mulL (P.take i) Q++rowL s (Q.take j)) m) 900000)
  (hd:∀ (i:Nat) (m:Mo),cf (mulL (P.take i) Q) m=0∨LQ (cf (mulL (P.take i) Q) m) 900000)
  (hn:P.length*Q.length≤1000000) (hpn:P.length≤1000000) (hqn:Q.length≤1000000) :
  Calls Tryz.prog 15 #[x.v,y.v] w (MulR w P Q):=by
 have HX:=qh hx;have HY:=qh hy;have HP:=qh hp;have HQ:=qh hq;have HK:=qh hk;have HC:=qh hc;have HD:=qh hd;have HN:=qh hn;have HPN:=qh hpn;have HQN:=qh hqn;have hxl:=hx.len;have hyl:=hy.len
 have hmm:=fun (t:TypeId) (w:World)=>run_makeMap (P:=Tryz.prog) t w
 have C1:=qh (check_k hx (fun t ht=>(hp t ht).up (by omega)) (by omega));obtain⟨xa,xn,xc⟩:=x;obtain⟨ya,yn,yc⟩:=y;change Calls Tryz.prog 15 #[.slice xa xn xc,.slice ya yn yc] w _;change xn=P.length at hxl;change yn=Q.length at hyl;have HXL:=qh hxl;have HYL:=qh hyl;obtain⟨L1,g1,g2,g3,g4⟩:=hx.ex;obtain⟨L2,k3,k4,k5,k6⟩:=hy.ex;have R1:=qh g1;have R2:=qh k3;have F1:=qh g3;have F2:=qh k5;have T1:=qh g4;have T2:=qh k6;have N1:=qh (show L1.length=xn from g2);have N2:=qh (show L2.length=yn from k4);clear hx hy hp hq hk hc hd hn hpn hqn hxl hyl g1 g2 g3 g4 k3 k4 k5 k6;go_enter Tryz.func15,Tryz.ntmps15;go_wp2_with fail
 with_reducible refine C1.out.mono ?_
 rintro e w1 ⟨rfl,hb⟩;have KG:=qh hb;clear hb C1;have C2:=qh (check_k (HY.out.below KG.out) (fun t ht=>(HQ.out t ht).up (by have:=HK.out;omega)) (by have h:=HYL.out;have:=HQN.out;show yn≤_;omega));go_wp2_with fail
 with_reducible refine C2.out.mono ?_
 rintro e w2 ⟨rfl,hb⟩;have KG:=qk KG hb;clear hb C2
 go_upto_region 4 with (fail)
 obtain⟨V0,hV⟩:∃ V,V=w2.alloc (.map #[] 0):=⟨_,rfl⟩
 have hbV:Below w2.heap.size w2 V0:=by rw[hV];exact(Below.refl _ _).alloc (Nat.le_refl _) _
 obtain⟨b,hb⟩:∃ b,b=w2.heap.size:=⟨_,rfl⟩;have HM0:=qh (show MK V0 w.heap.size b [] by rw[hV,hb];exact⟨heap_alloc_new w2 _,KG.out.size,fun e he=>(by cases he),List.Pairwise.nil,List.nodup_nil,fun e he=>(by cases he)⟩);rw[← hV,← hb];have HB:=qh (show w.heap.size≤b by rw[hb];exact KG.out.size);have KG:=qk KG hbV;clear hV hbV hmm hb;go_wp2_with fail
 go_loopw [24] (fun i wr=>∃ (j:Nat) (M:List TE),j≤xn∧i=.int .i64 j∧MK wr w.heap.size b M∧(∀ f,ev (M.map tm) f=ev (mulL (P.take j) Q) f)∧M.length≤j*Q.length∧(∀ s∈P.take j,∀ u∈Q,(s.1.mul u.1).Small)∧Below w.heap.size w wr) (fun i _=>xn-(intOf i).toNat)
 case atStart =>
  exact⟨0,[],Nat.zero_le _,rfl,HM0.out,fun f=>(by rw[List.take_zero];rfl),by simp,(fun s hs=>by rw[List.take_zero] at hs;cases hs),KG.out⟩
 case round =>
  obtain⟨j,M,hj,rfl,hM,hev,hml,hso,hb0⟩:=hrel;have HSO:=qh hso;have HJ:=qh hj;have HM:=qh hM;have HEV:=qh hev;have HML:=qh hml;have KG:=qh hb0;clear hj hM hev hml hso hb0
  by_cases hjn:j<xn
  ·have HJN:=qh hjn
   have hjl:j<L1.length:=by rw[N1.out];exact hjn
   obtain⟨pb,po,rfl,hpb,hcs⟩:=(R1.out.below KG.out).off (i:=j) (by rw[List.length_map];exact hjl);obtain⟨e,he⟩:∃ e,L1[j]?=some e:=⟨_,List.getElem?_eq_getElem hjl⟩;obtain⟨t,q⟩:=e;obtain⟨c0,c1,c2,c3,c4,c5,c6,c7⟩:=RT.eight hcs (i:=j) (t:=t) (by rw[List.getElem?_map,he];rfl);have hmem:=List.mem_of_getElem? he;have HPJ:=qh (show P[j]?=some (t.m,q) by rw[← T1.out,List.getElem?_map,he];rfl);have NT:=qh (show KF w t.c q from F1.out _ hmem);clear hcs he hpb hjl hmem
   go_upto_region 7 with (fail)
   obtain⟨V,hV⟩:∃ V,V=wr.alloc (.cells #[.bool t.c.t.s,.slice t.c.t.a t.c.t.n t.c.t.c,.bool t.c.l.s,.slice t.c.l.a t.c.l.n t.c.l.c,.int .u16 t.m.x,.int .u16 t.m.y,.int .u16 t.m.z,.int .u16 t.m.t] 32):=⟨_,rfl⟩
   have hbV:Below wr.heap.size wr V:=by rw[hV];exact(Below.refl _ _).alloc (Nat.le_refl _) _
   have B8:=qh (show Bxs V wr.heap.size 32 [.bool t.c.t.s,.slice t.c.t.a t.c.t.n t.c.t.c,.bool t.c.l.s,.slice t.c.l.a t.c.l.n t.c.l.c,.int .u16 t.m.x,.int .u16 t.m.y,.int .u16 t.m.z,.int .u16 t.m.t] by rw[hV];exact Bxs.new wr 32 [.bool t.c.t.s,.slice t.c.t.a t.c.t.n t.c.t.c,.bool t.c.l.s,.slice t.c.l.a t.c.l.n t.c.l.c,.int .u16 t.m.x,.int .u16 t.m.y,.int .u16 t.m.z,.int .u16 t.m.t]);obtain⟨A8,hA8⟩:∃ A,A=wr.heap.size:=⟨_,rfl⟩;rw[← hV,← hA8];rw[← hA8] at B8;have HM:=qh (HM.out.below hbV);have KG:=qk KG hbV;have ek:IntKind.i64.wrap ((j:Int)+1)=(j:Int)+1:=IntWalk.i64_in _ (by have:=HJN.out;have:=HXL.out;have:=HPN.out;omega);clear hV hbV hA8 c0 c1 c2 c3 c4 c5 c6 c7 hjn;go_wp2_with fail
   go_loopw [30] (fun i wi=>∃ (l:Nat) (M':List TE),l≤yn∧i=.int .i64 l∧MK wi w.heap.size b M'∧Bxs wi A8 32 [.bool t.c.t.s,.slice t.c.t.a t.c.t.n t.c.t.c,.bool t.c.l.s,.slice t.c.l.a t.c.l.n t.c.l.c,.int .u16 t.m.x,.int .u16 t.m.y,.int .u16 t.m.z,.int .u16 t.m.t]∧(∀ f,ev (M'.map tm) f=ev (mulL (P.take j) Q++rowL (t.m,q) (Q.take l)) f)∧M'.length≤j*Q.length+l∧(∀ v∈Q.take l,(t.m.mul v.1).Small)∧Below w.heap.size w wi) (fun i _=>yn-(intOf i).toNat)
   case atStart =>
    exact⟨0,M,Nat.zero_le _,rfl,HM.out,B8.out,fun f=>(by rw[HEV.out,List.take_zero];show _=ev (_++[]) f;rw[List.append_nil]),HML.out,(fun v hv=>by rw[List.take_zero] at hv;cases hv),KG.out⟩
   case round =>
    obtain⟨l,M',hl,rfl,hM,hB8,hev,hml,hsi,hb0⟩:=hrel;have HSI:=qh hsi;have HL:=qh hl;have HM:=qh hM;have B8:=qh hB8;have HEV:=qh hev;have HML:=qh hml;have KG:=qh hb0;clear hl hM hB8 hev hml hsi hb0
    by_cases hln:l<yn
    ·have HLN:=qh hln
     have hll:l<L2.length:=by rw[N2.out];exact hln
     obtain⟨qb,qo,rfl,hqb,hcs⟩:=(R2.out.below KG.out).off (i:=l) (by rw[List.length_map];exact hll);obtain⟨e,he⟩:∃ e,L2[l]?=some e:=⟨_,List.getElem?_eq_getElem hll⟩;obtain⟨u,r⟩:=e;obtain⟨c0,c1,c2,c3,c4,c5,c6,c7⟩:=RT.eight hcs (i:=l) (t:=u) (by rw[List.getElem?_map,he];rfl);have hmem:=List.mem_of_getElem? he;have HQL:=qh (show Q[l]?=some (u.m,r) by rw[← T2.out,List.getElem?_map,he];rfl);have NU:=qh (show KF w u.c r from F2.out _ hmem);clear hcs he hqb hll hmem
     go_upto_region 10 with (fail)
     obtain⟨V,hV⟩:∃ V,V=wr.alloc (.cells #[.bool u.c.t.s,.slice u.c.t.a u.c.t.n u.c.t.c,.bool u.c.l.s,.slice u.c.l.a u.c.l.n u.c.l.c,.int .u16 u.m.x,.int .u16 u.m.y,.int .u16 u.m.z,.int .u16 u.m.t] 32):=⟨_,rfl⟩
     have hbV:Below wr.heap.size wr V:=by rw[hV];exact(Below.refl _ _).alloc (Nat.le_refl _) _
     have B10:=qh (show Bxs V wr.heap.size 32 [.bool u.c.t.s,.slice u.c.t.a u.c.t.n u.c.t.c,.bool u.c.l.s,.slice u.c.l.a u.c.l.n u.c.l.c,.int .u16 u.m.x,.int .u16 u.m.y,.int .u16 u.m.z,.int .u16 u.m.t] by rw[hV];exact Bxs.new wr 32 [.bool u.c.t.s,.slice u.c.t.a u.c.t.n u.c.t.c,.bool u.c.l.s,.slice u.c.l.a u.c.l.n u.c.l.c,.int .u16 u.m.x,.int .u16 u.m.y,.int .u16 u.m.z,.int .u16 u.m.t]);obtain⟨A10,hA10⟩:∃ A,A=wr.heap.size:=⟨_,rfl⟩;rw[← hV,← hA10];rw[← hA10] at B10;have HM:=qh (HM.out.below hbV);have B8:=qh (B8.out.below hbV B8.out.lt);have KG:=qk KG hbV;have hpm:=List.mem_of_getElem? HPJ.out;have hqm:=List.mem_of_getElem? HQL.out;have LQq:=qh (show LQ q 900000 from(HP.out _ hpm).up (by have:=HK.out;omega));have LQr:=qh (show LQ r 900000 from(HQ.out _ hqm).up (by have:=HK.out;omega));have HQR:=qh (show LQ (q*r) 900000 from((HP.out _ hpm).ls.mul (HQ.out _ hqm).ls).lq HK.out HK.out);have HTS:=qh (show t.m.Small from HX.out.small _ hpm);have HUS:=qh (show u.m.Small from HY.out.small _ hqm);clear hV hbV hA10 hpm hqm c0 c1 c2 c3 c4 c5 c6 c7 hln
     by_cases hsm:(t.m.mul u.m).Small
     ·have HSM:=qh hsm;clear hsm;obtain⟨m,hm⟩:∃ m,m=t.m.mul u.m:=⟨_,rfl⟩;have MU:=qh (mono_mul t.m u.m V HSM.out);rw[← hm] at MU HSM;have HMU:=qh hm;clear hm;have c80:=B8.out.cell (i:=0) rfl;have c81:=B8.out.cell (i:=1) rfl;have c82:=B8.out.cell (i:=2) rfl;have c83:=B8.out.cell (i:=3) rfl;have c84:=B8.out.cell (i:=4) rfl;have c85:=B8.out.cell (i:=5) rfl;have c86:=B8.out.cell (i:=6) rfl;have c87:=B8.out.cell (i:=7) rfl;have c100:=B10.out.cell (i:=0) rfl;have c101:=B10.out.cell (i:=1) rfl;have c102:=B10.out.cell (i:=2) rfl;have c103:=B10.out.cell (i:=3) rfl;have c104:=B10.out.cell (i:=4) rfl;have c105:=B10.out.cell (i:=5) rfl;have c106:=B10.out.cell (i:=6) rfl;have c107:=B10.out.cell (i:=7) rfl;go_wp2_with fail
      with_reducible refine MU.out.mono ?_
      rintro e w5 ⟨rfl,hb⟩;have HM:=qh (HM.out.below hb);have B8:=qh (B8.out.below hb B8.out.lt);have B10:=qh (B10.out.below hb B10.out.lt);have KG:=qk KG hb;clear hb MU c80 c81 c82 c83 c84 c85 c86 c87 c100 c101 c102 c103 c104 c105 c106 c107
      go_upto_region 13 with (fail)
      obtain⟨V,hV⟩:∃ V,V=w5.alloc (.cells #[.int .u16 m.x,.int .u16 m.y,.int .u16 m.z,.int .u16 m.t] 30):=⟨_,rfl⟩
      have hbV:Below w5.heap.size w5 V:=by rw[hV];exact(Below.refl _ _).alloc (Nat.le_refl _) _
      have B11:=qh (show Bxs V w5.heap.size 30 [.int .u16 m.x,.int .u16 m.y,.int .u16 m.z,.int .u16 m.t] by rw[hV];exact Bxs.new w5 30 [.int .u16 m.x,.int .u16 m.y,.int .u16 m.z,.int .u16 m.t]);obtain⟨A11,hA11⟩:∃ A,A=w5.heap.size:=⟨_,rfl⟩;rw[← hV,← hA11];rw[← hA11] at B11;have HM:=qh (HM.out.below hbV);have B8:=qh (B8.out.below hbV B8.out.lt);have B10:=qh (B10.out.below hbV B10.out.lt);have KG:=qk KG hbV;have NT:=qh (NT.out.below KG.out);have NU:=qh (NU.out.below KG.out);have HSZ:=qh (show w.heap.size≤V.heap.size from KG.out.size)
      have HLK:=qh (show ∀ e∈M',LQ e.2 900000 from fun e he=>by
       refine like_lq (l:=M'.map tm) (L:=mulL (P.take j) Q++rowL (t.m,q) (Q.take l)) ?_ HEV.out (fun m=>HC.out j _ l m HPJ.out) (Nat.le_refl _) (tm e) (List.mem_map_of_mem he);have h:=HM.out.keys;rw[List.map_map]
       exact h)
      have HMV:=qh (show ∀ e∈M',∀ b,FV.blk e.1.c b→b<V.heap.size from fun e he b hb=>((HM.out.df e he).blks b hb).2);have el:IntKind.i64.wrap ((l:Int)+1)=(l:Int)+1:=IntWalk.i64_in _ (by have:=HLN.out;have:=HYL.out;have:=HQN.out;omega);clear hV hbV hA11;obtain⟨q101,hq101⟩:∃ z:Rat,z=q*r:=⟨_,rfl⟩;have Hq101:=qh hq101;have LQq101:=qh (show LQ q101 1800000 by rw[hq101];exact LQ.mul (LQq.out.up (by decide:_≤900000)) (LQr.out.up (by decide:_≤900000)) (by decide));clear hq101
      go_upto_region 13 with (fail)
      refine FS.wp_region_fresh 7 [] (FS.spOf [(5,FS.Sp.made (fun x:FV=>x.v) (fun x w'=>DF w' V.heap.size x q101) FV.blk)])
       (fun w'=>Below V.heap.size V w') (by kernel_rfl) (by kernel_rfl) (by kernel_rfl)
       (FS.spOf_cons (FS.Sp.made_keeps _ (fun _ _ _ h _ hk=>h.kept hk) (FS.notTaken (by kernel_rfl))) (FS.spOf_nil)) (fun _ _ h hb=>h.trans (hb.mono h.size)) ((Below.refl _ _).drew) ?_
      simp only[List.append_eq,List.cons_append,List.nil_append,List.take_succ_cons,List.take_zero,List.drop_succ_cons,List.drop_zero]
      iterate 5
       refine FS.wpF_reads rfl rfl rfl ?_ (fun w' hw'=>?_) ?_;rotate_left
       ·have hb':=hw'.world;have hs0:=(B8.out.below hb' B8.out.lt).cell (i:=0) rfl;have hs1:=(B8.out.below hb' B8.out.lt).cell (i:=1) rfl;have hs2:=(B8.out.below hb' B8.out.lt).cell (i:=2) rfl;have hs3:=(B8.out.below hb' B8.out.lt).cell (i:=3) rfl;have hs4:=(B8.out.below hb' B8.out.lt).cell (i:=4) rfl;have hs5:=(B8.out.below hb' B8.out.lt).cell (i:=5) rfl;have hs6:=(B8.out.below hb' B8.out.lt).cell (i:=6) rfl;have hs7:=(B8.out.below hb' B8.out.lt).cell (i:=7) rfl;have hsf:=(B8.out.below hb' B8.out.lt).fz;have hsl:=(B8.out.below hb' B8.out.lt).lt;have hs0:=(B10.out.below hb' B10.out.lt).cell (i:=0) rfl;have hs1:=(B10.out.below hb' B10.out.lt).cell (i:=1) rfl;have hs2:=(B10.out.below hb' B10.out.lt).cell (i:=2) rfl;have hs3:=(B10.out.below hb' B10.out.lt).cell (i:=3) rfl;have hs4:=(B10.out.below hb' B10.out.lt).cell (i:=4) rfl;have hs5:=(B10.out.below hb' B10.out.lt).cell (i:=5) rfl;have hs6:=(B10.out.below hb' B10.out.lt).cell (i:=6) rfl;have hs7:=(B10.out.below hb' B10.out.lt).cell (i:=7) rfl;have hsf:=(B10.out.below hb' B10.out.lt).fz;have hsl:=(B10.out.below hb' B10.out.lt).lt;clear hw';go_simp
        try rfl
       conv=>arg 10;simp only[Act.put,zq0,zq1,zq2]
      refine FS.wpF_spec rfl rfl rfl (fun w' hw'=>?_) ?_
      ·have hb':=hw'.world;refine FS.gives_of (FS.PM (fun x:FV=>x.v) (fun x w'=>DF w' V.heap.size x q101) FV.blk w'.heap.size) ?_ (fun _ _ h=>h.post (fun _ _=>FV.inj));go_simp;have CT:=qmul ((NT.out.below hb')).any (((NT.out.below hb')).len LQq.out (by decide:_≤900000)) ((NU.out.below hb')).any (((NU.out.below hb')).len LQr.out (by decide:_≤900000));rw[show q*r=q101 from Hq101.out.symm] at CT;refine CT.mono ?_;rintro e w'' ⟨za,rfl,ho,hb⟩;exact⟨_,rfl,⟨za,rfl,ho.mono hb'.size,ho.blks⟩,hb⟩
      rintro _ ⟨y5,rfl⟩
      conv=>arg 10;simp only[Act.put,zq0,zq1,zq2]
      refine FS.wpF_reads rfl rfl rfl ?_ (fun w' hw'=>?_) ?_;rotate_left
      ·have hb':=hw'.world;have hs0:=(B11.out.below hb' B11.out.lt).cell (i:=0) rfl;have hs1:=(B11.out.below hb' B11.out.lt).cell (i:=1) rfl;have hs2:=(B11.out.below hb' B11.out.lt).cell (i:=2) rfl;have hs3:=(B11.out.below hb' B11.out.lt).cell (i:=3) rfl;have hsf:=(B11.out.below hb' B11.out.lt).fz;have hsl:=(B11.out.below hb' B11.out.lt).lt;clear hw';go_simp
       try rfl
      conv=>arg 10;simp only[Act.put,zq0,zq1,zq2]
      refine FS.wpF_nil (fun w102 hb hF=>?_);have N103:=qh (show DF w102 V.heap.size y5 q101 from(FS.made_of (val:=(fun x:FV=>x.v)) (Φ:=fun x w'=>DF w' V.heap.size x q101) (fun _ _=>FV.inj) (hF.all 5)));clear hF;have NT:=qh (NT.out.below hb);have NU:=qh (NU.out.below hb);have HM:=qh (HM.out.below hb);have B8:=qh (B8.out.below hb B8.out.lt);have B10:=qh (B10.out.below hb B10.out.lt);have B11:=qh (B11.out.below hb B11.out.lt);have KG:=qk KG hb;clear hb;have HAP:=qh (show ∀ e∈M',FV.apart e.1.c y5 from fun e he b hb1 hb2=>Nat.not_lt_of_le (N103.out.blks b hb2).1 (HMV.out e he b hb1));have AD:=qh (add_likes b w.heap.size M' y5 (q*r) m w102 HM.out (show DF w102 w.heap.size y5 (q*r) by have h:=N103.out.mono HSZ.out;rwa [show q101=q*r from Hq101.out] at h) HAP.out HSM.out HQR.out HLK.out KG.out.size);have c110:=B11.out.cell (i:=0) rfl;have c111:=B11.out.cell (i:=1) rfl;have c112:=B11.out.cell (i:=2) rfl;have c113:=B11.out.cell (i:=3) rfl;go_wp2_with fail
      with_reducible refine AD.out.mono ?_
      rintro e w9 ⟨rfl,⟨M2,hM2,hv'⟩,hOn⟩;have HM2:=qh hM2;have HV':=qh hv';have B8:=qh (Bxs.only B8.out hOn HM.out.blk);have KG:=qh (Only.bel KG.out hOn HB.out KG.out.size);clear hM2 hv' hOn AD c110 c111 c112 c113;go_wp2_with fail
      go_roundw
      case rel =>
       refine⟨l+1,M2,by have:=HLN.out;omega,rfl,HM2.out,B8.out,fun f=>?_,?_,fun v hv=>?_,KG.out⟩
       ·rw[HV'.out,ev_putT,HEV.out,List.take_add_one,HQL.out];unfold rowL;rw[List.map_append,← List.append_assoc,ev_append (_++_)];show _=_+(q*r*f (t.m.mul u.m)+0);rw[HMU.out]
        grind
       ·have h1:=congrArg List.length HV'.out;have h2:=putT_len m (q*r) (M'.map tm);rw[List.length_map] at h1 h2;have:=HML.out;omega
       ·rw[List.take_add_one,HQL.out] at hv
        rcases List.mem_append.1 hv with hv | hv
        ·exact HSI.out v hv
        ·rw[List.mem_singleton.1 hv];show(t.m.mul u.m).Small;rw[← HMU.out];exact HSM.out
      case measure=>simp[intOf];have:=HLN.out;omega
     ·have MU:=qh (mono_mulX t.m u.m V HTS.out HUS.out hsm);have HOV:=qh (show Ovf P Q from⟨_,List.mem_of_getElem? HPJ.out,_,List.mem_of_getElem? HQL.out,hsm⟩);clear hsm;have c80:=B8.out.cell (i:=0) rfl;have c81:=B8.out.cell (i:=1) rfl;have c82:=B8.out.cell (i:=2) rfl;have c83:=B8.out.cell (i:=3) rfl;have c84:=B8.out.cell (i:=4) rfl;have c85:=B8.out.cell (i:=5) rfl;have c86:=B8.out.cell (i:=6) rfl;have c87:=B8.out.cell (i:=7) rfl;have c100:=B10.out.cell (i:=0) rfl;have c101:=B10.out.cell (i:=1) rfl;have c102:=B10.out.cell (i:=2) rfl;have c103:=B10.out.cell (i:=3) rfl;have c104:=B10.out.cell (i:=4) rfl;have c105:=B10.out.cell (i:=5) rfl;have c106:=B10.out.cell (i:=6) rfl;have c107:=B10.out.cell (i:=7) rfl;go_wp2_with fail
      with_reducible refine MU.out.mono ?_
      rintro e w5 ⟨rfl,hb⟩;have KG:=qk KG hb;clear hb MU c80 c81 c82 c83 c84 c85 c86 c87 c100 c101 c102 c103 c104 c105 c106 c107;go_wp2_with fail
      go_ret2;exact Or.inr ⟨rfl,HOV.out,KG.out.alloc KG.out.size _⟩
    ·have HLE:=qh (show l=yn by have:=HL.out;omega)
     have hge:¬((l:Int)<(yn:Int)):=by omega
     clear hln;go_wp2_with fail
     go_roundw
     case rel =>
      refine⟨j+1,M',by have:=HJN.out;omega,rfl,HM.out,fun f=>?_,?_,fun s hs=>?_,KG.out⟩
      ·rw[HEV.out,List.take_of_length_le (l:=Q) (by rw[HLE.out,HYL.out];exact Nat.le_refl _),List.take_add_one,HPJ.out];show _=ev (mulL (P.take j++[(t.m,q)]) Q) f;rw[mulL_snoc]
      ·rw[Nat.add_mul,Nat.one_mul,← HYL.out,← HLE.out,HLE.out,HYL.out];have h:=HML.out;have h2:=HLE.out;have h3:=HYL.out;omega
      ·rw[List.take_add_one,HPJ.out] at hs
       rcases List.mem_append.1 hs with hs | hs
       ·exact HSO.out s hs
       ·rw[List.mem_singleton.1 hs];intro v hv;refine HSI.out v ?_;rw[List.take_of_length_le (by rw[HLE.out,HYL.out];exact Nat.le_refl _)];exact hv
     case measure=>simp[intOf];have:=HJN.out;omega
  ·have HJE:=qh (show j=xn by have:=HJ.out;omega)
   have hge:¬((j:Int)<(xn:Int)):=by omega
   have HLK:=qh (show ∀ e∈M,LQ e.2 900000 from fun e he=>by
    refine like_lq (l:=M.map tm) (L:=mulL (P.take j) Q) ?_ HEV.out (fun m=>HD.out j m) (Nat.le_refl _) (tm e) (List.mem_map_of_mem he);have h:=HM.out.keys;rw[List.map_map]
    exact h)
   have SM:=qh (sum_likes b w.heap.size M wr HM.out HLK.out KG.out.size (by have h1:=HML.out;rw[HJE.out,HXL.out] at h1;have h4:=HN.out;omega));clear hjn;go_wp2_with fail
   with_reducible refine SM.out.mono ?_
   rintro e w9 ⟨z,rfl,hz,hb⟩;have HZ:=qh hz;have KG:=qk KG hb;clear hz hb SM;go_wp2_with fail
   go_ret2;refine Or.inl ⟨z,rfl,?_,?_,KG.out⟩
   ·rintro⟨s,hs,u,hu,hov⟩;refine hov (HSO.out s ?_ u hu);rw[List.take_of_length_le (by rw[HJE.out,HXL.out];exact Nat.le_refl _)];exact hs
   have e1:nf (M.map tm)=mulP P Q:=nf_of_ev fun f=>by
    rw[HEV.out,List.take_of_length_le (by rw[HJE.out,HXL.out];exact Nat.le_refl _)]
   rw[← e1];exact HZ.out
theorem mulL_cfB {k1 k2:Nat} (m:Mo) {A B:List Tm} (hA:Canon A) (h1:∀ t∈A,LQ t.2 k1) (h2:∀ t∈B,LQ t.2 k2):cf (mulL A B) m=0∨∃ j,0<j∧j≤B.length∧NQ (cf (mulL A B) m) j (k1+k2):=by
 have e:cf (mulL A B) m=cf (mulL B A) m:=by
  unfold cf;rw[ev_mulL,ev_mulL,ev_swap];exact congrArg (ev B) (funext fun b=>congrArg (ev A) (funext fun a=>by rw[Mo.mul_comm]))
 rw[e,Nat.add_comm k1 k2];exact mulL_cf m hA h1 h2
theorem part_cfB {P Q:List Tm} {k1 k2:Nat} (hP:Canon P) (hQ:Canon Q) (h1:∀ t∈P,LQ t.2 k1) (h2:∀ t∈Q,LQ t.2 k2) {i:Nat} {s:Tm} (hs:P[i]?=some s) (j:Nat) (m:Mo) {K:Nat} (hK:(Q.length+1)*(k1+k2+1)≤K) :
  cf (mulL (P.take i) Q++rowL s (Q.take j)) m=0∨LQ (cf (mulL (P.take i) Q++rowL s (Q.take j)) m) K:=by
 rw[cf_append]
 have hb:∀ j,j≤Q.length+1→j*(k1+k2+1)≤K:=fun j hj=>Nat.le_trans (Nat.mul_le_mul_right _ hj) hK
 have h3:=row_cf (h1 s (List.mem_of_getElem? hs)) m (canon_take hQ j) (fun t ht=>h2 t (List.mem_of_mem_take ht))
 rcases mulL_cfB m (canon_take hP i) (fun t ht=>h1 t (List.mem_of_mem_take ht)) h2 with h4 | ⟨n,h5,h6,h7⟩
 ·rw[h4,Rat.zero_add]
  rcases h3 with h3 | h3
  ·exact Or.inl h3
  ·exact Or.inr ((NQ.one h3).lq (hb 1 (by omega)))
 ·rcases h3 with h3 | h3
  ·rw[h3,Rat.add_zero];exact Or.inr (h7.lq (hb n (by omega)))
  ·exact Or.inr ((h7.add (NQ.one h3) h5 (by omega)).lq (hb (n+1) (by omega)))
theorem all_cfB {P Q:List Tm} {k1 k2:Nat} (hP:Canon P) (h1:∀ t∈P,LQ t.2 k1) (h2:∀ t∈Q,LQ t.2 k2) (i:Nat) (m:Mo) {K:Nat} (hK:(Q.length+1)*(k1+k2+1)≤K):cf (mulL (P.take i) Q) m=0∨LQ (cf (mulL (P.take i) Q) m) K:=by
 rcases mulL_cfB m (canon_take hP i) (fun t ht=>h1 t (List.mem_of_mem_take ht)) h2 with h4 | ⟨n,h5,h6,h7⟩
 ·exact Or.inl h4
 ·exact Or.inr (h7.lq (Nat.le_trans (Nat.mul_le_mul_right _ (by omega)) hK))
theorem mul_oB (x y:PV) (P Q:List Tm) (k1 k2:Nat) (w:World) (hx:KP w x P) (hy:KP w y Q) (hp:∀ t∈P,LQ t.2 k1) (hq:∀ t∈Q,LQ t.2 k2)
  (hk:(Q.length+1)*(k1+k2+1)≤900000) (hn:P.length*Q.length≤1000000) (hpn:P.length≤1000000) (hqn:Q.length≤1000000) :
  Calls Tryz.prog 15 #[x.v,y.v] w (MulR w P Q) :=
 mul_g x y P Q k1 k2 w hx hy hp hq (by have:=Nat.le_mul_of_pos_left (k1+k2+1) (show 0<Q.length+1 by omega);omega) (fun i s j m hs=>part_cfB hx.canon hy.canon hp hq hs j m hk) (fun i m=>all_cfB hx.canon hp hq i m hk) hn hpn hqn
structure RE (w:World) (b off i:Nat) (t:TV):Prop where
 lt:b<w.heap.size
 cell:∀ j v,t.cells[j]?=some v→w.cell? ⟨b,off+i*8+j,none⟩=some v
theorem RE.below {w w':World} {b off i:Nat} {t:TV} (h:RE w b off i t) (hb:Below w.heap.size w w'):RE w' b off i t :=
 ⟨Nat.lt_of_lt_of_le h.lt hb.size,fun j v hj=>(hb.cell (p:=⟨b,off+i*8+j,none⟩) h.lt).trans (h.cell j v hj)⟩
theorem RE.eight {w:World} {b off i:Nat} {t:TV} (h:RE w b off i t) :
  w.cell? ⟨b,off+i*8,none⟩=some (.bool t.c.t.s)∧w.cell? ⟨b,off+i*8+1,none⟩=some (.slice t.c.t.a t.c.t.n t.c.t.c)∧w.cell? ⟨b,off+i*8+2,none⟩=some (.bool t.c.l.s)∧w.cell? ⟨b,off+i*8+3,none⟩=some (.slice t.c.l.a t.c.l.n t.c.l.c) ∧
  w.cell? ⟨b,off+i*8+4,none⟩=some (.int .u16 t.m.x)∧w.cell? ⟨b,off+i*8+5,none⟩=some (.int .u16 t.m.y)∧w.cell? ⟨b,off+i*8+6,none⟩=some (.int .u16 t.m.z)∧w.cell? ⟨b,off+i*8+7,none⟩=some (.int .u16 t.m.t) :=
 ⟨h.cell 0 _ rfl,h.cell 1 _ rfl,h.cell 2 _ rfl,h.cell 3 _ rfl,h.cell 4 _ rfl,h.cell 5 _ rfl,h.cell 6 _ rfl,h.cell 7 _ rfl⟩
theorem RT.one {w:World} {a:Option Addr} {ts:List TV} (h:RT w a ts) (hn:ts≠[]):∃ b off,a=some ⟨b,off,none⟩∧∀ i t,ts[i]?=some t→RE w b off i t:=by
 obtain⟨b,off,ha,hc⟩:=h.ex hn;exact⟨b,off,ha,fun i t hi=>⟨block_lt_of_cell (hc i t hi 0 _ rfl),hc i t hi⟩⟩
theorem same_term (t u:TV) (q:Rat) (w:World) (h1:KF w t.c q) (h2:KF w u.c q) (hm:t.m=u.m) (hq:LQ q 900000):Calls Tryz.prog 26 #[TV.v t,TV.v u] w fun e w'=>e=.returned (.bool true)∧Below w.heap.size w w':=by
 obtain⟨V,hV⟩:∃ V,V=(w.alloc (.cells #[.bool t.c.t.s,.slice t.c.t.a t.c.t.n t.c.t.c,.bool t.c.l.s,.slice t.c.l.a t.c.l.n t.c.l.c,.int .u16 t.m.x,.int .u16 t.m.y,.int .u16 t.m.z,.int .u16 t.m.t] 32)).alloc (.cells #[.bool u.c.t.s,.slice u.c.t.a u.c.t.n u.c.t.c,.bool u.c.l.s,.slice u.c.l.a u.c.l.n u.c.l.c,.int .u16 u.m.x,.int .u16 u.m.y,.int .u16 u.m.z,.int .u16 u.m.t] 32):=⟨_,rfl⟩
 have hbV:Below w.heap.size w V:=by rw[hV];exact((Below.refl _ _).alloc (Nat.le_refl _) _).alloc (by go_size) _
 have B1:=qh (show Bxs V w.heap.size 32 [.bool t.c.t.s,.slice t.c.t.a t.c.t.n t.c.t.c,.bool t.c.l.s,.slice t.c.l.a t.c.l.n t.c.l.c,.int .u16 t.m.x,.int .u16 t.m.y,.int .u16 t.m.z,.int .u16 t.m.t] by rw[hV];exact(Bxs.new w 32 [.bool t.c.t.s,.slice t.c.t.a t.c.t.n t.c.t.c,.bool t.c.l.s,.slice t.c.l.a t.c.l.n t.c.l.c,.int .u16 t.m.x,.int .u16 t.m.y,.int .u16 t.m.z,.int .u16 t.m.t]).alloc _)
 have B2:=qh (show Bxs V (w.heap.size+1) 32 [.bool u.c.t.s,.slice u.c.t.a u.c.t.n u.c.t.c,.bool u.c.l.s,.slice u.c.l.a u.c.l.n u.c.l.c,.int .u16 u.m.x,.int .u16 u.m.y,.int .u16 u.m.z,.int .u16 u.m.t] by
  have h:=Bxs.new (w.alloc (.cells #[.bool t.c.t.s,.slice t.c.t.a t.c.t.n t.c.t.c,.bool t.c.l.s,.slice t.c.l.a t.c.l.n t.c.l.c,.int .u16 t.m.x,.int .u16 t.m.y,.int .u16 t.m.z,.int .u16 t.m.t] 32)) 32 [.bool u.c.t.s,.slice u.c.t.a u.c.t.n u.c.t.c,.bool u.c.l.s,.slice u.c.l.a u.c.l.n u.c.l.c,.int .u16 u.m.x,.int .u16 u.m.y,.int .u16 u.m.z,.int .u16 u.m.t];rw[World.size_alloc] at h
  rw[hV];exact h)
 have KG:=qh hbV;have SF:=qh (qsameFr (h1.below hbV) (h1.len hq (Nat.le_refl _)) (h2.below hbV) (h2.len hq (Nat.le_refl _)) rfl);have HV:=qh hV;obtain⟨tc,⟨mx,my,mz,mt⟩⟩:=t;obtain⟨uc,um⟩:=u;change (⟨mx,my,mz,mt⟩:Mo)=um at hm;subst hm;change Calls Tryz.prog 26 #[.agg #[.bool tc.t.s,.slice tc.t.a tc.t.n tc.t.c,.bool tc.l.s,.slice tc.l.a tc.l.n tc.l.c,.int .u16 mx,.int .u16 my,.int .u16 mz,.int .u16 mt],.agg #[.bool uc.t.s,.slice uc.t.a uc.t.n uc.t.c,.bool uc.l.s,.slice uc.l.a uc.l.n uc.l.c,.int .u16 mx,.int .u16 my,.int .u16 mz,.int .u16 mt]] w _;clear hV hbV h1 h2 hq;go_enter Tryz.func26,Tryz.ntmps26
 go_upto_region 1 with (fail)
 rw[show(w.alloc (.cells #[.bool tc.t.s,.slice tc.t.a tc.t.n tc.t.c,.bool tc.l.s,.slice tc.l.a tc.l.n tc.l.c,.int .u16 mx,.int .u16 my,.int .u16 mz,.int .u16 mt] 32)).alloc (.cells #[.bool uc.t.s,.slice uc.t.a uc.t.n uc.t.c,.bool uc.l.s,.slice uc.l.a uc.l.n uc.l.c,.int .u16 mx,.int .u16 my,.int .u16 mz,.int .u16 mt] 32)=V from HV.out.symm];have c10:=B1.out.cell (i:=0) rfl;have c11:=B1.out.cell (i:=1) rfl;have c12:=B1.out.cell (i:=2) rfl;have c13:=B1.out.cell (i:=3) rfl;have c14:=B1.out.cell (i:=4) rfl;have c15:=B1.out.cell (i:=5) rfl;have c16:=B1.out.cell (i:=6) rfl;have c17:=B1.out.cell (i:=7) rfl;have c20:=B2.out.cell (i:=0) rfl;have c21:=B2.out.cell (i:=1) rfl;have c22:=B2.out.cell (i:=2) rfl;have c23:=B2.out.cell (i:=3) rfl;have c24:=B2.out.cell (i:=4) rfl;have c25:=B2.out.cell (i:=5) rfl;have c26:=B2.out.cell (i:=6) rfl;have c27:=B2.out.cell (i:=7) rfl;go_wp2_with fail
 with_reducible refine SF.out.mono ?_
 rintro e w1 ⟨rfl,hb⟩;have KG:=qk KG hb;have B1:=qh (B1.out.below hb B1.out.lt);have B2:=qh (B2.out.below hb B2.out.lt);clear hb SF c10 c11 c12 c13 c14 c15 c16 c17 c20 c21 c22 c23 c24 c25 c26 c27;have c10:=B1.out.cell (i:=0) rfl;have c11:=B1.out.cell (i:=1) rfl;have c12:=B1.out.cell (i:=2) rfl;have c13:=B1.out.cell (i:=3) rfl;have c14:=B1.out.cell (i:=4) rfl;have c15:=B1.out.cell (i:=5) rfl;have c16:=B1.out.cell (i:=6) rfl;have c17:=B1.out.cell (i:=7) rfl;have c20:=B2.out.cell (i:=0) rfl;have c21:=B2.out.cell (i:=1) rfl;have c22:=B2.out.cell (i:=2) rfl;have c23:=B2.out.cell (i:=3) rfl;have c24:=B2.out.cell (i:=4) rfl;have c25:=B2.out.cell (i:=5) rfl;have c26:=B2.out.cell (i:=6) rfl;have c27:=B2.out.cell (i:=7) rfl;go_wp2_with fail
 go_ret;exact⟨rfl,KG.out⟩
theorem same_k (x y:PV) (P:List Tm) (w:World) (hx:KP w x P) (hy:KP w y P) (hp:∀ t∈P,LQ t.2 900000) (hn:P.length≤1000000):Calls Tryz.prog 8 #[x.v,y.v] w fun e w'=>e=.returned (.bool true)∧Below w.heap.size w w':=by
 have hxl:=hx.len;have hyl:=hy.len;obtain⟨xa,xn,xc⟩:=x;obtain⟨ya,n,yc⟩:=y;change xn=P.length at hxl;change n=P.length at hyl;obtain rfl:xn=n:=hxl.trans hyl.symm;obtain⟨L1,g1,g2,g3,g4⟩:=hx.ex;obtain⟨L2,k3,k4,k5,k6⟩:=hy.ex;have HP:=qh hp;have HNN:=qh (show xn≤1000000 by rw[hyl];exact hn);have R1:=qh g1;have R2:=qh k3;have F1:=qh g3;have F2:=qh k5;have T1:=qh g4;have T2:=qh k6;have N1:=qh (show L1.length=xn from g2);have N2:=qh (show L2.length=xn from k4);change Calls Tryz.prog 8 #[.slice xa xn xc,.slice ya xn yc] w _;clear hx hy hp hn hxl hyl g1 g2 g3 g4 k3 k4 k5 k6;go_enter Tryz.func8,Tryz.ntmps8;go_wp2_with fail
 go_loopw [5] (fun i wr=>∃ j:Nat,j≤xn∧i=.int .i64 j∧Below w.heap.size w wr) (fun i _=>xn-(intOf i).toNat)
 case atStart =>
  exact⟨0,Nat.zero_le _,rfl,Below.refl _ _⟩
 case round =>
  obtain⟨j,hj,rfl,hb0⟩:=hrel;have HJ:=qh hj;have KG:=qh hb0;clear hj hb0
  by_cases hjn:j<xn
  ·have HJN:=qh hjn
   have h1l:j<L1.length:=by rw[N1.out];exact hjn
   have h2l:j<L2.length:=by rw[N2.out];exact hjn
   obtain⟨pb,po,rfl,hc1⟩:=(R1.out.below KG.out).one (fun h=>by rw[List.map_eq_nil_iff] at h;rw[h] at h1l;simp at h1l);obtain⟨qb,qo,rfl,hc2⟩:=(R2.out.below KG.out).one (fun h=>by rw[List.map_eq_nil_iff] at h;rw[h] at h2l;simp at h2l);obtain⟨⟨t,q⟩,he1⟩:∃ e,L1[j]?=some e:=⟨_,List.getElem?_eq_getElem h1l⟩;obtain⟨⟨u,r⟩,he2⟩:∃ e,L2[j]?=some e:=⟨_,List.getElem?_eq_getElem h2l⟩;have E1:=qh (hc1 j t (by rw[List.getElem?_map,he1];rfl));have E2:=qh (hc2 j u (by rw[List.getElem?_map,he2];rfl))
   have p1:P[j]?=some (t.m,q):=by rw[← T1.out,List.getElem?_map,he1];rfl
   have p2:P[j]?=some (u.m,r):=by rw[← T2.out,List.getElem?_map,he2];rfl
   have pe:(t.m,q)=(u.m,r):=Option.some.inj (p1.symm.trans p2);have HMM:=qh (show t.m=u.m from congrArg Prod.fst pe);obtain rfl:q=r:=congrArg Prod.snd pe;have NT:=qh (show KF wr t.c q from(F1.out _ (List.mem_of_getElem? he1)).below KG.out);have NU:=qh (show KF wr u.c q from(F2.out _ (List.mem_of_getElem? he2)).below KG.out);have LQq:=qh (HP.out _ (List.mem_of_getElem? p1));have ek:IntKind.i64.wrap ((j:Int)+1)=(j:Int)+1:=IntWalk.i64_in _ (by have:=HJN.out;have:=HNN.out;omega);clear hc1 hc2 he1 he2 p1 p2 pe h1l h2l
   go_upto_region 6 with (fail)
   refine FS.wp_region_fresh 9 [] (FS.spOf [(8,FS.Sp.know (.bool true))])
    (fun w'=>Below wr.heap.size wr w') (by kernel_rfl) (by kernel_rfl) (by kernel_rfl)
    (FS.spOf_cons (FS.Sp.know_keeps _ _) (FS.spOf_nil)) (fun _ _ h hb=>h.trans (hb.mono h.size)) ((Below.refl _ _).drew) ?_
   simp only[List.append_eq,List.cons_append,List.nil_append,List.take_succ_cons,List.take_zero,List.drop_succ_cons,List.drop_zero]
   iterate 8
    refine FS.wpF_reads rfl rfl rfl ?_ (fun w' hw'=>?_) ?_;rotate_left
    ·have hb':=hw'.world;obtain⟨hs0,hs1,hs2,hs3,hs4,hs5,hs6,hs7⟩:=(E1.out.below hb').eight;obtain⟨hs0,hs1,hs2,hs3,hs4,hs5,hs6,hs7⟩:=(E2.out.below hb').eight;clear hw';go_simp
     try rfl
    conv=>arg 10;simp only[Act.put,zq0,zq1,zq2]
   refine FS.wpF_spec rfl rfl rfl (fun w' hw'=>?_) ?_
   ·have hb':=hw'.world;refine FS.gives_of (FS.PK (.bool true)) ?_ (fun _ _ h=>h.post);go_simp;have CT:=same_term t u q w' (NT.out.below hb') (NU.out.below hb') HMM.out LQq.out;refine CT.mono ?_;rintro e w'' ⟨rfl,hb⟩;exact⟨_,rfl,rfl,hb⟩
   rintro _ rfl
   conv=>arg 10;simp only[Act.put,zq0,zq1,zq2]
   refine FS.wpF_nil (fun w101 hb hF=>?_);clear hF;have KG:=qk KG hb;clear hb;go_wp2_with fail
   go_roundw
   case rel =>
    exact⟨j+1,by have:=HJN.out;omega,rfl,KG.out⟩
   case measure=>simp[intOf];have:=HJN.out;omega
  ·have hge:¬((j:Int)<(xn:Int)):=by omega
   clear hjn;go_wp2_with fail
   go_ret;exact⟨rfl,KG.out⟩
def moF (m:Mo):Nat→Int:=fun i=>((m.at i:Nat):Int)
theorem moF_small {m:Mo} (h:m.Small):Mono.Small (moF m):=fun i _=>⟨Int.natCast_nonneg _,by have:=at_small h i;unfold moF;omega⟩
theorem moF_mul (a b:Mo) (i:Nat):moF (a.mul b) i=moF a i+moF b i:=by unfold moF;rw[at_mul];omega
def keyO (o:Int) (m:Mo):Int:=Mono.KO o (moF m)
theorem keyO_key (o:Int):Key 65535 (keyO o) where
 add a b ha hb hab:=by
  have hB:Mono.mulB (moF a) (moF b)=true:=decide_eq_true (by
   obtain⟨h1,h2,h3,h4⟩:=hab;rw[← moF_mul,← moF_mul,← moF_mul,← moF_mul];show((a.mul b).x:Int)≤65535∧((a.mul b).y:Int)≤65535∧((a.mul b).z:Int)≤65535∧((a.mul b).t:Int)≤65535
   omega)
  have h:=Mono.KO_mul (o:=o) hB;unfold keyO;rw[← h]
  congr 1
  funext i
  unfold Mono.mulM;rw[if_pos hB,moF_mul]
 inj a b ha hb h:=by
  have h1:=(Mono.KO_same (moF_small (show a.Small from ha)) (moF_small (show b.Small from hb))).1 h;rw[Mo.eq_iff]
  have g:=fun k hk=>Int.ofNat.inj (show((a.at k:Nat):Int)=((b.at k:Nat):Int) from h1 k hk)
  exact⟨g 0 (by omega),g 1 (by omega),g 2 (by omega),g 3 (by omega)⟩
theorem cmpZ_dec {a b:Int}:Mono.cmpZ a b>0↔b<a:=by
 rcases Int.lt_trichotomy a b with h | h | h
 ·rw[Mono.cmpZ_lt h];omega
 ·rw[Mono.cmpZ_eq h];omega
 ·rw[Mono.cmpZ_gt h];omega
theorem max_any (G:Nat) (cs:Array Value) (x:PV) (ts:List TV) (K:Mo→Int) (w:World) (hr:RT w x.a ts) (hl:ts.length=x.n) (hn:x.n≤1000000) (hne:ts≠[]) (hs:∀ t∈ts,t.m.Small)
  (hcf:∀ (args:Array Value) (w:World),(callFunc G args).run Tryz.prog w=.ok (.enter G args) w)
  (hF:∀ t u:TV,t.m.Small→u.m.Small→∀ w1,Below w.heap.size w w1→Calls Tryz.prog G (#[TV.v t,TV.v u]++cs) w1 fun e w'=>e=.returned (.int .i64 (Mono.cmpZ (K t.m) (K u.m)))∧Below w1.heap.size w1 w') :
  Calls Tryz.prog 32 #[x.v,.func (.func G) #[] cs] w fun e w'=>∃ t,t∈ts∧(∀ u∈ts,K u.m≤K t.m)∧e=.returned (TV.v t)∧Below w.heap.size w w':=by
 obtain⟨xa,xn,xc⟩:=x;change Calls Tryz.prog 32 #[.slice xa xn xc,.func (.func G) #[] cs] w _;have HL:=qh (show ts.length=xn from hl);have HN:=qh (show xn≤1000000 from hn);have HS:=qh hs;have HF:=qh hF;obtain⟨pb,po,rfl,hc⟩:=RT.one hr hne;have HE:=qh hc;have HP:=qh (show 0<xn by rw[← HL.out];exact List.length_pos_iff.2 hne);obtain⟨t0,ht0⟩:∃ t,ts[0]?=some t:=⟨_,List.getElem?_eq_getElem (List.length_pos_iff.2 hne)⟩;have HT0:=qh ht0
 have h1:¬((xn:Int)<1):=by have:=HP.out;omega
 obtain⟨V,hV⟩:∃ V,V=w.alloc (.cells #[.bool false,.slice none 0 0,.bool false,.slice none 0 0,.int .u16 0,.int .u16 0,.int .u16 0,.int .u16 0] 32):=⟨_,rfl⟩
 have hbV:Below w.heap.size w V:=by rw[hV];exact(Below.refl _ _).alloc (Nat.le_refl _) _
 have B4:=qh (show Bxs V w.heap.size 32 [.bool false,.slice none 0 0,.bool false,.slice none 0 0,.int .u16 0,.int .u16 0,.int .u16 0,.int .u16 0] by rw[hV];exact Bxs.new w 32 [.bool false,.slice none 0 0,.bool false,.slice none 0 0,.int .u16 0,.int .u16 0,.int .u16 0,.int .u16 0]);have E0:=qh ((hc 0 t0 ht0).below hbV);have KG:=qh hbV;have HV:=qh hV
 have HP0:(0:Int)<(xn:Int):=by have:=HP.out;omega
 clear hr hl hn hs hF hc ht0 hV hbV;go_enter Tryz.func32,Tryz.ntmps32
 go_upto_region 1 with (fail)
 rw[show w.alloc (.cells #[.bool false,.slice none 0 0,.bool false,.slice none 0 0,.int .u16 0,.int .u16 0,.int .u16 0,.int .u16 0] 32)=V from HV.out.symm];obtain⟨c0,c1,c2,c3,c4,c5,c6,c7⟩:=E0.out.eight;simp only[Nat.zero_mul,Nat.add_zero] at c0 c1 c2 c3 c4 c5 c6 c7
 go_upto_region 4 with (fail)
 obtain⟨U,hU⟩:∃ U,U=V.alloc (.cells #[.bool t0.c.t.s,.slice t0.c.t.a t0.c.t.n t0.c.t.c,.bool t0.c.l.s,.slice t0.c.l.a t0.c.l.n t0.c.l.c,.int .u16 t0.m.x,.int .u16 t0.m.y,.int .u16 t0.m.z,.int .u16 t0.m.t] 32):=⟨_,rfl⟩
 have hbU:Below V.heap.size V U:=by rw[hU];exact(Below.refl _ _).alloc (Nat.le_refl _) _
 have B5:=qh (show Bxs U V.heap.size 32 [.bool t0.c.t.s,.slice t0.c.t.a t0.c.t.n t0.c.t.c,.bool t0.c.l.s,.slice t0.c.l.a t0.c.l.n t0.c.l.c,.int .u16 t0.m.x,.int .u16 t0.m.y,.int .u16 t0.m.z,.int .u16 t0.m.t] by rw[hU];exact Bxs.new V 32 [.bool t0.c.t.s,.slice t0.c.t.a t0.c.t.n t0.c.t.c,.bool t0.c.l.s,.slice t0.c.l.a t0.c.l.n t0.c.l.c,.int .u16 t0.m.x,.int .u16 t0.m.y,.int .u16 t0.m.z,.int .u16 t0.m.t]);obtain⟨A1,hA1⟩:∃ A,A=w.heap.size:=⟨_,rfl⟩;obtain⟨A2,hA2⟩:∃ A,A=V.heap.size:=⟨_,rfl⟩;have HA1:=qh (show w.heap.size≤A1 by omega);have HA2:=qh (show w.heap.size≤A2 by rw[hA2];exact KG.out.size);have HNE:=qh (show A1≠A2 by have:=B4.out.lt;omega);have B4:=qh (B4.out.below hbU B4.out.lt);have KG:=qk KG hbU;rw[← hU,← hA2,← hA1];rw[← hA2] at B5;rw[← hA1] at B4;clear hU hbU hA1 hA2 c0 c1 c2 c3 c4 c5 c6 c7 h1 HP0;go_wp2_with fail
 go_loopw [6] (fun i wr=>∃ (j:Nat) (t:TV),1≤j∧j≤xn∧i=.int .i64 j∧t∈ts∧(∀ i u,ts[i]?=some u→i<j→K u.m≤K t.m)∧Bxs wr A2 32 [.bool t.c.t.s,.slice t.c.t.a t.c.t.n t.c.t.c,.bool t.c.l.s,.slice t.c.l.a t.c.l.n t.c.l.c,.int .u16 t.m.x,.int .u16 t.m.y,.int .u16 t.m.z,.int .u16 t.m.t]∧Bxs wr A1 32 [.bool false,.slice none 0 0,.bool false,.slice none 0 0,.int .u16 0,.int .u16 0,.int .u16 0,.int .u16 0]∧Below w.heap.size w wr) (fun i _=>xn-(intOf i).toNat)
 case atStart =>
  refine⟨1,t0,Nat.le_refl _,HP.out,rfl,List.mem_of_getElem? HT0.out,fun i u h1 h2=>?_,B5.out,B4.out,KG.out⟩
  obtain rfl:i=0:=by omega
  rw[HT0.out] at h1;obtain rfl:=Option.some.inj h1;exact Int.le_refl _
 case round =>
  obtain⟨j,t,hj1,hj,rfl,hmem,hmax,hB5,hB4,hb0⟩:=hrel;have HJ1:=qh hj1;have HJ:=qh hj;have HME:=qh hmem;have HMX:=qh hmax;have B5:=qh hB5;have B4:=qh hB4;have KG:=qh hb0;clear hj1 hj hmem hmax hB5 hB4 hb0
  by_cases hjn:j<xn
  ·have HJN:=qh hjn;obtain⟨u,hu⟩:∃ u,ts[j]?=some u:=⟨_,List.getElem?_eq_getElem (by rw[HL.out];exact hjn)⟩;have HU:=qh hu;have E1:=qh ((HE.out j u hu).below KG.out);have HST:=qh (HS.out t HME.out);have HSU:=qh (HS.out u (List.mem_of_getElem? hu));obtain⟨cv,hcv⟩:∃ c,c=Mono.cmpZ (K u.m) (K t.m):=⟨_,rfl⟩;have HCV:=qh hcv;have ek:IntKind.i64.wrap ((j:Int)+1)=(j:Int)+1:=IntWalk.i64_in _ (by have:=HJN.out;have:=HN.out;omega);clear hu hcv
   go_upto_region 7 with (fail)
   refine FS.wp_region_fresh 7 [] (FS.spOf [(6,FS.Sp.know (.int .i64 cv))])
    (fun w'=>Below wr.heap.size wr w') (by kernel_rfl) (by kernel_rfl) (by kernel_rfl)
    (FS.spOf_cons (FS.Sp.know_keeps _ _) (FS.spOf_nil)) (fun _ _ h hb=>h.trans (hb.mono h.size)) ((Below.refl _ _).drew) ?_
   simp only[List.append_eq,List.cons_append,List.nil_append,List.take_succ_cons,List.take_zero,List.drop_succ_cons,List.drop_zero]
   iterate 6
    refine FS.wpF_reads rfl rfl rfl ?_ (fun w' hw'=>?_) ?_;rotate_left
    ·have hb':=hw'.world;obtain⟨hs0,hs1,hs2,hs3,hs4,hs5,hs6,hs7⟩:=(E1.out.below hb').eight;have hs0:=(B5.out.below hb' B5.out.lt).cell (i:=0) rfl;have hs1:=(B5.out.below hb' B5.out.lt).cell (i:=1) rfl;have hs2:=(B5.out.below hb' B5.out.lt).cell (i:=2) rfl;have hs3:=(B5.out.below hb' B5.out.lt).cell (i:=3) rfl;have hs4:=(B5.out.below hb' B5.out.lt).cell (i:=4) rfl;have hs5:=(B5.out.below hb' B5.out.lt).cell (i:=5) rfl;have hs6:=(B5.out.below hb' B5.out.lt).cell (i:=6) rfl;have hs7:=(B5.out.below hb' B5.out.lt).cell (i:=7) rfl;have hsf:=(B5.out.below hb' B5.out.lt).fz;have hsl:=(B5.out.below hb' B5.out.lt).lt;clear hw';go_simp
     try rfl
    conv=>arg 10;simp only[Act.put,zq0,zq1,zq2]
   refine FS.wpF_spec rfl rfl rfl (fun w' hw'=>?_) ?_
   ·have hb':=hw'.world;refine FS.gives_of (FS.PK (.int .i64 cv)) ?_ (fun _ _ h=>h.post);go_simp;have CT:=HF.out u t HSU.out HST.out w' (KG.out.trans (hb'.mono KG.out.size));rw[show Mono.cmpZ (K u.m) (K t.m)=cv from HCV.out.symm] at CT;refine CT.mono ?_;rintro e w'' ⟨rfl,hb⟩;exact⟨_,rfl,rfl,hb⟩
   rintro _ rfl
   conv=>arg 10;simp only[Act.put,zq0,zq1,zq2]
   refine FS.wpF_nil (fun w101 hb hF=>?_);clear hF;have B5:=qh (B5.out.below hb B5.out.lt);have B4:=qh (B4.out.below hb B4.out.lt);have KG:=qk KG hb;clear hb
   by_cases hcp:cv>0
   ·have hcq:0<cv:=hcp;have HCP:=qh hcp;have E1:=qh ((HE.out j u HU.out).below KG.out);obtain⟨c0,c1,c2,c3,c4,c5,c6,c7⟩:=E1.out.eight;have cf:=B5.out.fz;have cl:=B5.out.lt;have c50:=B5.out.cell (i:=0) rfl;have c51:=B5.out.cell (i:=1) rfl;have c52:=B5.out.cell (i:=2) rfl;have c53:=B5.out.cell (i:=3) rfl;have c54:=B5.out.cell (i:=4) rfl;have c55:=B5.out.cell (i:=5) rfl;have c56:=B5.out.cell (i:=6) rfl;have c57:=B5.out.cell (i:=7) rfl;go_wp2_with fail
    go_roundw
    case rel =>
     refine⟨j+1,u,by omega,by have:=HJN.out;omega,rfl,List.mem_of_getElem? HU.out,fun i v h1 h2=>?_,put8_bxs B5.out ..,?_,put8_below KG.out HA2.out ..⟩
     ·have h3:K t.m<K u.m:=cmpZ_dec.1 (by rw[← HCV.out];exact HCP.out)
      by_cases h4:i<j
      ·have:=HMX.out i v h1 h4;omega
      ·obtain rfl:i=j:=by omega
       rw[HU.out] at h1;obtain rfl:=Option.some.inj h1;exact Int.le_refl _
     ·exact((((((((B4.out.other HNE.out _).other HNE.out _).other HNE.out _).other HNE.out _).other HNE.out _).other HNE.out _).other HNE.out _).other HNE.out _)
    case measure=>simp[intOf];have:=HJN.out;omega
   ·have hcq:¬(0<cv):=hcp;have HCP:=qh hcp;go_wp2_with fail
    go_roundw
    case rel =>
     refine⟨j+1,t,by omega,by have:=HJN.out;omega,rfl,HME.out,fun i v h1 h2=>?_,B5.out,B4.out,KG.out⟩
     by_cases h4:i<j
     ·exact HMX.out i v h1 h4
     ·obtain rfl:i=j:=by omega
      rw[HU.out] at h1;obtain rfl:=Option.some.inj h1
      have h3:¬(K t.m<K u.m):=fun h=>HCP.out (by rw[HCV.out];exact cmpZ_dec.2 h)
      omega
    case measure=>simp[intOf];have:=HJN.out;omega
  ·have hge:¬((j:Int)<(xn:Int)):=by omega
   have HJE:=qh (show j=xn by have:=HJ.out;omega);clear hjn;have c0:=B5.out.cell (i:=0) rfl;have c1:=B5.out.cell (i:=1) rfl;have c2:=B5.out.cell (i:=2) rfl;have c3:=B5.out.cell (i:=3) rfl;have c4:=B5.out.cell (i:=4) rfl;have c5:=B5.out.cell (i:=5) rfl;have c6:=B5.out.cell (i:=6) rfl;have c7:=B5.out.cell (i:=7) rfl;have cf:=B4.out.fz;have cl:=B4.out.lt;have c40:=B4.out.cell (i:=0) rfl;have c41:=B4.out.cell (i:=1) rfl;have c42:=B4.out.cell (i:=2) rfl;have c43:=B4.out.cell (i:=3) rfl;have c44:=B4.out.cell (i:=4) rfl;have c45:=B4.out.cell (i:=5) rfl;have c46:=B4.out.cell (i:=6) rfl;have c47:=B4.out.cell (i:=7) rfl;go_wp2_with fail
   refine bodyPost_ret (results_cell rfl _ _ _ _ _ _ _ rfl (put8_bxs B4.out ..) Tryz.underlying32 rfl (by kernel_rfl)) rfl ⟨t,HME.out,fun u hu=>?_,rfl,put8_below KG.out HA1.out ..⟩;obtain⟨i,h⟩:=List.mem_iff_getElem?.1 hu;exact HMX.out i u h (by have h8:=(List.getElem?_eq_some_iff.1 h).1;have h5:=HL.out;have h9:=HJE.out;omega)
theorem lead1_any (o:Int) (t u:TV) (w:World) (bo:Nat) (hb:Bxs w bo 40 [.int .u8 o]) (ht:t.m.Small) (hu:u.m.Small) :
  Calls Tryz.prog 33 #[TV.v t,TV.v u,.pointer (some ⟨bo,0,none⟩)] w fun e w'=>e=.returned (.int .i64 (Mono.cmpZ (keyO o t.m) (keyO o u.m)))∧Below w.heap.size w w':=by
 obtain⟨V,hV⟩:∃ V,V=(w.alloc (.cells #[.bool t.c.t.s,.slice t.c.t.a t.c.t.n t.c.t.c,.bool t.c.l.s,.slice t.c.l.a t.c.l.n t.c.l.c,.int .u16 t.m.x,.int .u16 t.m.y,.int .u16 t.m.z,.int .u16 t.m.t] 32)).alloc (.cells #[.bool u.c.t.s,.slice u.c.t.a u.c.t.n u.c.t.c,.bool u.c.l.s,.slice u.c.l.a u.c.l.n u.c.l.c,.int .u16 u.m.x,.int .u16 u.m.y,.int .u16 u.m.z,.int .u16 u.m.t] 32):=⟨_,rfl⟩
 have hbV:Below w.heap.size w V:=by rw[hV];exact((Below.refl _ _).alloc (Nat.le_refl _) _).alloc (by go_size) _
 have B1:=qh (show Bxs V w.heap.size 32 [.bool t.c.t.s,.slice t.c.t.a t.c.t.n t.c.t.c,.bool t.c.l.s,.slice t.c.l.a t.c.l.n t.c.l.c,.int .u16 t.m.x,.int .u16 t.m.y,.int .u16 t.m.z,.int .u16 t.m.t] by rw[hV];exact(Bxs.new w 32 [.bool t.c.t.s,.slice t.c.t.a t.c.t.n t.c.t.c,.bool t.c.l.s,.slice t.c.l.a t.c.l.n t.c.l.c,.int .u16 t.m.x,.int .u16 t.m.y,.int .u16 t.m.z,.int .u16 t.m.t]).alloc _)
 have B2:=qh (show Bxs V (w.heap.size+1) 32 [.bool u.c.t.s,.slice u.c.t.a u.c.t.n u.c.t.c,.bool u.c.l.s,.slice u.c.l.a u.c.l.n u.c.l.c,.int .u16 u.m.x,.int .u16 u.m.y,.int .u16 u.m.z,.int .u16 u.m.t] by
  have h:=Bxs.new (w.alloc (.cells #[.bool t.c.t.s,.slice t.c.t.a t.c.t.n t.c.t.c,.bool t.c.l.s,.slice t.c.l.a t.c.l.n t.c.l.c,.int .u16 t.m.x,.int .u16 t.m.y,.int .u16 t.m.z,.int .u16 t.m.t] 32)) 32 [.bool u.c.t.s,.slice u.c.t.a u.c.t.n u.c.t.c,.bool u.c.l.s,.slice u.c.l.a u.c.l.n u.c.l.c,.int .u16 u.m.x,.int .u16 u.m.y,.int .u16 u.m.z,.int .u16 u.m.t];rw[World.size_alloc] at h
  rw[hV];exact h)
 have BO:=qh (hb.below hbV hb.lt);have KG:=qh hbV;have HV:=qh hV;have CM:=qh (show Calls Tryz.prog 34 #[.int .u8 o,Mo.v t.m,Mo.v u.m] V _ from Mono.cmp_any o (moF t.m) (moF u.m) V (moF_small ht) (moF_small hu));have HK:=qh (Mono.cmp_key (o:=o) (moF_small ht) (moF_small hu));clear hV hbV hb ht hu;change Calls Tryz.prog 33 #[.agg #[.bool t.c.t.s,.slice t.c.t.a t.c.t.n t.c.t.c,.bool t.c.l.s,.slice t.c.l.a t.c.l.n t.c.l.c,.int .u16 t.m.x,.int .u16 t.m.y,.int .u16 t.m.z,.int .u16 t.m.t],.agg #[.bool u.c.t.s,.slice u.c.t.a u.c.t.n u.c.t.c,.bool u.c.l.s,.slice u.c.l.a u.c.l.n u.c.l.c,.int .u16 u.m.x,.int .u16 u.m.y,.int .u16 u.m.z,.int .u16 u.m.t],.pointer (some ⟨bo,0,none⟩)] w _;go_enter Tryz.func33,Tryz.ntmps33
 go_upto_region 1 with (fail)
 rw[show(w.alloc (.cells #[.bool t.c.t.s,.slice t.c.t.a t.c.t.n t.c.t.c,.bool t.c.l.s,.slice t.c.l.a t.c.l.n t.c.l.c,.int .u16 t.m.x,.int .u16 t.m.y,.int .u16 t.m.z,.int .u16 t.m.t] 32)).alloc (.cells #[.bool u.c.t.s,.slice u.c.t.a u.c.t.n u.c.t.c,.bool u.c.l.s,.slice u.c.l.a u.c.l.n u.c.l.c,.int .u16 u.m.x,.int .u16 u.m.y,.int .u16 u.m.z,.int .u16 u.m.t] 32)=V from HV.out.symm];have c10:=B1.out.cell (i:=0) rfl;have c11:=B1.out.cell (i:=1) rfl;have c12:=B1.out.cell (i:=2) rfl;have c13:=B1.out.cell (i:=3) rfl;have c14:=B1.out.cell (i:=4) rfl;have c15:=B1.out.cell (i:=5) rfl;have c16:=B1.out.cell (i:=6) rfl;have c17:=B1.out.cell (i:=7) rfl;have c20:=B2.out.cell (i:=0) rfl;have c21:=B2.out.cell (i:=1) rfl;have c22:=B2.out.cell (i:=2) rfl;have c23:=B2.out.cell (i:=3) rfl;have c24:=B2.out.cell (i:=4) rfl;have c25:=B2.out.cell (i:=5) rfl;have c26:=B2.out.cell (i:=6) rfl;have c27:=B2.out.cell (i:=7) rfl;have co:=BO.out.cell (i:=0) rfl;go_wp2_with fail
 with_reducible refine CM.out.mono ?_
 rintro e w1 ⟨rfl,hb⟩;have KG:=qk KG hb;clear hb CM c10 c11 c12 c13 c14 c15 c16 c17 c20 c21 c22 c23 c24 c25 c26 c27 co;go_wp2_with fail
 go_ret;refine⟨?_,KG.out⟩;rw[HK.out]
 rfl
theorem lead_k (o:Int) (x:PV) (P:List Tm) (w:World) (hx:AP w x P) (hp:∀ t∈P,LQ t.2 900000) (hn:x.n≤1000000) (hne:P≠[]) :
  Calls Tryz.prog 13 #[.int .u8 o,x.v] w fun e w'=>∃ (y:FV) (t:Tm),e=.returned (.tuple #[TV.v ⟨y,t.1⟩,.bool true])∧DF w' w.heap.size y t.2∧Lead (keyO o) P t∧Below w.heap.size w w':=by
 obtain⟨V0,hV⟩:∃ V,V=(w.alloc (.cells #[.int .u8 o] 40)).alloc (.cells #[.bool false,.slice none 0 0,.bool false,.slice none 0 0,.int .u16 0,.int .u16 0,.int .u16 0,.int .u16 0] 32):=⟨_,rfl⟩
 have hbV:Below w.heap.size w V0:=by rw[hV];exact((Below.refl _ _).alloc (Nat.le_refl _) _).alloc (by go_size) _
 have BO:=qh (show Bxs V0 w.heap.size 40 [.int .u8 o] by rw[hV];exact(Bxs.new w 40 [.int .u8 o]).alloc _)
 have B4:=qh (show Bxs V0 (w.heap.size+1) 32 [.bool false,.slice none 0 0,.bool false,.slice none 0 0,.int .u16 0,.int .u16 0,.int .u16 0,.int .u16 0] by
  have h:=Bxs.new (w.alloc (.cells #[.int .u8 o] 40)) 32 [.bool false,.slice none 0 0,.bool false,.slice none 0 0,.int .u16 0,.int .u16 0,.int .u16 0,.int .u16 0];rw[World.size_alloc] at h
  rw[hV];exact h)
 have OF:=qh (of_at hx hbV hp (by omega));have HP:=qh hp;have HN:=qh hn;have HNE:=qh hne;have KG:=qh hbV;have HV:=qh hV;obtain⟨A4,hA4⟩:∃ A,A=w.heap.size+1:=⟨_,rfl⟩;have HA4:=qh (show w.heap.size≤A4 by omega);rw[← hA4] at B4;have HA5:=qh hA4;obtain⟨xa,xn,xc⟩:=x;change Calls Tryz.prog 13 #[.int .u8 o,.slice xa xn xc] w _;clear hV hbV hx hp hn hne hA4;go_enter Tryz.func13,Tryz.ntmps13
 go_upto_region 1 with (fail)
 rw[show(w.alloc (.cells #[.int .u8 o] 40)).alloc (.cells #[.bool false,.slice none 0 0,.bool false,.slice none 0 0,.int .u16 0,.int .u16 0,.int .u16 0,.int .u16 0] 32)=V0 from HV.out.symm,show w.heap.size+1=A4 from HA5.out.symm];go_wp2_with fail
 with_reducible refine OF.out.mono ?_
 rintro e w1 ⟨⟨pa,pn,pc⟩,he,hkp,hpn,hb⟩;obtain rfl:e=.returned (.slice pa pn pc):=he;have BO:=qh (BO.out.below hb BO.out.lt);have B4:=qh (B4.out.below hb B4.out.lt);have KG:=qk KG hb;have HX:=qh hkp;obtain⟨L,g1,g2,g3,g4⟩:=hkp.ex;have g2:L.length=pn:=g2
 have hlne:L≠[]:=fun h=>HNE.out (by rw[← g4,h];rfl)
 have hne2:L.map Prod.fst≠[]:=fun h=>hlne (List.map_eq_nil_iff.1 h)
 have h0:¬((pn:Int)=0):=by have:=List.length_pos_iff.2 hlne;omega
 have T1:=qh g4;have F1:=qh g3
 have hcf:∀ (args:Array Value) (w:World),(callFunc 33 args).run Tryz.prog w=.ok (.enter 33 args) w:=fun _ _=>by kernel_rfl
 have MX:=qh (max_any 33 #[.pointer (some ⟨w.heap.size,0,none⟩)] ⟨pa,pn,pc⟩ (L.map Prod.fst) (keyO o) w1 (g1.below KG.out) (by rw[List.length_map];exact g2) (Nat.le_trans hpn HN.out) hne2
  (fun t ht=>by
   obtain⟨e,he,rfl⟩:=List.mem_map.1 ht
   exact HX.out.small (tm e) (by rw[← g4];exact List.mem_map_of_mem he))
  hcf (fun t u ht hu w2 hb2=>lead1_any o t u w2 w.heap.size (BO.out.below hb2 BO.out.lt) ht hu))
 clear hkp hpn hb g1 g2 g3 g4 OF hlne hne2 hcf;go_wp2_with fail
 with_reducible refine MX.out.mono ?_
 rintro e w2 ⟨t,htm,htx,rfl,hb⟩;have B4:=qh (B4.out.below hb B4.out.lt);have KG:=qk KG hb;obtain⟨⟨t',q⟩,he,e1⟩:=List.mem_map.1 htm;obtain rfl:t'=t:=e1
 have hmem:(t'.m,q)∈P:=by rw[← T1.out];exact List.mem_map_of_mem he
 have HLD:=qh (show Lead (keyO o) P (t'.m,q) from⟨hmem,fun s hs=>by
  rw[← T1.out] at hs;obtain⟨e,he,rfl⟩:=List.mem_map.1 hs
  exact htx e.1 (List.mem_map_of_mem he)⟩)
 have LQq:=qh (HP.out _ hmem);have NT0:=qh (F1.out _ he);obtain⟨t,ht⟩:∃ t,t=t':=⟨_,rfl⟩;rw[← ht] at HLD NT0 ⊢;clear htm htx hb he hmem MX ht h0;have c40:=B4.out.cell (i:=0) rfl;have c41:=B4.out.cell (i:=1) rfl;have c42:=B4.out.cell (i:=2) rfl;have c43:=B4.out.cell (i:=3) rfl;have c44:=B4.out.cell (i:=4) rfl;have c45:=B4.out.cell (i:=5) rfl;have c46:=B4.out.cell (i:=6) rfl;have c47:=B4.out.cell (i:=7) rfl;have c4f:=B4.out.fz;have c4l:=B4.out.lt
 go_upto_region 5 with (fail)
 clear c40 c41 c42 c43 c44 c45 c46 c47 c4f c4l;obtain⟨V,hV⟩:∃ V,V=put8 w2 A4 (.bool t.c.t.s) (.slice t.c.t.a t.c.t.n t.c.t.c) (.bool t.c.l.s) (.slice t.c.l.a t.c.l.n t.c.l.c) (.int .u16 t.m.x) (.int .u16 t.m.y) (.int .u16 t.m.z) (.int .u16 t.m.t):=⟨_,rfl⟩;have B4:=qh (show Bxs V A4 32 [.bool t.c.t.s,.slice t.c.t.a t.c.t.n t.c.t.c,.bool t.c.l.s,.slice t.c.l.a t.c.l.n t.c.l.c,.int .u16 t.m.x,.int .u16 t.m.y,.int .u16 t.m.z,.int .u16 t.m.t] by rw[hV];exact put8_bxs B4.out ..);have KG:=qh (show Below w.heap.size w V by rw[hV];exact put8_below KG.out HA4.out ..);unfold put8 at hV;rw[← hV];have NT:=qh (show KF V t.c q from NT0.out.below KG.out);have HSZ:=qh (show w.heap.size≤V.heap.size from KG.out.size);clear hV NT0;obtain⟨q101,hq101⟩:∃ z:Rat,z=((1:Int):Rat):=⟨_,rfl⟩;have Hq101:=qh hq101;have LQq101:=qh (show LQ q101 3 by rw[hq101];exact LQ.int (by decide) (by decide));clear hq101;obtain⟨q102,hq102⟩:∃ z:Rat,z=q*q101:=⟨_,rfl⟩;have Hq102:=qh hq102;have LQq102:=qh (show LQ q102 1800000 by rw[hq102];exact LQ.mul (LQq.out.up (by decide:_≤900000)) (LQq101.out.up (by decide:_≤900000)) (by decide));clear hq102
 go_upto_region 5 with (fail)
 refine FS.wp_region_fresh 7 [] (FS.spOf [(2,FS.Sp.made (fun x:FV=>x.v) (fun x w'=>DF w' V.heap.size x q101) FV.blk),(3,FS.Sp.made (fun x:FV=>x.v) (fun x w'=>DF w' V.heap.size x q102) FV.blk)])
  (fun w'=>Below V.heap.size V w') (by kernel_rfl) (by kernel_rfl) (by kernel_rfl)
  (FS.spOf_cons (FS.Sp.made_keeps _ (fun _ _ _ h _ hk=>h.kept hk) (FS.notTaken (by kernel_rfl))) (FS.spOf_cons (FS.Sp.made_keeps _ (fun _ _ _ h _ hk=>h.kept hk) (FS.notTaken (by kernel_rfl))) (FS.spOf_nil))) (fun _ _ h hb=>h.trans (hb.mono h.size)) ((Below.refl _ _).drew) ?_
 simp only[List.append_eq,List.cons_append,List.nil_append,List.take_succ_cons,List.take_zero,List.drop_succ_cons,List.drop_zero]
 iterate 2
  refine FS.wpF_reads rfl rfl rfl ?_ (fun w' hw'=>?_) ?_;rotate_left
  ·have hb':=hw'.world;have hs0:=(B4.out.below hb' B4.out.lt).cell (i:=0) rfl;have hs1:=(B4.out.below hb' B4.out.lt).cell (i:=1) rfl;have hs2:=(B4.out.below hb' B4.out.lt).cell (i:=2) rfl;have hs3:=(B4.out.below hb' B4.out.lt).cell (i:=3) rfl;have hs4:=(B4.out.below hb' B4.out.lt).cell (i:=4) rfl;have hs5:=(B4.out.below hb' B4.out.lt).cell (i:=5) rfl;have hs6:=(B4.out.below hb' B4.out.lt).cell (i:=6) rfl;have hs7:=(B4.out.below hb' B4.out.lt).cell (i:=7) rfl;have hsf:=(B4.out.below hb' B4.out.lt).fz;have hsl:=(B4.out.below hb' B4.out.lt).lt;clear hw';go_simp
   try rfl
  conv=>arg 10;simp only[Act.put,zq0,zq1,zq2]
 refine FS.wpF_spec rfl rfl rfl (fun w' hw'=>?_) ?_
 ·have hb':=hw'.world;refine FS.gives_of (FS.PM (fun x:FV=>x.v) (fun x w'=>DF w' V.heap.size x q101) FV.blk w'.heap.size) ?_ (fun _ _ h=>h.post (fun _ _=>FV.inj));go_simp;have CT:=qof 1 w' (by decide) (by decide);rw[show((1:Int):Rat)=q101 from Hq101.out.symm] at CT;refine CT.mono ?_;rintro e w'' ⟨za,rfl,ho,hb⟩;exact⟨_,rfl,⟨za,rfl,ho.mono hb'.size,ho.blks⟩,hb⟩
 rintro _ ⟨y2,rfl⟩
 conv=>arg 10;simp only[Act.put,zq0,zq1,zq2]
 refine FS.wpF_spec rfl rfl rfl (fun w' hw'=>?_) ?_
 ·have hb':=hw'.world;refine FS.gives_of (FS.PM (fun x:FV=>x.v) (fun x w'=>DF w' V.heap.size x q102) FV.blk w'.heap.size) ?_ (fun _ _ h=>h.post (fun _ _=>FV.inj));go_simp;have f2:=FS.made_of (val:=(fun x:FV=>x.v)) (Φ:=fun x w'=>DF w' V.heap.size x q101) (fun _ _=>FV.inj) (hw'.fact 2 (by kernel_rfl));have CT:=qmul ((NT.out.below hb')).any (((NT.out.below hb')).len LQq.out (by decide:_≤900000)) (f2).k.any (((f2).k).len LQq101.out (by decide:_≤900000));rw[show q*q101=q102 from Hq102.out.symm] at CT;refine CT.mono ?_;rintro e w'' ⟨za,rfl,ho,hb⟩;exact⟨_,rfl,⟨za,rfl,ho.mono hb'.size,ho.blks⟩,hb⟩
 rintro _ ⟨y3,rfl⟩
 conv=>arg 10;simp only[Act.put,zq0,zq1,zq2]
 iterate 3
  refine FS.wpF_reads rfl rfl rfl ?_ (fun w' hw'=>?_) ?_;rotate_left
  ·have hb':=hw'.world;have hs0:=(B4.out.below hb' B4.out.lt).cell (i:=0) rfl;have hs1:=(B4.out.below hb' B4.out.lt).cell (i:=1) rfl;have hs2:=(B4.out.below hb' B4.out.lt).cell (i:=2) rfl;have hs3:=(B4.out.below hb' B4.out.lt).cell (i:=3) rfl;have hs4:=(B4.out.below hb' B4.out.lt).cell (i:=4) rfl;have hs5:=(B4.out.below hb' B4.out.lt).cell (i:=5) rfl;have hs6:=(B4.out.below hb' B4.out.lt).cell (i:=6) rfl;have hs7:=(B4.out.below hb' B4.out.lt).cell (i:=7) rfl;have hsf:=(B4.out.below hb' B4.out.lt).fz;have hsl:=(B4.out.below hb' B4.out.lt).lt;clear hw';go_simp
   try rfl
  conv=>arg 10;simp only[Act.put,zq0,zq1,zq2]
 refine FS.wpF_nil (fun w103 hb hF=>?_);have N104:=qh (show DF w103 V.heap.size y3 q102 from(FS.made_of (val:=(fun x:FV=>x.v)) (Φ:=fun x w'=>DF w' V.heap.size x q102) (fun _ _=>FV.inj) (hF.all 3)));clear hF;have NT:=qh (NT.out.below hb);have B4:=qh (B4.out.below hb B4.out.lt);have KG:=qk KG hb;clear hb;have HQ:=qh (show q102=q by rw[Hq102.out,Hq101.out];grind);have HD:=qh (show DF (put8 w103 A4 (.bool y3.t.s) (.slice y3.t.a y3.t.n y3.t.c) (.bool y3.l.s) (.slice y3.l.a y3.l.n y3.l.c) (.int .u16 t.m.x) (.int .u16 t.m.y) (.int .u16 t.m.z) (.int .u16 t.m.t)) w.heap.size y3 q from by rw[← HQ.out];exact put8_df (N104.out.mono HSZ.out) B4.out (by decide) ..);have HB:=qh (show Below w.heap.size w (put8 w103 A4 (.bool y3.t.s) (.slice y3.t.a y3.t.n y3.t.c) (.bool y3.l.s) (.slice y3.l.a y3.l.n y3.l.c) (.int .u16 t.m.x) (.int .u16 t.m.y) (.int .u16 t.m.z) (.int .u16 t.m.t)) from put8_below KG.out HA4.out ..);have c40:=B4.out.cell (i:=0) rfl;have c41:=B4.out.cell (i:=1) rfl;have c42:=B4.out.cell (i:=2) rfl;have c43:=B4.out.cell (i:=3) rfl;have c44:=B4.out.cell (i:=4) rfl;have c45:=B4.out.cell (i:=5) rfl;have c46:=B4.out.cell (i:=6) rfl;have c47:=B4.out.cell (i:=7) rfl;have c4f:=B4.out.fz;have c4l:=B4.out.lt;go_wp2_with fail
 exact bodyPost_ret (results_ct rfl _ _ _ _ _ _ _ rfl (put8_bxs B4.out ..) Tryz.underlying32 rfl (by kernel_rfl)) rfl ⟨y3,(t.m,q),rfl,HD.out,HLD.out,HB.out⟩
def put4 (w:World) (b:Nat) (v0 v1 v2 v3:Value):World:=(((w.setCell ⟨b,0,none⟩ v0).setCell ⟨b,1,none⟩ v1).setCell ⟨b,2,none⟩ v2).setCell ⟨b,3,none⟩ v3
theorem put4_bxs {w:World} {b:Nat} {t:TypeId} {u0 u1 u2 u3:Value} (h:Bxs w b t [u0,u1,u2,u3]) (v0 v1 v2 v3:Value):Bxs (put4 w b v0 v1 v2 v3) b t [v0,v1,v2,v3]:=(((h.put 0 v0).put 1 v1).put 2 v2).put 3 v3
theorem put4_kf {w:World} {b:Nat} {x:FV} {q:Rat} {t:TypeId} {u0 u1 u2 u3:Value} (h:KF w x q) (hb:Bxs w b t [u0,u1,u2,u3]) (n0:notInt u0=true) (n1:notInt u1=true) (n2:notInt u2=true) (n3:notInt u3=true) {v0 v1 v2 v3:Value} (m0:notInt v0=true) (m1:notInt v1=true) (m2:notInt v2=true):KF (put4 w b v0 v1 v2 v3) x q :=
 (((h.setBxs hb (by simp[n0,n1,n2,n3]) 0 v0).setBxs (hb.put 0 v0) (by simp[m0,n1,n2,n3]) 1 v1).setBxs ((hb.put 0 v0).put 1 v1) (by simp[m0,m1,n2,n3]) 2 v2).setBxs (((hb.put 0 v0).put 1 v1).put 2 v2) (by simp[m0,m1,m2,n3]) 3 v3
theorem put4_below {B:Nat} {u w:World} {b:Nat} (h:Below B u w) (hb:B≤b) (v0 v1 v2 v3:Value):Below B u (put4 w b v0 v1 v2 v3):=(((h.setCell hb v0).setCell hb v1).setCell hb v2).setCell hb v3
structure EF (w:World) (lo:Nat) (x:FV) (q:Rat):Prop where
 t:DN w lo x.t q.num
 l:DN w lo x.l (q.den:Int)
theorem EF.below {w w':World} {lo:Nat} {x:FV} {q:Rat} (h:EF w lo x q) (hb:Below w.heap.size w w'):EF w' lo x q:=⟨h.t.below hb,h.l.below hb⟩
theorem EF.mono {w:World} {lo lo':Nat} {x:FV} {q:Rat} (h:EF w lo x q) (hl:lo'≤lo):EF w lo' x q:=⟨h.t.mono hl,h.l.mono hl⟩
theorem EF.k {w:World} {lo:Nat} {x:FV} {q:Rat} (h:EF w lo x q):KF w x q:=⟨h.t.k,h.l.k⟩
theorem EF.kept {w w':World} {lo:Nat} {x:FV} {q:Rat} (h:EF w lo x q) (hk:∀ b,FV.blk x b→w'.heap[b]?=w.heap[b]?):EF w' lo x q:=⟨h.t.kept fun b hb=>hk b (Or.inl hb),h.l.kept fun b hb=>hk b (Or.inr hb)⟩
theorem EF.blks {w:World} {lo:Nat} {x:FV} {q:Rat} (h:EF w lo x q):∀ b,FV.blk x b→lo≤b∧b<w.heap.size:=fun b hb=>hb.elim (h.t.blks b) (h.l.blks b)
theorem EF.setBxs {w:World} {lo:Nat} {x:FV} {q:Rat} (h:EF w lo x q) {g:Nat} {t:TypeId} {l:List Value} (hb:Bxs w g t l) (ht:44≠t) (i:Nat) (v:Value):EF (w.setCell ⟨g,i,none⟩ v) lo x q:=⟨h.t.setBxs hb ht i v,h.l.setBxs hb ht i v⟩
def RKV (w:World) (q:Rat) (e:Ending) (w':World):Prop:=∃ y:FV,e=.returned y.v∧EF w' w.heap.size y q∧Below w.heap.size w w'
theorem FracF.rkv {w w':World} {q:Rat} {e:Ending} (h:FracF w q.num (q.den:Int) e w'):RKV w q e w':=by
 obtain⟨a1,c1,a2,c2,rfl,o1,o2,hb⟩:=h;exact⟨⟨⟨_,a1,_,c1⟩,⟨_,a2,_,c2⟩⟩,rfl,⟨⟨rfl,rfl,o1⟩,⟨rfl,rfl,o2⟩⟩,hb⟩
theorem raddV {w:World} {x y:FV} {p q:Rat} (h1:AF w x p) (b1:LF x 900000) (h2:AF w y q) (b2:LF y 900000):Calls Tryz.prog 54 #[x.v,y.v] w (RKV w (p+q)):=by
 obtain⟨o1,o2,r1,r2,e1⟩:=h1.ex;obtain⟨o3,o4,r3,r4,e2⟩:=h2.ex
 exact(rfadd_any x.t.s x.t.a x.t.n x.t.c o1 x.l.s x.l.a x.l.n x.l.c o2 y.t.s y.t.a y.t.n y.t.c o3 y.l.s y.l.a y.l.n y.l.c o4 w p q e1.symm e2.symm r1 (by omega) h1.l1 r2 (by omega) h1.l2 r3 (by omega) h2.l1 r4 (by omega) h2.l2).mono fun _ _ h=>FracF.rkv h
theorem rmulV {w:World} {x y:FV} {p q:Rat} (h1:AF w x p) (b1:LF x 900000) (h2:AF w y q) (b2:LF y 900000):Calls Tryz.prog 50 #[x.v,y.v] w (RKV w (p*q)):=by
 obtain⟨o1,o2,r1,r2,e1⟩:=h1.ex;obtain⟨o3,o4,r3,r4,e2⟩:=h2.ex
 exact(rfmul_any x.t.s x.t.a x.t.n x.t.c o1 x.l.s x.l.a x.l.n x.l.c o2 y.t.s y.t.a y.t.n y.t.c o3 y.l.s y.l.a y.l.n y.l.c o4 w p q e1.symm e2.symm r1 (by omega) h1.l1 r2 (by omega) h1.l2 r3 (by omega) h2.l1 r4 (by omega) h2.l2).mono fun _ _ h=>FracF.rkv h
theorem rnegV {w:World} {x:FV} {p:Rat} (h1:AF w x p) (b1:LF x 900000):Calls Tryz.prog 84 #[x.v] w (RKV w (-p)):=by
 obtain⟨o1,o2,r1,r2,e1⟩:=h1.ex
 exact(rfneg_any x.t.s x.t.a x.t.n x.t.c o1 x.l.s x.l.a x.l.n x.l.c o2 w p e1.symm r1 (by omega) h1.l1 r2 (by omega) h1.l2).mono fun _ _ h=>FracF.rkv h
theorem rsignV {w:World} {x:FV} {p:Rat} (h1:AF w x p) (b1:LF x 900000):Calls Tryz.prog 45 #[x.v] w fun e w'=>e=.returned (.int .i64 (cmpZ p.num 0))∧Below w.heap.size w w':=by
 obtain⟨o1,o2,r1,r2,e1⟩:=h1.ex;exact rfsign_any x.t.s x.t.a x.t.n x.t.c o1 x.l.s x.l.a x.l.n x.l.c o2 w p e1.symm r1 (by omega) h1.l1 r2 (by omega) h1.l2
theorem rofV (n:Int) (w:World) (h1:-9223372036854775808≤n) (h2:n≤9223372036854775807):Calls Tryz.prog 21 #[.int .i64 n] w (RKV w (n:Rat)) :=
 (rfof_any n w h1 h2).mono fun _ _ h=>FracF.rkv (q:=(n:Rat)) (by rw[Rat.num_intCast,Rat.den_intCast];exact h)
open Classical in
theorem rcheckV {w:World} {x:FV} {p:Rat} (h1:KF w x p) (b1:LF x 900000):Calls Tryz.prog 44 #[x.v] w fun e w'=>e=.returned (.bool true)∧Below w.heap.size w w':=by
 have h:=rfcheck_any x.t.s x.t.a x.t.n x.t.c _ x.l.s x.l.a x.l.n x.l.c _ w h1.t.rd (by omega) h1.t.le h1.l.rd (by omega) h1.l.le;rw[decide_eq_true (by rw[h1.t.s,h1.t.n,h1.l.s,h1.l.n];exact okF_canon p)] at h;exact h
open Classical in
theorem rcheckVB {w:World} {x:FV} (h1:BF w x) (b1:LF x 900000):Calls Tryz.prog 44 #[x.v] w fun e w'=>e=.returned (.bool false)∧Below w.heap.size w w':=by
 obtain⟨o1,o2,r1,r2,hk⟩:=h1.ex;have h:=rfcheck_any x.t.s x.t.a x.t.n x.t.c o1 x.l.s x.l.a x.l.n x.l.c o2 w r1 (by omega) h1.l1 r2 (by omega) h1.l2;rw[decide_eq_false hk] at h;exact h
theorem rcmpV (o:Int) (a b:Mo) (w:World) (ha:a.Small) (hb:b.Small):Calls Tryz.prog 46 #[.int .u8 o,Mo.v a,Mo.v b] w fun e w'=>e=.returned (.int .i64 (Mono.cmpZ (keyO o a) (keyO o b)))∧Below w.heap.size w w':=by
 have h:=Mono.rcmp_any o (moF a) (moF b) w (moF_small ha) (moF_small hb);rw[Mono.cmp_key (o:=o) (moF_small ha) (moF_small hb)] at h;exact h
theorem lt_key0 {a b:Mo} (ha:a.Small) (hb:b.Small):a.lt b↔keyO 0 a<keyO 0 b:=by
 have hk:∀ m:Mo,keyO 0 m=(m.x:Int)*281474976710656+(m.y:Int)*4294967296+(m.z:Int)*65536+(m.t:Int):=fun m=>by
  unfold keyO Mono.KO;rw[if_neg (by decide),if_neg (by decide)]
  rfl
 obtain⟨a1,a2,a3,a4⟩:=ha;obtain⟨b1,b2,b3,b4⟩:=hb;rw[hk,hk];unfold Mo.lt;omega
end Go.Proofs.YtjcmanikkcfnmaaGreat.Pol

