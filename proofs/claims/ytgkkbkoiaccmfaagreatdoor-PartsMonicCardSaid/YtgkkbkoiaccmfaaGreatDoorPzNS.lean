/-
  The law PartsMonic: whatever it is handed, it returns true, and what it was handed reads behind the call as it read before; the card ties the listed tables to the program's text.
-/
import Derived.Test.YtgkkbkoiaccmfaaGreatDoorPzNR
import Derived.Test.YtgkkbkoiaccmfaaGreatDoorCards
import Derived.Test.YtgkkbkoiaccmfaaGreatDoorTie
import Derived.WalkKit
import Derived.ProofKit
import Derived.OpenShut
import Derived.Deep.DeepHandedRow
import Derived.Lib.LaidTab
set_option linter.unusedSimpArgs false
set_option linter.unusedVariables false
set_option maxHeartbeats 16000000
set_option maxRecDepth 100000
namespace Go.Proofs.YtgkkbkoiaccmfaaGreatDoor
namespace Pol
open Go.RowKit Go.Sort Limb Book
theorem YI (o:Int) (x1:PV) (L1:List TO) (w:World) (h1:Yx w x1 L1) :
  Calls Tryz.prog 7 #[.int .u8 o,.slice x1.a x1.n x1.c] w fun e w'=>e=.returned (.bool true)/\Below w.heap.size w w':=by
 have KG:=qh (Below.refl w.heap.size w);have N1:=qh h1;clear h1;go_enter Tryz.func7,Tryz.ntmps7;go_wp2_with fail
 obtain⟨w1,hV⟩:∃ V,V=w.alloc (.cells #[.slice x1.a x1.n x1.c] 23):=⟨_,rfl⟩
 have hb:Below w.heap.size w w1:=by rw[hV];exact zk.alloc zj _
 have BXG:=qh (show Bxs w1 w.heap.size 23 [.slice x1.a x1.n x1.c] by rw[hV];exact Bxs.new w 23 [.slice x1.a x1.n x1.c]);rw[<- hV];have KG:=qk KG hb;clear hV hb;have CT:=qh (show Calls Tryz.prog 10 #[.int .i64 30,.slice (some ⟨w.heap.size,0,none⟩) 1 1] w1 _ from great1P (m:=30) BXG.o (N1.o.below KG.o) (by decide));with_reducible refine CT.o.mono ?_
 rintro e w2 ⟨gb,rfl,hn,hb⟩;clear CT BXG;have KG:=qk KG hb;clear hb
 rcases Bool.eq_false_or_eq_true gb with rfl | rfl
 ·clear hn;go_wp2_with fail
  go_ret;exact⟨rfl,KG.o⟩
 have GX:=qh (hn rfl);clear hn;obtain⟨P1,ok1,hsa⟩:=sa_of (E:=65535) N1.o GX.o (fun e he=>N1.o.2.2.2.2 e he) (by decide);have HXN1:=qh (show x1.n<=30 from by have h1:=(GX.o).1;have h2:=N1.o.2.1;rw[List.length_map] at h1;omega);have HPC1:=qh hsa.b;have HA1:=qh (hsa.below KG.o);clear hsa;obtain⟨R,hrq,hrn,hmo,hmr⟩:=jd1 o HA1.o (by decide) (by decide) (by decide);have RQ:=qh hrq;have RN:=qh hrn;have MO:=qh hmo;have MR:=qh hmr;clear hrq hrn hmo hmr N1 GX;have W1:=qh (Below.refl w2.heap.size w2);have IG1:=qh (KG.o.size);have CT:=qh (show Calls Tryz.prog 12 #[.slice x1.a x1.n x1.c] w2 _ from twin_sa HA1.o (by decide));go_wp2_with fail
 with_reducible refine CT.o.mono ?_
 rintro e w3 ⟨y1,rfl,hyn,hya,htw,hb⟩;clear CT;have KG:=qk KG hb;have HA1:=qh (HA1.o.below hb);have W1:=qk W1 hb;have HYN1:=qh hyn;have HY1:=qh hya;have HT1:=qh htw;clear hyn hya;have G1:=qh (show GP w3 y1 (0) w2.heap.size w3.heap.size from Tw2.gp htw (by have:=HXN1.o;omega) hb.size (by have:=HXN1.o;omega));clear hb;clear htw;have Qz1:=qh (show ∀ t∈R,LQ t.2 900000 from RQ.o);have Lz1:=qh (show R.length<=30 from RN.o);have IG2:=qh (G1.o.le);have CT:=qh (show Calls Tryz.prog 47 #[.int .u8 o,.slice y1.a y1.n y1.c] w3 _ from MO.o _ y1 HY1.o);go_wp2_with fail
 with_reducible refine CT.o.mono ?_
 rintro e w4 ⟨z1,rfl,hz,hb⟩;clear CT;have KG:=qk KG hb;have HA1:=qh (HA1.o.below hb);have W1:=qk W1 hb;have G1:=qh (G1.o.below hb);have HY1:=qh (HY1.o.below hb);have HT1:=qh (HT1.o.below hb);have Dz1:=qh hz;have HNz1:=qh hz.k.len;have G2:=qh (show GP w4 z1 (0+2*y1.n+1) w3.heap.size w4.heap.size from DP.gp hz Qz1.o (by have:=HXN1.o;have:=HYN1.o;have:=Lz1.o;omega) hb.size (by have:=hz.k.len;have:=HXN1.o;have:=HYN1.o;have:=Lz1.o;omega));clear hb;clear hz;have Qz2:=qh (show ∀ t∈R,LQ t.2 900000 from RQ.o);have Lz2:=qh (show R.length<=30 from RN.o);have IG3:=qh (G2.o.le);have CT:=qh (show Calls Tryz.prog 47 #[.int .u8 o,.slice y1.a y1.n y1.c] w4 _ from MO.o _ y1 HY1.o);go_wp2_with fail
 with_reducible refine CT.o.mono ?_
 rintro e w5 ⟨z2,rfl,hz,hb⟩;clear CT;have KG:=qk KG hb;have HA1:=qh (HA1.o.below hb);have W1:=qk W1 hb;have G1:=qh (G1.o.below hb);have HY1:=qh (HY1.o.below hb);have HT1:=qh (HT1.o.below hb);have G2:=qh (G2.o.below hb);have Dz1:=qh (Dz1.o.below hb);have Dz2:=qh hz;have HNz2:=qh hz.k.len;have G3:=qh (show GP w5 z2 (0+2*y1.n+1+2*z1.n+1) w4.heap.size w5.heap.size from DP.gp hz Qz2.o (by have:=HXN1.o;have:=HYN1.o;have:=Lz1.o;have:=HNz1.o;have:=Lz2.o;omega) hb.size (by have:=hz.k.len;have:=HXN1.o;have:=HYN1.o;have:=Lz1.o;have:=HNz1.o;have:=Lz2.o;omega));clear hb;clear hz;have CT:=qh (show Calls Tryz.prog 48 #[.int .u8 o,.slice x1.a x1.n x1.c] w5 _ from MR.o _ x1 HA1.o);go_wp2_with fail
 with_reducible refine CT.o.mono ?_
 rintro e w6 ⟨u1,rfl,hu,hb⟩;clear CT;have KG:=qk KG hb;have HA1:=qh (HA1.o.below hb);have W1:=qk W1 hb;have G1:=qh (G1.o.below hb);have HY1:=qh (HY1.o.below hb);have HT1:=qh (HT1.o.below hb);have G2:=qh (G2.o.below hb);have Dz1:=qh (Dz1.o.below hb);have G3:=qh (G3.o.below hb);have Dz2:=qh (Dz2.o.below hb);have Eu1:=qh hu.k;clear hu;clear hb;have CT:=qh (show Calls Tryz.prog 18 #[.slice z1.a z1.n z1.c,.slice u1.a u1.n u1.c] w6 _ from same_k z1 u1 _ w6 Dz1.o.k Eu1.o Qz1.o (by have:=Lz1.o;omega));go_wp2_with fail
 with_reducible refine CT.o.mono ?_
 rintro e w7 ⟨rfl,hb⟩;clear CT;have KG:=qk KG hb;have HA1:=qh (HA1.o.below hb);have W1:=qk W1 hb;have G1:=qh (G1.o.below hb);have HY1:=qh (HY1.o.below hb);have HT1:=qh (HT1.o.below hb);have G2:=qh (G2.o.below hb);have Dz1:=qh (Dz1.o.below hb);have G3:=qh (G3.o.below hb);have Dz2:=qh (Dz2.o.below hb);have Eu1:=qh (Eu1.o.below hb);clear hb;have CT:=qh (show Calls Tryz.prog 18 #[.slice z2.a z2.n z2.c,.slice z1.a z1.n z1.c] w7 _ from same_k z2 z1 _ _ Dz2.o.k Dz1.o.k Qz1.o (by have:=Lz1.o;omega));go_wp2_with fail
 with_reducible refine CT.o.mono ?_
 rintro e w8 ⟨rfl,hb⟩;clear CT;have KG:=qk KG hb;have HA1:=qh (HA1.o.below hb);have W1:=qk W1 hb;have G1:=qh (G1.o.below hb);have HY1:=qh (HY1.o.below hb);have HT1:=qh (HT1.o.below hb);have G2:=qh (G2.o.below hb);have Dz1:=qh (Dz1.o.below hb);have G3:=qh (G3.o.below hb);have Dz2:=qh (Dz2.o.below hb);have Eu1:=qh (Eu1.o.below hb);clear hb;have CT:=qh (show Calls Tryz.prog 21 #[.slice y1.a y1.n y1.c,.slice x1.a x1.n x1.c] w8 _ from HT1.o.left W1.o (by have:=HXN1.o;omega));go_wp2_with fail
 with_reducible refine CT.o.mono ?_
 rintro e w9 ⟨rfl,hb⟩;clear CT;have KG:=qk KG hb;have HA1:=qh (HA1.o.below hb);have W1:=qk W1 hb;have G1:=qh (G1.o.below hb);have HY1:=qh (HY1.o.below hb);have HT1:=qh (HT1.o.below hb);have G2:=qh (G2.o.below hb);have Dz1:=qh (Dz1.o.below hb);have G3:=qh (G3.o.below hb);have Dz2:=qh (Dz2.o.below hb);have Eu1:=qh (Eu1.o.below hb);clear hb;clear Dz1 Dz2 Eu1 HT1 HA1 HY1 W1;have HKW:=qh (show w.heap.size<=w9.heap.size from KG.o.size);have JG1:=qh G1.o.le;have JG2:=qh G2.o.le;have JG3:=qh G3.o.le
 go_upto_region 9 with (fail)
 obtain⟨w10,hV⟩:∃ V,V=w9.alloc (.cells book0 53):=⟨_,rfl⟩
 have hb:Below w9.heap.size w9 w10:=by rw[hV];exact zk.alloc zj _
 have HB:=qh (show BG w10 w9.heap.size w9.heap.size 0 w.heap.size w.heap.size 0 0 by rw[hV];exact BG.new w9 KG.o.size);rw[show w9.alloc (.cells #[.int .i64 0,.slice none 0 0,.slice none 0 0,.slice none 0 0,.slice none 0 0,.slice none 0 0,.slice none 0 0,.slice none 0 0,.slice none 0 0,.slice none 0 0,.slice none 0 0,.slice none 0 0,.slice none 0 0] 53)=w10 from hV.symm];have KG:=qk KG hb;have G1:=qh (G1.o.below hb);have G2:=qh (G2.o.below hb);have G3:=qh (G3.o.below hb);obtain⟨bs,hbs⟩:∃ b,b=w9.heap.size:=⟨_,rfl⟩;rw[<- hbs] at JG1;rw[<- hbs] at JG2;rw[<- hbs] at JG3;have HBW:=qh (show w.heap.size<=bs by rw[hbs];exact(show w.heap.size<=w9.heap.size from HKW.o));rw[<- hbs] at HB ⊢;clear hbs hV hb HKW;have CT:=qh (show Calls Tryz.prog 23 #[.pointer (some ⟨bs,0,none⟩),.slice y1.a y1.n y1.c] w10 _ from HB.o.polyP G1.o IG1.o JG1.o (by have:=HXN1.o;have:=HYN1.o;have:=Lz1.o;have:=HNz1.o;have:=Lz2.o;have:=HNz2.o;omega));go_wp2_with fail
 with_reducible refine CT.o.mono ?_
 rintro e w11 ⟨⟨r,rfl⟩,hB,hk⟩;have HB:=qh hB;have KG:=qh (KG.o.trans (hk.bel.mono HBW.o));have G2:=qh (G2.o.Zj hk JG2.o);have G3:=qh (G3.o.Zj hk JG3.o);clear CT hB hk G1 IG1;have CT:=qh (show Calls Tryz.prog 23 #[.pointer (some ⟨bs,0,none⟩),.slice z1.a z1.n z1.c] w11 _ from HB.o.polyP G2.o IG2.o JG2.o (by have:=HXN1.o;have:=HYN1.o;have:=Lz1.o;have:=HNz1.o;have:=Lz2.o;have:=HNz2.o;omega));go_wp2_with fail
 with_reducible refine CT.o.mono ?_
 rintro e w12 ⟨⟨r,rfl⟩,hB,hk⟩;have HB:=qh hB;have KG:=qh (KG.o.trans (hk.bel.mono HBW.o));have G3:=qh (G3.o.Zj hk JG3.o);clear CT hB hk G2 IG2;have CT:=qh (show Calls Tryz.prog 23 #[.pointer (some ⟨bs,0,none⟩),.slice z2.a z2.n z2.c] w12 _ from HB.o.polyP G3.o IG3.o JG3.o (by have:=HXN1.o;have:=HYN1.o;have:=Lz1.o;have:=HNz1.o;have:=Lz2.o;have:=HNz2.o;omega));go_wp2_with fail
 with_reducible refine CT.o.mono ?_
 rintro e w13 ⟨⟨r,rfl⟩,hB,hk⟩;have HB:=qh hB;have KG:=qh (KG.o.trans (hk.bel.mono HBW.o));clear CT hB hk G3 IG3;have CT:=qh (show Calls Tryz.prog 25 #[.pointer (some ⟨bs,0,none⟩)] w13 _ from HB.o.apartA (by omega) (by have:=HXN1.o;have:=HYN1.o;have:=Lz1.o;have:=HNz1.o;have:=Lz2.o;have:=HNz2.o;omega));go_wp2_with fail
 with_reducible refine CT.o.mono ?_
 rintro e w14 ⟨rfl,hb⟩;go_wp2_with fail
 go_ret;exact⟨rfl,KG.o.trans hb⟩
end Pol
namespace Limb
open Go.RowKit Go.Sort Pol
open Go.ChangeShapes Go.WideShapes Go.ChangeAt
namespace PartsMonicC
theorem own:ownKnob Tryz.prog.godebug=none:=by kernel_rfl
theorem laidOut:laidOutB Tryz.prog=true:=by kernel_rfl
noncomputable def Yf (os:Os):World :=
 { World.holding Tryz.prog os ⟨#[],#[],[]⟩ with heap:=((((World.holding Tryz.prog os ⟨#[],#[],[]⟩).heap.modify 0 fun
   | .cells _ t frozen=>.cells #[.int .u64 1,.int .u64 10,.int .u64 100,.int .u64 1000,.int .u64 10000,.int .u64 100000,.int .u64 1000000,.int .u64 10000000,.int .u64 100000000,.int .u64 1000000000,.int .u64 10000000000,.int .u64 100000000000,.int .u64 1000000000000,.int .u64 10000000000000,.int .u64 100000000000000,.int .u64 1000000000000000,.int .u64 10000000000000000,.int .u64 100000000000000000,.int .u64 1000000000000000000,.int .u64 10000000000000000000] t frozen
   | o=>o).modify 1 fun
   | .cells _ t frozen=>.cells #[.int .u8 0,.int .u8 1,.int .u8 28,.int .u8 2,.int .u8 29,.int .u8 14,.int .u8 24,.int .u8 3,.int .u8 30,.int .u8 22,.int .u8 20,.int .u8 15,.int .u8 25,.int .u8 17,.int .u8 4,.int .u8 8,.int .u8 31,.int .u8 27,.int .u8 13,.int .u8 23,.int .u8 21,.int .u8 19,.int .u8 16,.int .u8 7,.int .u8 26,.int .u8 12,.int .u8 18,.int .u8 6,.int .u8 11,.int .u8 5,.int .u8 10,.int .u8 9] t frozen
   | o=>o).modify 2 fun
   | .cells _ t frozen=>.cells #[.int .u8 0,.int .u8 1,.int .u8 56,.int .u8 2,.int .u8 57,.int .u8 49,.int .u8 28,.int .u8 3,.int .u8 61,.int .u8 58,.int .u8 42,.int .u8 50,.int .u8 38,.int .u8 29,.int .u8 17,.int .u8 4,.int .u8 62,.int .u8 47,.int .u8 59,.int .u8 36,.int .u8 45,.int .u8 43,.int .u8 51,.int .u8 22,.int .u8 53,.int .u8 39,.int .u8 33,.int .u8 30,.int .u8 24,.int .u8 18,.int .u8 12,.int .u8 5,.int .u8 63,.int .u8 55,.int .u8 48,.int .u8 27,.int .u8 60,.int .u8 41,.int .u8 37,.int .u8 16,.int .u8 46,.int .u8 35,.int .u8 44,.int .u8 21,.int .u8 52,.int .u8 32,.int .u8 23,.int .u8 11,.int .u8 54,.int .u8 26,.int .u8 40,.int .u8 15,.int .u8 34,.int .u8 20,.int .u8 31,.int .u8 10,.int .u8 25,.int .u8 14,.int .u8 19,.int .u8 9,.int .u8 13,.int .u8 8,.int .u8 7,.int .u8 6] t frozen
   | o=>o) }
noncomputable def Vp:Array Value:=#[.int .u8 0,.slice none 0 0]
theorem laid_met (os:Os):laidMet Tryz.prog Rows.partsMonicRow.laid ((Yf os).forCall (fun _ _=>0) ⟨#[],Vp,[]⟩).memory :=
 laidMet_of_run' 8 (by kernel_rfl) (by kernel_rfl)
theorem reads (os:Os) {H:Type} (enc:TypeId × Value->H):∃ places,DataW.whole enc Tryz.prog ((Yf os).forCall (fun _ _=>0) ⟨#[],Vp,[]⟩).memory Tryz.f7.params.toList Rows.partsMonicSpec.vars false Vp.toList 8=some ([.lit (.int .u8 0),.nil],[],places) :=
 ⟨[],by kernel_rfl⟩
theorem lifted (os:Os) (started:os.Started) (H:Type) (enc:TypeId × Value->H) (F:Stop.Interp) :
  ReturnsInHanded {} Tryz.checked os 7 .any ((OpenSpec.ofChange Rows.partsMonicSpec).preRow enc Tryz.prog Tryz.f7 Rows.partsMonicRow.domain false Rows.partsMonicRow.laid) (((OpenSpec.ofChange Rows.partsMonicSpec).at F).post enc Tryz.prog Tryz.f7 false true false false):=by
 obtain⟨places,hx⟩:=reads os enc
 refine returnsInHanded_of_row (C:=Tryz.checked) (s:=OpenSpec.ofChange Rows.partsMonicSpec) own started (by kernel_rfl) Tryz.func7
  (witness_row_at (enc:=enc) (C:=Tryz.checked) false (Yf os) Vp rfl (by kernel_rfl) (by kernel_rfl) (by kernel_rfl)
   (OpenSpec.preRow_of_cond 8 hx (by kernel_rfl) (fun k hk=>by cases hk) (by kernel_rfl) (laid_met os))) ?_
 intro W base args ds gs before hval0 hW _ _ _ _ _ _;have hval:∀ (j:Nat) t v,Tryz.f7.params[j]?=some t->args[j]?=some v->Value.okWide Tryz.prog W .any base t v:=hval0;have hW':=hW;obtain⟨p,q,hA0,hV,rfl,hfz,hnd⟩:=hW;have hA:DataW.TrodAll enc Tryz.prog W 0 (fun _=>true) true Tryz.f7.params.toList args.toList ds p:=hA0;rw[Tryz.params7] at hA hval;obtain⟨v0,v1,d0,d1,p0,p1,rfl,rfl,rfl,h0,h1⟩:=trodAll_two hA;obtain⟨rfl,rfl⟩:=trodVars_none hV;obtain⟨z0,rfl,-,-,wz0⟩:=open_int Tryz.underlying66 (hval 0 66 v0 rfl rfl) h0;obtain⟨x1,L1,rfl,r1⟩:=jgl (hval 1 23 v1 rfl rfl) h1
 refine(YI z0 x1 L1 W r1).mono fun e W' ⟨he,hg⟩=>?_
 subst he;exact⟨_,rfl,LawPost.law_post laidOut (by kernel_rfl) (by kernel_rfl) Tryz.underlying4 hW' rfl rfl hg⟩
theorem k4:mapsRowed Tryz.prog=true:=by kernel_rfl
theorem k10:(Rows.partsMonicRow.inPlace==Tryz.prog.inPlace 7)=true:=by kernel_rfl
theorem k11:(Rows.partsMonicRow.unfollowed==Tryz.prog.unfollowed 7)=true:=by kernel_rfl
theorem k12:(Rows.partsMonicRow.recurses==Tryz.prog.recurses 7)=true:=by kernel_rfl
theorem k13:(Rows.partsMonicRow.named==Tryz.prog.varsNamed 7)=true:=by kernel_rfl
theorem closed:joinedFacts Tryz.prog 7 Tryz.f7 (OpenSpec.ofChange Rows.partsMonicSpec).bare Rows.partsMonicRow=true:=by
 unfold joinedFacts;rw[laidOut,k4,k10,k11,k12,k13]
 kernel_rfl
theorem said:Rows.PartsMonicSaid :=
 OpenClaim.holds_of_cond 7 Tryz.f7 rfl rfl rfl rfl rfl rfl rfl ⟨rfl,rfl,rfl,rfl,rfl⟩ rfl rfl rfl rfl rfl (by kernel_rfl) Tryz.func7 closed
  (of_decide_eq_true (by kernel_rfl)) (by unfold Func.isWrapper;first | (rw[if_pos (by decide +kernel)];kernel_rfl) | (rw[if_neg (by decide +kernel)];exact⟨rfl,rfl⟩))
  (fun os started H enc _ F=>by rw[OpenClaim.pre_eq_preRow];exact lifted os started H enc F)
theorem plain (f : FuncId) (fn : Func) (hf : Tryz.pinned.checked.prog.funcNamed "reckoner/reckonerlaw07.PartsMonic" = some f) (hfn : Tryz.pinned.checked.prog.funcs[f]? = some fn) :
  false=Tryz.pinned.checked.prog.looks []/\∀ (j:Nat) t,fn.params[j]?=some t->Tryz.pinned.checked.prog.wantsStandIn t=false:=by
 obtain rfl : f = 7 := Option.some.inj ((show Tryz.prog.funcNamed "reckoner/reckonerlaw07.PartsMonic" = some 7 by kernel_rfl).symm.trans hf) |>.symm
 obtain rfl:fn=Tryz.f7:=(Option.some.inj (Tryz.func7.symm.trans hfn)).symm;refine⟨by kernel_rfl,fun j t ht=>?_⟩;rw[Tryz.params7] at ht
 have hm:t=66\/t=23:=by simpa using Array.mem_of_getElem? ht
 rcases hm with rfl | rfl
 ·exact(show Tryz.prog.wantsStandIn 66=false by kernel_rfl)
 ·exact(show Tryz.prog.wantsStandIn 23=false by kernel_rfl)
theorem card:Rows.PartsMonicCardSaid :=
 Claim7.holds_tied_plain_at .later [] _ _ _ _ said (fun _ h=>by cases h) (by kernel_rfl) (fun _ h=>by cases h) partsMonic_row_tie rfl ⟨rfl,rfl⟩ (by kernel_rfl) rfl plain (by kernel_rfl)
#print axioms card
end PartsMonicC
end Limb
end Go.Proofs.YtgkkbkoiaccmfaaGreatDoor
