/-
  Groups of lists and rows: each alone, none with another's memory; what a Book's Apart wants of them.
-/
import Derived.Test.YtgkkbkoiaccmfaaGreatDoorPzQO
set_option linter.unusedSimpArgs false
set_option linter.unusedVariables false
set_option maxHeartbeats 16000000
set_option maxRecDepth 100000
namespace Go.Proofs.YtgkkbkoiaccmfaaGreatDoor
namespace Pol
open Go.RowKit Go.Sort Limb
def FB (w:World) (x:FV) (ok:Bool):Prop:=match ok with
 | true=>∃ q,KF w x q
 | false=>BF w x
theorem FB.below {w w':World} {x:FV} {ok:Bool} (h:FB w x ok) (hb:Below w.heap.size w w'):FB w' x ok:=by
 cases ok with
 | true=>exact h.imp fun q h=>KF.below h hb
 | false=>exact BF.below h hb
theorem at1_c (x:FV) (ok:Bool) (w:World) (h:FB w x ok) (hl:LF x 900000):Calls Tryz.prog 123 #[x.v] w fun e w'=>e=.returned (.bool (!ok))/\Below w.heap.size w w':=by
 obtain⟨V,hV⟩:∃ V,V=w.alloc (.cells #[.bool x.t.s,.slice x.t.a x.t.n x.t.c,.bool x.l.s,.slice x.l.a x.l.n x.l.c] 28):=⟨_,rfl⟩
 have hbV:Below w.heap.size w V:=by rw[hV];exact zk.alloc zj _
 have B1:=qh (show Bxs V w.heap.size 28 [.bool x.t.s,.slice x.t.a x.t.n x.t.c,.bool x.l.s,.slice x.l.a x.l.n x.l.c] by rw[hV];exact Bxs.new w 28 [.bool x.t.s,.slice x.t.a x.t.n x.t.c,.bool x.l.s,.slice x.l.a x.l.n x.l.c]);have KG:=qh hbV;have HV:=qh hV
 have CK:=qh (show Calls Tryz.prog 124 #[x.v] V fun e w'=>e=.returned (.bool ok)/\Below V.heap.size V w' by
  cases ok with
  | true=>obtain⟨q,hq⟩:=h;exact YD (hq.below hbV) hl
  | false=>exact jeg (BF.below h hbV) hl)
 clear hV hbV h hl;change Calls Tryz.prog 123 #[.agg #[.bool x.t.s,.slice x.t.a x.t.n x.t.c,.bool x.l.s,.slice x.l.a x.l.n x.l.c]] w _;go_enter Tryz.func123,Tryz.ntmps123
 go_upto_region 1 with (fail)
 rw[show w.alloc (.cells #[.bool x.t.s,.slice x.t.a x.t.n x.t.c,.bool x.l.s,.slice x.l.a x.l.n x.l.c] 28)=V from HV.o.symm];have c0:=B1.o.ce 0;have c1:=B1.o.ce 1;have c2:=B1.o.ce 2;have c3:=B1.o.ce 3;go_wp2_with fail
 with_reducible refine CK.o.mono ?_
 rintro e w1 ⟨rfl,hb⟩;have KG:=qk KG hb;clear hb CK c0 c1 c2 c3;go_wp2_with fail
 go_ret;exact⟨rfl,KG.o⟩
structure B4 (w:World) (x0 x1 x2 x3:FV) (ok:Nat->Bool):Prop where
 k0:FB w x0 (ok 0)
 k1:FB w x1 (ok 1)
 k2:FB w x2 (ok 2)
 k3:FB w x3 (ok 3)
 l0:LF x0 900000
 l1:LF x1 900000
 l2:LF x2 900000
 l3:LF x3 900000
theorem B4.below {w w':World} {x0 x1 x2 x3:FV} {ok:Nat->Bool} (h:B4 w x0 x1 x2 x3 ok) (hb:Below w.heap.size w w'):B4 w' x0 x1 x2 x3 ok:=⟨h.k0.below hb,h.k1.below hb,h.k2.below hb,h.k3.below hb,h.l0,h.l1,h.l2,h.l3⟩
def IN (w:World) (e:Ending) (w':World):Prop:=∃ r:Nat,e=.returned (.int .i64 (r:Int))/\Below w.heap.size w w'
theorem IN.is {w w':World} (r:Nat) (h:Below w.heap.size w w'):IN w (.returned (.int .i64 (r:Int))) w':=⟨r,rfl,h⟩
theorem idx_c (b:Nat) (x0 x1 x2 x3:FV) (ok:Nat->Bool) (w:World) (hb:Bxs w b 58 [.bool x0.t.s,.slice x0.t.a x0.t.n x0.t.c,.bool x0.l.s,.slice x0.l.a x0.l.n x0.l.c,.bool x1.t.s,.slice x1.t.a x1.t.n x1.t.c,.bool x1.l.s,.slice x1.l.a x1.l.n x1.l.c,.bool x2.t.s,.slice x2.t.a x2.t.n x2.t.c,.bool x2.l.s,.slice x2.l.a x2.l.n x2.l.c,.bool x3.t.s,.slice x3.t.a x3.t.n x3.t.c,.bool x3.l.s,.slice x3.l.a x3.l.n x3.l.c]) (h:B4 w x0 x1 x2 x3 ok) (hn:∃ i,i<4/\ok i=false) :
  Calls Tryz.prog 203 #[.slice (some ⟨b,0,none⟩) 4 4,.func (.func 123) #[] #[]] w (IN w):=by
 have BB:=qh hb;have HH:=qh h;have HN:=qh hn
 have hcf:∀ (args:Array Value) (w:World),(callFunc 123 args).run Tryz.prog w=.ok (.enter 123 args) w:=fun _ _=>by kernel_rfl
 clear hb h hn;go_enter Tryz.func203,Tryz.ntmps203;go_wp2_with fail
 go_loopw [8] (fun i wr=>∃ j:Nat,j<=4/\i=.int .i64 j/\(∀ i,i<j->ok i=true)/\Below w.heap.size w wr) (fun i _=>4-(intOf i).toNat)
 case atStart=>exact⟨0,Nat.zero_le _,rfl,fun i hi=>absurd hi (Nat.not_lt_zero _),zk⟩
 case round =>
  obtain⟨j,hj,rfl,hal,hb0⟩:=hrel;have KG:=qh hb0;have HAL:=qh hal;have B1:=qh (BB.o.bl hb0);have H4:=qh (HH.o.below hb0);clear hb0 hal;by_cases hjn:j<4
  ·have hl5:j=0\/j=1\/j=2\/j=3:=by omega
   clear hj hjn;have c0:=B1.o.ce 0;have c1:=B1.o.ce 1;have c2:=B1.o.ce 2;have c3:=B1.o.ce 3;have c4:=B1.o.ce 4;have c5:=B1.o.ce 5;have c6:=B1.o.ce 6;have c7:=B1.o.ce 7;have c8:=B1.o.ce 8;have c9:=B1.o.ce 9;have c10:=B1.o.ce 10;have c11:=B1.o.ce 11;have c12:=B1.o.ce 12;have c13:=B1.o.ce 13;have c14:=B1.o.ce 14;have c15:=B1.o.ce 15
   rcases hl5 with rfl | rfl | rfl | rfl
   ·have AK:=qh (at1_c x0 (ok 0) wr H4.o.k0 H4.o.l0);obtain⟨o,ho⟩:∃ o,o=ok 0:=⟨_,rfl⟩;rw[<- ho] at AK;have HO:=qh ho;clear ho;go_wp2_with fail
    with_reducible refine AK.o.mono ?_
    rintro e w1 ⟨rfl,hb⟩;have KG:=qk KG hb;clear hb AK c0 c1 c2 c3 c4 c5 c6 c7 c8 c9 c10 c11 c12 c13 c14 c15
    rcases Bool.eq_false_or_eq_true o with rfl | rfl
    ·go_wp2_with fail
     go_roundw
     case rel=>exact⟨1,by omega,rfl,fun i hi=>(by
      by_cases hi2:i<0
      ·exact HAL.o i hi2
      ·obtain rfl:i=0:=by omega
       exact HO.o.symm),KG.o⟩
     case measure=>simp[intOf]
    ·go_wp2_with fail
     go_ret;exact IN.is 0 KG.o
   ·have AK:=qh (at1_c x1 (ok 1) wr H4.o.k1 H4.o.l1);obtain⟨o,ho⟩:∃ o,o=ok 1:=⟨_,rfl⟩;rw[<- ho] at AK;have HO:=qh ho;clear ho;go_wp2_with fail
    with_reducible refine AK.o.mono ?_
    rintro e w1 ⟨rfl,hb⟩;have KG:=qk KG hb;clear hb AK c0 c1 c2 c3 c4 c5 c6 c7 c8 c9 c10 c11 c12 c13 c14 c15
    rcases Bool.eq_false_or_eq_true o with rfl | rfl
    ·go_wp2_with fail
     go_roundw
     case rel=>exact⟨2,by omega,rfl,fun i hi=>(by
      by_cases hi2:i<1
      ·exact HAL.o i hi2
      ·obtain rfl:i=1:=by omega
       exact HO.o.symm),KG.o⟩
     case measure=>simp[intOf]
    ·go_wp2_with fail
     go_ret;exact IN.is 1 KG.o
   ·have AK:=qh (at1_c x2 (ok 2) wr H4.o.k2 H4.o.l2);obtain⟨o,ho⟩:∃ o,o=ok 2:=⟨_,rfl⟩;rw[<- ho] at AK;have HO:=qh ho;clear ho;go_wp2_with fail
    with_reducible refine AK.o.mono ?_
    rintro e w1 ⟨rfl,hb⟩;have KG:=qk KG hb;clear hb AK c0 c1 c2 c3 c4 c5 c6 c7 c8 c9 c10 c11 c12 c13 c14 c15
    rcases Bool.eq_false_or_eq_true o with rfl | rfl
    ·go_wp2_with fail
     go_roundw
     case rel=>exact⟨3,by omega,rfl,fun i hi=>(by
      by_cases hi2:i<2
      ·exact HAL.o i hi2
      ·obtain rfl:i=2:=by omega
       exact HO.o.symm),KG.o⟩
     case measure=>simp[intOf]
    ·go_wp2_with fail
     go_ret;exact IN.is 2 KG.o
   ·have AK:=qh (at1_c x3 (ok 3) wr H4.o.k3 H4.o.l3);obtain⟨o,ho⟩:∃ o,o=ok 3:=⟨_,rfl⟩;rw[<- ho] at AK;have HO:=qh ho;clear ho;go_wp2_with fail
    with_reducible refine AK.o.mono ?_
    rintro e w1 ⟨rfl,hb⟩;have KG:=qk KG hb;clear hb AK c0 c1 c2 c3 c4 c5 c6 c7 c8 c9 c10 c11 c12 c13 c14 c15
    rcases Bool.eq_false_or_eq_true o with rfl | rfl
    ·go_wp2_with fail
     go_roundw
     case rel=>exact⟨4,by omega,rfl,fun i hi=>(by
      by_cases hi2:i<3
      ·exact HAL.o i hi2
      ·obtain rfl:i=3:=by omega
       exact HO.o.symm),KG.o⟩
     case measure=>simp[intOf]
    ·go_wp2_with fail
     go_ret;exact IN.is 3 KG.o
  ·obtain rfl:j=4:=by omega
   obtain⟨i,hi,h0⟩:=HN.o;rw[HAL.o i hi] at h0
   cases h0
theorem con_c (b:Nat) (x0 x1 x2 x3:FV) (ok:Nat->Bool) (w:World) (hb:Bxs w b 58 [.bool x0.t.s,.slice x0.t.a x0.t.n x0.t.c,.bool x0.l.s,.slice x0.l.a x0.l.n x0.l.c,.bool x1.t.s,.slice x1.t.a x1.t.n x1.t.c,.bool x1.l.s,.slice x1.l.a x1.l.n x1.l.c,.bool x2.t.s,.slice x2.t.a x2.t.n x2.t.c,.bool x2.l.s,.slice x2.l.a x2.l.n x2.l.c,.bool x3.t.s,.slice x3.t.a x3.t.n x3.t.c,.bool x3.l.s,.slice x3.l.a x3.l.n x3.l.c]) (h:B4 w x0 x1 x2 x3 ok) (hn:∃ i,i<4/\ok i=false) :
  Calls Tryz.prog 122 #[.slice (some ⟨b,0,none⟩) 4 4,.func (.func 123) #[] #[]] w fun e w'=>e=.returned (.bool true)/\Below w.heap.size w w':=by
 have IK:=qh (idx_c b x0 x1 x2 x3 ok w hb h hn);clear hb h hn;go_enter Tryz.func122,Tryz.ntmps122;go_wp2_with fail
 with_reducible refine IK.o.mono ?_
 rintro e w1 ⟨r,rfl,hb⟩;have KG:=qh hb
 have h1:(r:Int) ≥ 0:=by omega
 have h2:(0:Int)<=(r:Int):=h1;clear hb IK;go_wp2_with fail
 go_ret;exact⟨rfl,KG.o⟩
theorem at_bad (x:PV) (x0 x1 x2 x3:FV) (w:World) (hx:BP w x) (hn:x.n<=1000000000) :
  Calls Tryz.prog 27 #[x.v,.agg #[.bool x0.t.s,.slice x0.t.a x0.t.n x0.t.c,.bool x0.l.s,.slice x0.l.a x0.l.n x0.l.c,.bool x1.t.s,.slice x1.t.a x1.t.n x1.t.c,.bool x1.l.s,.slice x1.l.a x1.l.n x1.l.c,.bool x2.t.s,.slice x2.t.a x2.t.n x2.t.c,.bool x2.l.s,.slice x2.l.a x2.l.n x2.l.c,.bool x3.t.s,.slice x3.t.a x3.t.n x3.t.c,.bool x3.l.s,.slice x3.l.a x3.l.n x3.l.c]] w fun e w'=>e=.returned (.tuple #[.agg #[.bool false,.slice none 0 0,.bool false,.slice none 0 0],.int .i64 1])/\Below w.heap.size w w':=by
 obtain⟨V0,hV⟩:∃ V,V=(w.alloc (.cells #[.bool x0.t.s,.slice x0.t.a x0.t.n x0.t.c,.bool x0.l.s,.slice x0.l.a x0.l.n x0.l.c,.bool x1.t.s,.slice x1.t.a x1.t.n x1.t.c,.bool x1.l.s,.slice x1.l.a x1.l.n x1.l.c,.bool x2.t.s,.slice x2.t.a x2.t.n x2.t.c,.bool x2.l.s,.slice x2.l.a x2.l.n x2.l.c,.bool x3.t.s,.slice x3.t.a x3.t.n x3.t.c,.bool x3.l.s,.slice x3.l.a x3.l.n x3.l.c] 58)).alloc (.cells #[.bool false,.slice none 0 0,.bool false,.slice none 0 0] 28):=⟨_,rfl⟩
 have hbV:Below w.heap.size w V0:=by rw[hV];exact(zk.alloc zj _).alloc (by go_size) _
 have B3:=qh (show Bxs V0 w.heap.size 58 [.bool x0.t.s,.slice x0.t.a x0.t.n x0.t.c,.bool x0.l.s,.slice x0.l.a x0.l.n x0.l.c,.bool x1.t.s,.slice x1.t.a x1.t.n x1.t.c,.bool x1.l.s,.slice x1.l.a x1.l.n x1.l.c,.bool x2.t.s,.slice x2.t.a x2.t.n x2.t.c,.bool x2.l.s,.slice x2.l.a x2.l.n x2.l.c,.bool x3.t.s,.slice x3.t.a x3.t.n x3.t.c,.bool x3.l.s,.slice x3.l.a x3.l.n x3.l.c] by rw[hV];exact(Bxs.new w 58 [.bool x0.t.s,.slice x0.t.a x0.t.n x0.t.c,.bool x0.l.s,.slice x0.l.a x0.l.n x0.l.c,.bool x1.t.s,.slice x1.t.a x1.t.n x1.t.c,.bool x1.l.s,.slice x1.l.a x1.l.n x1.l.c,.bool x2.t.s,.slice x2.t.a x2.t.n x2.t.c,.bool x2.l.s,.slice x2.l.a x2.l.n x2.l.c,.bool x3.t.s,.slice x3.t.a x3.t.n x3.t.c,.bool x3.l.s,.slice x3.l.a x3.l.n x3.l.c]).alloc _)
 have B5:=qh (show Bxs V0 (w.heap.size+1) 28 [.bool false,.slice none 0 0,.bool false,.slice none 0 0] by
  have h:=Bxs.new (w.alloc (.cells #[.bool x0.t.s,.slice x0.t.a x0.t.n x0.t.c,.bool x0.l.s,.slice x0.l.a x0.l.n x0.l.c,.bool x1.t.s,.slice x1.t.a x1.t.n x1.t.c,.bool x1.l.s,.slice x1.l.a x1.l.n x1.l.c,.bool x2.t.s,.slice x2.t.a x2.t.n x2.t.c,.bool x2.l.s,.slice x2.l.a x2.l.n x2.l.c,.bool x3.t.s,.slice x3.t.a x3.t.n x3.t.c,.bool x3.l.s,.slice x3.l.a x3.l.n x3.l.c] 58)) 28 [.bool false,.slice none 0 0,.bool false,.slice none 0 0];rw[World.size_alloc] at h
  rw[hV];exact h)
 obtain⟨A3,hA3⟩:∃ A,A=w.heap.size:=⟨_,rfl⟩;obtain⟨A4,hA4⟩:∃ A,A=w.heap.size+1:=⟨_,rfl⟩;have HA4:=qh (show w.heap.size<=A4 by omega);have KG:=qh hbV;have HV:=qh hV;have CK:=qh (jer (hx.below hbV) hn);clear hx hn;have HE4:=qh hA4;have HE3:=qh hA3;rw[<- hA4] at B5;rw[<- hA3] at B3;obtain⟨xa,xn,xc⟩:=x;change Calls Tryz.prog 27 #[.slice xa xn xc,.agg #[.bool x0.t.s,.slice x0.t.a x0.t.n x0.t.c,.bool x0.l.s,.slice x0.l.a x0.l.n x0.l.c,.bool x1.t.s,.slice x1.t.a x1.t.n x1.t.c,.bool x1.l.s,.slice x1.l.a x1.l.n x1.l.c,.bool x2.t.s,.slice x2.t.a x2.t.n x2.t.c,.bool x2.l.s,.slice x2.l.a x2.l.n x2.l.c,.bool x3.t.s,.slice x3.t.a x3.t.n x3.t.c,.bool x3.l.s,.slice x3.l.a x3.l.n x3.l.c]] w _;clear hV hbV hA3 hA4;go_enter Tryz.func27,Tryz.ntmps27
 go_upto_region 1 with (fail)
 rw[show(w.alloc (.cells #[.bool x0.t.s,.slice x0.t.a x0.t.n x0.t.c,.bool x0.l.s,.slice x0.l.a x0.l.n x0.l.c,.bool x1.t.s,.slice x1.t.a x1.t.n x1.t.c,.bool x1.l.s,.slice x1.l.a x1.l.n x1.l.c,.bool x2.t.s,.slice x2.t.a x2.t.n x2.t.c,.bool x2.l.s,.slice x2.l.a x2.l.n x2.l.c,.bool x3.t.s,.slice x3.t.a x3.t.n x3.t.c,.bool x3.l.s,.slice x3.l.a x3.l.n x3.l.c] 58)).alloc (.cells #[.bool false,.slice none 0 0,.bool false,.slice none 0 0] 28)=V0 from HV.o.symm,show w.heap.size+1=A4 from HE4.o.symm,show w.heap.size=A3 from HE3.o.symm];go_wp2_with fail
 with_reducible refine CK.o.mono ?_
 rintro e w1 ⟨rfl,hb⟩;have B3:=qh (B3.o.bl hb);have B5:=qh (B5.o.bl hb);have KG:=qk KG hb;clear hb CK;have c0:=B5.o.ce 0;have c1:=B5.o.ce 1;have c2:=B5.o.ce 2;have c3:=B5.o.ce 3;have cf:=B5.o.fz;have cl:=B5.o.lt;go_wp2_with fail
 exact bodyPost_ret (Qk rfl _ _ _ _ _ _ _ rfl (JP B5.o ..) Tryz.underlying28 rfl (by kernel_rfl)) rfl ⟨rfl,Jv KG.o HA4.o ..⟩
theorem at_lbad (x:PV) (x0 x1 x2 x3:FV) (w:World) (P:List Tm) (ok:Nat->Bool) (hx:KP w x P) (hp:∀ t∈P,LQ t.2 900000) (hn:x.n<=1000000000) (h4:B4 w x0 x1 x2 x3 ok) (hb4:∃ i,i<4/\ok i=false) :
  Calls Tryz.prog 27 #[x.v,.agg #[.bool x0.t.s,.slice x0.t.a x0.t.n x0.t.c,.bool x0.l.s,.slice x0.l.a x0.l.n x0.l.c,.bool x1.t.s,.slice x1.t.a x1.t.n x1.t.c,.bool x1.l.s,.slice x1.l.a x1.l.n x1.l.c,.bool x2.t.s,.slice x2.t.a x2.t.n x2.t.c,.bool x2.l.s,.slice x2.l.a x2.l.n x2.l.c,.bool x3.t.s,.slice x3.t.a x3.t.n x3.t.c,.bool x3.l.s,.slice x3.l.a x3.l.n x3.l.c]] w fun e w'=>e=.returned (.tuple #[.agg #[.bool false,.slice none 0 0,.bool false,.slice none 0 0],.int .i64 1])/\Below w.heap.size w w':=by
 obtain⟨V0,hV⟩:∃ V,V=(w.alloc (.cells #[.bool x0.t.s,.slice x0.t.a x0.t.n x0.t.c,.bool x0.l.s,.slice x0.l.a x0.l.n x0.l.c,.bool x1.t.s,.slice x1.t.a x1.t.n x1.t.c,.bool x1.l.s,.slice x1.l.a x1.l.n x1.l.c,.bool x2.t.s,.slice x2.t.a x2.t.n x2.t.c,.bool x2.l.s,.slice x2.l.a x2.l.n x2.l.c,.bool x3.t.s,.slice x3.t.a x3.t.n x3.t.c,.bool x3.l.s,.slice x3.l.a x3.l.n x3.l.c] 58)).alloc (.cells #[.bool false,.slice none 0 0,.bool false,.slice none 0 0] 28):=⟨_,rfl⟩
 have hbV:Below w.heap.size w V0:=by rw[hV];exact(zk.alloc zj _).alloc (by go_size) _
 have B3:=qh (show Bxs V0 w.heap.size 58 [.bool x0.t.s,.slice x0.t.a x0.t.n x0.t.c,.bool x0.l.s,.slice x0.l.a x0.l.n x0.l.c,.bool x1.t.s,.slice x1.t.a x1.t.n x1.t.c,.bool x1.l.s,.slice x1.l.a x1.l.n x1.l.c,.bool x2.t.s,.slice x2.t.a x2.t.n x2.t.c,.bool x2.l.s,.slice x2.l.a x2.l.n x2.l.c,.bool x3.t.s,.slice x3.t.a x3.t.n x3.t.c,.bool x3.l.s,.slice x3.l.a x3.l.n x3.l.c] by rw[hV];exact(Bxs.new w 58 [.bool x0.t.s,.slice x0.t.a x0.t.n x0.t.c,.bool x0.l.s,.slice x0.l.a x0.l.n x0.l.c,.bool x1.t.s,.slice x1.t.a x1.t.n x1.t.c,.bool x1.l.s,.slice x1.l.a x1.l.n x1.l.c,.bool x2.t.s,.slice x2.t.a x2.t.n x2.t.c,.bool x2.l.s,.slice x2.l.a x2.l.n x2.l.c,.bool x3.t.s,.slice x3.t.a x3.t.n x3.t.c,.bool x3.l.s,.slice x3.l.a x3.l.n x3.l.c]).alloc _)
 have B5:=qh (show Bxs V0 (w.heap.size+1) 28 [.bool false,.slice none 0 0,.bool false,.slice none 0 0] by
  have h:=Bxs.new (w.alloc (.cells #[.bool x0.t.s,.slice x0.t.a x0.t.n x0.t.c,.bool x0.l.s,.slice x0.l.a x0.l.n x0.l.c,.bool x1.t.s,.slice x1.t.a x1.t.n x1.t.c,.bool x1.l.s,.slice x1.l.a x1.l.n x1.l.c,.bool x2.t.s,.slice x2.t.a x2.t.n x2.t.c,.bool x2.l.s,.slice x2.l.a x2.l.n x2.l.c,.bool x3.t.s,.slice x3.t.a x3.t.n x3.t.c,.bool x3.l.s,.slice x3.l.a x3.l.n x3.l.c] 58)) 28 [.bool false,.slice none 0 0,.bool false,.slice none 0 0];rw[World.size_alloc] at h
  rw[hV];exact h)
 obtain⟨A3,hA3⟩:∃ A,A=w.heap.size:=⟨_,rfl⟩;obtain⟨A4,hA4⟩:∃ A,A=w.heap.size+1:=⟨_,rfl⟩;have HA4:=qh (show w.heap.size<=A4 by omega);have KG:=qh hbV;have HV:=qh hV;have CK:=qh (Y6 (hx.below hbV) hp hn);have H4:=qh h4;have HB4:=qh hb4;clear hx hp hn h4 hb4;have HE4:=qh hA4;have HE3:=qh hA3;rw[<- hA4] at B5;rw[<- hA3] at B3;obtain⟨xa,xn,xc⟩:=x;change Calls Tryz.prog 27 #[.slice xa xn xc,.agg #[.bool x0.t.s,.slice x0.t.a x0.t.n x0.t.c,.bool x0.l.s,.slice x0.l.a x0.l.n x0.l.c,.bool x1.t.s,.slice x1.t.a x1.t.n x1.t.c,.bool x1.l.s,.slice x1.l.a x1.l.n x1.l.c,.bool x2.t.s,.slice x2.t.a x2.t.n x2.t.c,.bool x2.l.s,.slice x2.l.a x2.l.n x2.l.c,.bool x3.t.s,.slice x3.t.a x3.t.n x3.t.c,.bool x3.l.s,.slice x3.l.a x3.l.n x3.l.c]] w _;clear hV hbV hA3 hA4;go_enter Tryz.func27,Tryz.ntmps27
 go_upto_region 1 with (fail)
 rw[show(w.alloc (.cells #[.bool x0.t.s,.slice x0.t.a x0.t.n x0.t.c,.bool x0.l.s,.slice x0.l.a x0.l.n x0.l.c,.bool x1.t.s,.slice x1.t.a x1.t.n x1.t.c,.bool x1.l.s,.slice x1.l.a x1.l.n x1.l.c,.bool x2.t.s,.slice x2.t.a x2.t.n x2.t.c,.bool x2.l.s,.slice x2.l.a x2.l.n x2.l.c,.bool x3.t.s,.slice x3.t.a x3.t.n x3.t.c,.bool x3.l.s,.slice x3.l.a x3.l.n x3.l.c] 58)).alloc (.cells #[.bool false,.slice none 0 0,.bool false,.slice none 0 0] 28)=V0 from HV.o.symm,show w.heap.size+1=A4 from HE4.o.symm,show w.heap.size=A3 from HE3.o.symm];go_wp2_with fail
 with_reducible refine CK.o.mono ?_
 rintro e w1 ⟨rfl,hb⟩;have B3:=qh (B3.o.bl hb);have B5:=qh (B5.o.bl hb);have KG:=qk KG hb;clear hb CK;have CN:=qh (con_c A3 x0 x1 x2 x3 ok w1 B3.o (H4.o.below KG.o) HB4.o);go_wp2_with fail
 with_reducible refine CN.o.mono ?_
 rintro e w2 ⟨rfl,hb⟩;have B5:=qh (B5.o.bl hb);have KG:=qk KG hb;clear hb CN;have c0:=B5.o.ce 0;have c1:=B5.o.ce 1;have c2:=B5.o.ce 2;have c3:=B5.o.ce 3;have cf:=B5.o.fz;have cl:=B5.o.lt;go_wp2_with fail
 exact bodyPost_ret (Qk rfl _ _ _ _ _ _ _ rfl (JP B5.o ..) Tryz.underlying28 rfl (by kernel_rfl)) rfl ⟨rfl,Jv KG.o HA4.o ..⟩
theorem DF.only {w w':World} {lo c:Nat} {x:FV} {q:Rat} {es:Array MapEntry} {k:Nat} (h:DF w lo x q) (ho:Only c w w') (hc:w.heap[c]?=some (.map es k)):DF w' lo x q :=
 h.kept fun b hb=>by
  obtain⟨cur,h1⟩:=DF.blkc h hb
  exact ho.2.2.2.2 b (lt_of_block h1) fun e=>by rw[e,hc] at h1;cases h1
theorem MK.only {w w':World} {lo b c:Nat} {L:List TE} {es:Array MapEntry} {k:Nat} (h:MK w lo b L) (ho:Only c w w') (hc:w.heap[c]?=some (.map es k)) (hne:b≠c):MK w' lo b L :=
 ⟨(ho.2.2.2.2 b h.lt hne).trans h.blk,h.ge,fun e he=>DF.only (h.df e he) ho hc,h.ap,h.keys,h.small⟩
theorem ZX (A:List Tm) (t:Tm) (i k:Nat):VB (A++[t]) i k=VB A i k++(if t.1.at i=k then [(t.1.cut i,t.2)] else []):=by
 unfold VB;rw[List.filter_append,List.map_append]
 congr 1
 by_cases h:t.1.at i=k
 ·rw[if_pos h,List.filter_cons_of_pos (by simpa using h)];rfl
 ·rw[if_neg h,List.filter_cons_of_neg (by simpa using h)];rfl
structure MR (w:World) (lo g d i:Nat) (A:List Tm) (bs:Nat->Option Nat) (Ms:Nat->List TE):Prop where
 row:w.rowIs g 123 (d+1) (fun k=>.map (bs k))
 nil:∀ k,k<=d->bs k=none->VB A i k=[]
 got:∀ k b,k<=d->bs k=some b->MK w lo b (Ms k)/\∀ f,ev ((Ms k).map tm) f=ev (VB A i k) f
 inj:∀ k j b,k<=d->j<=d->bs k=some b->bs j=some b->k=j
theorem MR.add {w w':World} {lo g d i b:Nat} {A:List Tm} {bs:Nat->Option Nat} {Ms:Nat->List TE} (h:MR w lo g d i A bs Ms) {m:Mo} {q:Rat} (hk:m.at i<=d) (hb:bs (m.at i)=some b) (ho:Only b w w')
  {L':List TE} (hM:MK w' lo b L') (hL:L'.map tm=KC (m.cut i) q ((Ms (m.at i)).map tm)):MR w' lo g d i (A++[(m,q)]) bs (fun k=>if k=m.at i then L' else Ms k) where
 row:=h.row.of_block (ho.2.2.2.2 g h.row.lt fun e=>by
  obtain⟨c,h1,_⟩:=h.row;rw[e,(h.got _ b hk hb).1.blk] at h1
  cases h1)
 nil k hkd h0:=by
  rw[ZX,h.nil k hkd h0,if_neg fun e=>by rw[<- e,show((m,q):Tm).1.at i=m.at i from rfl,hb] at h0;cases h0];rfl
 got k c hkd h1:=by
  by_cases e:k=m.at i
  ·subst e;obtain rfl:b=c:=Option.some.inj (hb.symm.trans h1);rw[if_pos rfl];refine⟨hM,fun f=>?_⟩;rw[hL,U4,(h.got _ b hk hb).2 f,ZX,if_pos rfl,QP];show _=_+(q*f (m.cut i)+0);grind
  ·rw[if_neg e]
   have hne:c≠b:=fun hc=>e (h.inj k _ b hkd hk (by rw[h1,hc]) hb)
   refine⟨MK.only (h.got k c hkd h1).1 ho (h.got _ b hk hb).1.blk hne,fun f=>?_⟩;rw[ZX,if_neg fun hc=>e hc.symm,List.append_nil];exact(h.got k c hkd h1).2 f
 inj:=h.inj
structure PC (P:List Tm) (n k e:Nat):Prop where
 c:Canon P
 b:PB P n k e
theorem PC.up {P:List Tm} {n k e n' k' e':Nat} (h:PC P n k e) (hn:n<=n') (hk:k<=k') (he:e<=e'):PC P n' k' e':=⟨h.c,h.b.up hn hk he⟩
theorem PC.lq {P:List Tm} {n k e m:Nat} (h:PC P n k e) (hm:k<=m):∀ t∈P,LQ t.2 m:=fun t ht=>(h.b.lq t ht).up hm
theorem PC.both {P:List Tm} {n k e:Nat} (h:PC P n k e):∀ t∈P,LQ t.2 k/\t.1.le e:=fun t ht=>⟨h.b.lq t ht,h.b.ex t ht⟩
theorem PC.nil (n k e:Nat):PC [] n k e:=⟨Canon.nil,PB.nil n k e⟩
theorem PC.add {P Q:List Tm} {n1 k1 e1 n2 k2 e2:Nat} (h1:PC P n1 k1 e1) (h2:PC Q n2 k2 e2) (k e:Nat) (a:k1<=k) (b:k2<=k) (c:e1<=e) (d:e2<=e):PC (addP P Q) (n1+n2) (2*k+1) e :=
 ⟨jcn _ _,PB.add h1.c h2.c (h1.b.up zj a c) (h2.b.up zj b d)⟩
theorem PC.mul {P Q:List Tm} {n1 k1 e1 n2 k2 e2:Nat} (h1:PC P n1 k1 e1) (h2:PC Q n2 k2 e2):PC (mulP P Q) (n1*n2) (n1*(k1+k2+1)) (e1+e2):=⟨jco _ _,PB.mulC h2.c h1.b h2.b⟩
theorem dec_le {m:Mo} {e:Nat} (h:m.le e) (i:Nat):(m.dec i).le e:=by
 obtain⟨h1,h2,h3,h4⟩:=h;unfold Mo.dec;split
 ·exact⟨zm (Nat.sub_le _ _) h1,h2,h3,h4⟩
 ·split
  ·exact⟨h1,zm (Nat.sub_le _ _) h2,h3,h4⟩
  ·split
   ·exact⟨h1,h2,zm (Nat.sub_le _ _) h3,h4⟩
   ·exact⟨h1,h2,h3,zm (Nat.sub_le _ _) h4⟩
theorem ja3 {m:Mo} {e:Nat} (h:m.le e) (he:e<=65535):m.Small:=⟨zm h.1 he,zm h.2.1 he,zm h.2.2.1 he,zm h.2.2.2 he⟩
theorem PC.slope {P:List Tm} {n k e:Nat} (h:PC P n k e) (i:Nat) (he:e<=65535):PC (Zj P i) n (n*(k+4)) e:=by
 refine⟨J8 _,PB.nf (k:=k+3) ⟨?_,fun t ht=>?_,fun t ht=>?_⟩⟩
 ·unfold jah;rw[List.length_map];exact h.b.len
 ·obtain⟨s,hs,rfl⟩:=List.mem_map.1 ht;exact lq_at (ja3 (h.b.ex s hs) he) i (h.b.lq s hs)
 ·obtain⟨s,hs,rfl⟩:=List.mem_map.1 ht;exact dec_le (h.b.ex s hs) i
theorem PC.of {q:Rat} {k:Nat} (h:LQ q k):PC (nf [(Mo.one,q)]) 1 (k+1) 0:=by
 have hb:PB [(Mo.one,q)] 1 k 0:=⟨zj,fun t ht=>by rw[List.mem_singleton.1 ht];exact h,fun t ht=>by rw[List.mem_singleton.1 ht];exact⟨zj,zj,zj,zj⟩⟩;have h1:=hb.nf;rw[Nat.one_mul] at h1;exact⟨J8 _,h1⟩
theorem PC.at {P:List Tm} {n k e kl:Nat} {l:Nat->Rat} (h:PC P n k e) (hl:∀ i,LQ (l i) kl):LQ (ev P (atM l)) ((n+1)*(k+4*(e*kl+1)+1)):=by
 have hq:∀ t∈P,LQ (t.2*atM l t.1) (k+4*(e*kl+1)):=fun t ht=>by
  have h1:=jdn (h.b.lq t ht) hl (fun i=>at_one t.1 i e (h.b.ex t ht)) 4;rwa [KH] at h1
 rcases ev_nq hq with h0 | ⟨j,hj0,hj,hn⟩
 ·rw[h0];exact jei (Nat.mul_pos (Nat.succ_pos _) (Nat.succ_pos _))
 ·exact hn.lq (Nat.mul_le_mul_right _ (zm hj (Nat.le_succ_of_le h.b.len)))
theorem KP.n_le {w:World} {x:PV} {P:List Tm} {n k e:Nat} (h:KP w x P) (b:PC P n k e):x.n<=n:=by rw[h.len];exact b.b.len
theorem pat {w:World} {x:PV} {P:List Tm} {x0 x1 x2 x3:FV} {l:Nat->Rat} {n k e kl:Nat} (hx:KP w x P) (b:PC P n k e) (h4:K4 w x0 x1 x2 x3 l) (hl:∀ i,LQ (l i) kl)
  (hn:n<=1000000) (hE:e<=65535) (hk:(n+1)*(k+4*(e*kl+1)+1)<=900000) (hkl:kl<=900000) :
  Calls Tryz.prog 27 #[x.v,.agg #[.bool x0.t.s,.slice x0.t.a x0.t.n x0.t.c,.bool x0.l.s,.slice x0.l.a x0.l.n x0.l.c,.bool x1.t.s,.slice x1.t.a x1.t.n x1.t.c,.bool x1.l.s,.slice x1.l.a x1.l.n x1.l.c,.bool x2.t.s,.slice x2.t.a x2.t.n x2.t.c,.bool x2.l.s,.slice x2.l.a x2.l.n x2.l.c,.bool x3.t.s,.slice x3.t.a x3.t.n x3.t.c,.bool x3.l.s,.slice x3.l.a x3.l.n x3.l.c]] w fun e w'=>∃ y:FV,e=.returned (.tuple #[y.v,.int .i64 0])/\DF w' w.heap.size y (ev P (atM l))/\Below w.heap.size w w' :=
 at_k x P x0 x1 x2 x3 l k kl e w hx h4 b.both hl (zm b.b.len hn) hE (zm (Nat.mul_le_mul_right _ (Nat.succ_le_succ b.b.len)) hk) hkl
theorem KE.gr {w:World} {x:PV} {L:List TO} (h:KE w x L):RT w x.a (L.map Prod.fst)/\(L.map Prod.fst).length=x.n:=⟨h.1,by rw[List.length_map];exact h.2.1⟩
theorem great1P {w:World} {g m:Nat} {x:PV} {L:List TO} (hb:Bxs w g 23 [x.v]) (h1:KE w x L) (hm:m<=1000) :
  Calls Tryz.prog 10 #[.int .i64 m,.slice (some ⟨g,0,none⟩) 1 1] w (BR w (Qs m (L.map Prod.fst))) :=
 (jdj g m 1 [(x,L.map Prod.fst)] w rfl (fun i e h=>by match i,h with | 0,h=>exact(Option.some.inj h)▸hb.ce 0) (fun e he=>by rw[List.mem_singleton.1 he];exact h1.gr) (by simp) hm).mono
  fun e w' ⟨b,g1,g2,g3⟩=>⟨b,g1,fun hb=>g2 hb _ (List.mem_singleton.2 rfl),g3⟩
theorem ptall {w:World} {x:PV} {L:List TO} {m:Nat} (h:KE w x L) (hg:Qs m (L.map Prod.fst)) (hm:m<=1000):Calls Tryz.prog 26 #[x.v] w (BR w (∀ e∈L,e.1.m.le 12)) :=
 (tall_any x (L.map Prod.fst) w h.1 (by rw[List.length_map];exact h.2.1) (by have h1:=hg.1;rw[List.length_map,h.2.1] at h1;omega)).mono fun e w' ⟨b,g1,g2,g3⟩=>⟨b,g1,fun hb e he=>g2 hb e.1 (List.mem_map_of_mem he),g3⟩
theorem KE.rawP {w:World} {x:PV} {L:List TO} {m:Nat} (h:KE w x L) (hg:Qs m (L.map Prod.fst)):Ul w x L:=h.raw fun e he=>by
 obtain⟨h1,h2⟩:=hg.2 e.1 (List.mem_map_of_mem he);exact⟨zm h1 (by decide),zm h2 (by decide)⟩
theorem jgn {w:World} {x:PV} {L:List TO} {m E:Nat} (h:KE w x L) (hg:Qs m (L.map Prod.fst)) (hw:∀ e∈L,e.1.m.le E):(∃ P,KP w x P/\PC P m 4 E)\/BP w x:=by
 have hr:=h.rawP hg;by_cases hk:okP L
 ·obtain⟨P,hv,hc⟩:=hk;refine Or.inl ⟨P,hr.kp hv hc,hc,?_⟩;obtain⟨K,hK,hP⟩:=Yc hv
  have hin:∀ e∈K,(e.1,some e.2)∈L:=fun e he=>by rw[hK];exact List.mem_map_of_mem he
  refine⟨?_,fun t ht=>?_,fun t ht=>?_⟩
  ·have h1:=hg.1;rw[List.length_map,hK,List.length_map] at h1;rw[<- hP,List.length_map];exact h1
  ·rw[<- hP] at ht;obtain⟨e,he,rfl⟩:=List.mem_map.1 ht;have h1:KF w e.1.c e.2:=hr.2.2.2.1 _ (hin e he);obtain⟨h2,h3⟩:=hg.2 e.1 (List.mem_map_of_mem (f:=Prod.fst) (hin e he));exact h1.lq ⟨h2,zm h3 (by decide)⟩
  ·rw[<- hP] at ht;obtain⟨e,he,rfl⟩:=List.mem_map.1 ht;exact hw _ (hin e he)
 ·exact Or.inr ⟨L,hr,hk⟩
theorem BP.n_le {w:World} {x:PV} {L:List TO} {m:Nat} (h:KE w x L) (hg:Qs m (L.map Prod.fst)):x.n<=m:=by
 have h1:=hg.1;rw[List.length_map,h.2.1] at h1;exact h1
abbrev OC (w:World) (lo:Nat) (v:Value) (Zs:List PV):Prop:=w.ownsRow lo 23 1 v Zs.length (Zs.map PV.v)
theorem MR.only {w w':World} {lo g d i b:Nat} {A:List Tm} {bs:Nat->Option Nat} {Ms:Nat->List TE} (h:MR w lo g d i A bs Ms):∀ k b,k<=d->bs k=some b->MK w lo b (Ms k):=fun k b hk hb=>(h.got k b hk hb).1
theorem OC.own {w:World} {lo:Nat} {v:Value} {Zs:List PV} (h:OC w lo v Zs) {k:Nat} (hk:some k=v.ownBlock):lo<=k/\∃ cur,w.heap[k]?=some (.cells cur 23 (0,0)):=by
 rcases h.2 with ⟨hv,_⟩ | ⟨g,cap,cur,hv,hlo,hg,_⟩
 ·rw[hv] at hk;cases hk
 ·rw[hv] at hk;have hk:some k=some g:=hk
  cases hk
  exact⟨hlo,cur,hg⟩
theorem DP.none (w:World) (lo:Nat):DP w lo ⟨none,0,0⟩ []:=⟨⟨[],World.ownsRow_nil _ _ _ _,fun e he=>(by cases he),List.Pairwise.nil,rfl⟩,Canon.nil,fun t ht=>(by cases ht)⟩
def l4 (a b c d:Rat):Nat->Rat:=fun i=>if i=0 then a else if i=1 then b else if i=2 then c else d
theorem k4_of {w:World} {x0 x1 x2 x3:FV} {a b c d:Rat} (h0:KF w x0 a) (h1:KF w x1 b) (h2:KF w x2 c) (h3:KF w x3 d):K4 w x0 x1 x2 x3 (l4 a b c d):=⟨h0,h1,h2,h3⟩
theorem l4_lq {a b c d:Rat} {k:Nat} (h0:LQ a k) (h1:LQ b k) (h2:LQ c k) (h3:LQ d k):∀ i,LQ (l4 a b c d i) k:=fun i=>by
 unfold l4;split
 ·exact h0
 ·split
  ·exact h1
  ·split
   ·exact h2
   ·exact h3
structure CP (w:World) (a:Option Addr) (n c:Nat) (P:List Tm) (i:Nat):Prop where
 len:(n:Int)=degP P i+1
 get:∀ k,k<n->∃ (b:Nat) (z:PV),a=some ⟨b,0,none⟩/\w.cell? ⟨b,k,none⟩=some z.v/\KP w z (VB P i k)
 cap:n<=c
theorem CP.of {w:World} {lo:Nat} {v:Value} {Zs:List PV} {P:List Tm} {i:Nat} (h:OC w lo v Zs) (hl:(Zs.length:Int)=degP P i+1) (hd:∀ k z,Zs[k]?=some z->DP w lo z (VB P i k)):∃ a c,v=.slice a Zs.length c/\CP w a Zs.length c P i:=by
 rcases h.2 with ⟨hv,h0⟩ | ⟨g,cap,cur,hv,hlo,hg,hnc,_,hcs,htake⟩
 ·refine⟨none,0,by rw[hv,h0],hl,fun k hk=>by omega,by omega⟩
 ·refine⟨some ⟨g,0,none⟩,cap,hv,hl,fun k hk=>?_,hnc⟩;obtain⟨z,hz⟩:∃ z,Zs[k]?=some z:=⟨_,List.getElem?_eq_getElem hk⟩;refine⟨g,z,rfl,?_,(hd k z hz).k⟩;rw[cell_of_row _ _ _ _ _ _ hg]
  have h1:(Zs.map PV.v)[k]?=some z.v:=by rw[List.getElem?_map,hz];rfl
  rw[<- htake,List.getElem?_take,if_pos (by omega),Array.getElem?_toList] at h1;exact h1
structure SA (w:World) (x:PV) (P:List Tm) (ok:Bool) (n k e:Nat):Prop where
 h:(ok=true/\KP w x P)\/(ok=false/\BP w x/\P=[])
 b:PC P n k e
 le:x.n<=1000000
theorem SA.below {w w':World} {x:PV} {P:List Tm} {ok:Bool} {n k e:Nat} (h:SA w x P ok n k e) (hb:Below w.heap.size w w'):SA w' x P ok n k e :=
 ⟨h.h.imp (fun h=>⟨h.1,h.2.below hb⟩) (fun h=>⟨h.1,h.2.1.below hb,h.2.2⟩),h.b,h.le⟩
theorem SA.ap {w:World} {x:PV} {P:List Tm} {ok:Bool} {n k e:Nat} (h:SA w x P ok n k e):AP w x P:=h.h.elim (fun h=>h.2.any) (fun h=>Or.inr h.2)
theorem KP.sa {w:World} {x:PV} {P:List Tm} {n k e:Nat} (h:KP w x P) (b:PC P n k e) (hn:n<=1000000):SA w x P true n k e:=⟨Or.inl ⟨rfl,h⟩,b,zm (h.n_le b) hn⟩
theorem sa_of {w:World} {x:PV} {L:List TO} {m E:Nat} (h:KE w x L) (hg:Qs m (L.map Prod.fst)) (hw:∀ e∈L,e.1.m.le E) (hm:m<=1000000):∃ P ok,SA w x P ok m 4 E:=by
 rcases jgn h hg hw with ⟨P,hk,hc⟩ | hb
 ·exact⟨P,true,hk.sa hc hm⟩
 ·exact⟨[],false,Or.inr ⟨rfl,hb,rfl⟩,PC.nil _ _ _,zm (BP.n_le h hg) hm⟩
def LA (w:World) (x0 x1 x2 x3:FV) (l:Nat->Rat) (ok:Bool) (kl:Nat):Prop :=
 (ok=true/\K4 w x0 x1 x2 x3 l/\∀ i,LQ (l i) kl)\/(ok=false/\∃ oks:Nat->Bool,B4 w x0 x1 x2 x3 oks/\∃ i,i<4/\oks i=false)
theorem LA.below {w w':World} {x0 x1 x2 x3:FV} {l:Nat->Rat} {ok:Bool} {kl:Nat} (h:LA w x0 x1 x2 x3 l ok kl) (hb:Below w.heap.size w w'):LA w' x0 x1 x2 x3 l ok kl :=
 h.imp (fun h=>⟨h.1,h.2.1.below hb,h.2.2⟩) (fun ⟨h1,oks,h2,h3⟩=>⟨h1,oks,h2.below hb,h3⟩)
theorem fb_of {w:World} {x:FV} (h:AQ w x):∃ ok,FB w x ok/\(ok=true->∃ q,KF w x q):=by
 rcases h.cs with ⟨q,hq⟩ | hb
 ·exact⟨true,⟨q,hq⟩,fun _=>⟨q,hq⟩⟩
 ·exact⟨false,hb,nofun⟩
structure ER (w:World) (lo:Nat) (v:Value) (L:List TE):Prop where
 row:OT w lo v (L.map Prod.fst)
 num:∀ e∈L,EF w lo e.1.c e.2
theorem ER.nil {w:World} {lo:Nat}:ER w lo (.slice none 0 0) []:=⟨World.ownsRow_nil _ _ _ _,fun _ h=>(by cases h)⟩
theorem ER.below {w w':World} {lo:Nat} {v:Value} {L:List TE} (h:ER w lo v L) (hb:Below w.heap.size w w'):ER w' lo v L:=⟨OT.below h.row hb,fun e he=>(h.num e he).below hb⟩
theorem ER.mono {w:World} {lo lo':Nat} {v:Value} {L:List TE} (h:ER w lo v L) (hl:lo'<=lo):ER w lo' v L:=⟨OT.mono h.row hl,fun e he=>(h.num e he).mono hl⟩
theorem ER.slice {w:World} {lo:Nat} {v:Value} {L:List TE} (h:ER w lo v L):∃ x:PV,v=x.v/\x.n=L.length:=by
 obtain⟨a,c,e,-,-⟩:=OT.slice h.row;exact⟨⟨a,L.length,c⟩,by rw[e,List.length_map],rfl⟩
theorem ER.alloc {w:World} {lo:Nat} {v:Value} {L:List TE} (h:ER w lo v L) (o:Obj):ER (w.alloc o) lo v L:=h.below (zk.alloc zj o)
theorem EF.alloc {w:World} {lo:Nat} {x:FV} {q:Rat} (h:EF w lo x q) (o:Obj):EF (w.alloc o) lo x q:=h.below (zk.alloc zj o)
theorem _root_.Go.RowKit.Below.ofAlloc {B:Nat} {w w':World} {o:Obj} (h:Below B (w.alloc o) w') (hb:B<=w.heap.size):Below B w w':=(zk.alloc hb o).trans h
structure EP (w:World) (lo:Nat) (x:PV) (P:List Tm):Prop where
 ex:∃ L:List TE,ER w lo x.v L/\L.map tm=P
 canon:Canon P
 small:∀ t∈P,t.1.Small
theorem EP.k {w:World} {lo:Nat} {x:PV} {P:List Tm} (h:EP w lo x P):KP w x P:=by
 obtain⟨L,h1,h4⟩:=h.ex;obtain⟨a,c,e,hc,hr⟩:=OT.slice h1.row;obtain⟨xa,xn,xc⟩:=x;simp only[PV.v,Value.slice.injEq] at e;obtain⟨rfl,rfl,rfl⟩:=e;exact⟨⟨L,hr,(List.length_map ..).symm,fun e he=>(h1.num e he).k,h4⟩,hc,h.canon,h.small⟩
theorem EP.nil {w:World} {lo:Nat}:EP w lo ⟨none,0,0⟩ []:=⟨⟨[],ER.nil,rfl⟩,Canon.nil,fun _ h=>(by cases h)⟩
theorem jb8 {w w':World} {lo lo':Nat} {x:NV} {z:Int} {v:Value} {ts:List TV} (h:DN w lo x z) (ho:OT w lo' v ts) (hg:w.grownBy w' v.ownBlock):DN w' lo x z:=by
 refine⟨h.s,h.n,⟨h.own.le,h.own.place.imp id fun ⟨g,cur,ha,hlo,hc,hr⟩=>⟨g,cur,ha,hlo,?_,hr⟩,h.own.rng⟩⟩;refine(hg.block g (lt_of_block hc) fun e=>?_).trans hc
 rcases ho.2 with ⟨hv,-⟩ | ⟨g2,cap,cur2,hv,-,hg2,-⟩
 ·rw[hv] at e;cases e
 ·rw[hv] at e;have e:some g=some g2:=e
  injection e with e
  subst e;rw[hc] at hg2
  cases hg2
theorem EF.grown {w w':World} {lo lo':Nat} {x:FV} {q:Rat} {v:Value} {ts:List TV} (h:EF w lo x q) (ho:OT w lo' v ts) (hg:w.grownBy w' v.ownBlock):EF w' lo x q:=⟨jb8 h.t ho hg,jb8 h.l ho hg⟩
theorem tv_one (t:TV):∀ u∈TV.cells t,u.oneCell'=true:=by
 intro u hu;simp only[TV.cells,List.mem_cons,List.mem_nil_iff,or_false] at hu
 rcases hu with rfl | rfl | rfl | rfl | rfl | rfl | rfl | rfl <;> rfl
theorem info8P:(Tryz.prog.info? 71).map (fun i=>(i.zero,i.size,i.bytes))=some (some (.agg #[.bool false,.slice none 0 0,.bool false,.slice none 0 0,.int .u16 0,.int .u16 0,.int .u16 0,.int .u16 0]),8,72):=by kernel_rfl
theorem UK {ops:Array Oper} {rest:List Oper} {oo:Oper} {ac:Act} {Q:Exit->Act->World->Prop} (hgd:oo.guard=none) (s x:Operand)
  (ho:oo.op=.call { callee:=.builtin .append,args:=#[s,x],argTypes:=#[23,23] })
  {w:World} {lo:Nat} {v:Value} {L:List TE} (hs:ac.eval s=v) (h:ER w lo v L) (hn:L.length<=1000000000) (hb:lo<=w.heap.size)
  {gs:Nat} {t:TV} {q:Rat} {m c:Nat} (hx:ac.eval x=.slice (some ⟨gs,0,none⟩) m c) (hc:Bxs w gs 71 t.cells) (hq:EF w lo t.c q) (hm:m=1)
  (hK:∀ (z:PV) w',ER w' lo z.v (L++[(t,q)])->Below lo w w'->wpList Tryz.prog ops Q rest (ac.put oo.dst z.v) w'):wpList Tryz.prog ops Q (oo :: rest) ac w:=by
 subst hm;obtain⟨i0,hi,hz0,hz1,hz2⟩:=info_parts info8P;refine wpList_append_own _ hgd s x 23 ho lo 71 i0 _ 8 72 Tryz.underlying23 hi hz0 hz1 hz2 rfl (by decide) v _ _ hs h.row ⟨gs,0,none⟩ 1 c (TV.cells t) hx rfl (fun j u hj=>?_) (tv_one t) ?_ ?_ hb ?_
 ·rw[Addr.add_lit,Nat.zero_add];exact hc.cell hj
 ·rw[List.length_map];unfold maxLen;omega
 ·rw[List.length_map];omega
 ·intro v' w' hown hg _
  have e1:(L++[(t,q)]).map Prod.fst=L.map Prod.fst++[t]:=by rw[List.map_append];rfl
  have e2:(L.map Prod.fst++[t]).flatMap TV.cells=(L.map Prod.fst).flatMap TV.cells++TV.cells t:=by rw[List.flatMap_append,List.flatMap_cons,List.flatMap_nil,List.append_nil]
  have hr:OT w' lo v' ((L++[(t,q)]).map Prod.fst):=by
   rw[e1];show w'.ownsRow _ _ _ _ _ _;rw[e2,List.length_append];exact hown
  have hE:ER w' lo v' (L++[(t,q)]):=⟨hr,fun e he=>by
   rcases List.mem_append.1 he with he | he
   ·exact(h.num e he).grown h.row hg
   ·rw[List.mem_singleton.1 he];exact hq.grown h.row hg⟩
  obtain⟨z,rfl,-⟩:=hE.slice;exact hK z w' hE (zk.grown hg hb (fun g hg=>(World.ownsRow.lt h.row g hg).1))
theorem KP.get {w:World} {a:Option Addr} {n c:Nat} {P:List Tm} (h:KP w ⟨a,n,c⟩ P) {i:Nat} (hi:i<n):∃ (t:TV) (q:Rat) (b o:Nat),a=some ⟨b,o,none⟩/\RE w b o i t/\KF w t.c q/\P[i]?=some (t.m,q):=by
 obtain⟨L,h1,h2,h3,h4⟩:=h.ex;have hl:L.length=n:=h2;obtain⟨e,he⟩:∃ e,L[i]?=some e:=⟨_,List.getElem?_eq_getElem (by rw[hl];exact hi)⟩;obtain⟨b,o,ha,hc⟩:=(show RT w a (L.map Prod.fst) from h1).one (fun h0=>by rw[List.map_eq_nil_iff.1 h0] at he;simp at he);exact⟨e.1,e.2,b,o,ha,hc i e.1 (by rw[List.getElem?_map,he];rfl),h3 e (List.mem_of_getElem? he),by rw[<- h4,List.getElem?_map,he];rfl⟩
structure Bt (W w:World):Prop where
 b:Below W.heap.size W w
theorem Bt.below {W w w':World} (h:Bt W w) (hb:Below w.heap.size w w'):Bt W w':=⟨h.b.trans (hb.mono h.b.size)⟩
theorem QU {w:World} {lo b:Nat} {x:FV} {q:Rat} {t:TypeId} {u0 u1 u2 u3:Value} (h:EF w lo x q) (hb:Bxs w b t [u0,u1,u2,u3]) (ht:160≠t) (v0 v1 v2 v3:Value):EF (Zl w b v0 v1 v2 v3) lo x q :=
 (((h.Jr hb ht 0 v0).Jr (hb.put 0 v0) ht 1 v1).Jr ((hb.put 0 v0).put 1 v1) ht 2 v2).Jr (((hb.put 0 v0).put 1 v1).put 2 v2) ht 3 v3
theorem TwN.grown {w w':World} {lo lo':Nat} {t x:NV} {o:Nat->Int} {v:Value} {ts:List TV} (h:TwN w lo t x o) (ho:OT w lo' v ts) (hg:w.grownBy w' v.ownBlock):TwN w' lo t x o:=h.kept fun b ⟨p,hp,e⟩=>by
 obtain⟨cur,hc⟩:=Vs h.own ⟨p,hp,e⟩
 refine hg.block b (lt_of_block hc) fun e2=>?_
 rcases ho.2 with ⟨hv,-⟩ | ⟨g2,cap,cur2,hv,-,hg2,-⟩
 ·rw[hv] at e2;cases e2
 ·rw[hv] at e2;have e2:some b=some g2:=e2
  injection e2 with e2
  subst e2;rw[hc] at hg2
  cases hg2
theorem TwF.grown {w w':World} {lo lo':Nat} {t x:FV} {o1 o2:Nat->Int} {v:Value} {ts:List TV} (h:TwF w lo t x o1 o2) (ho:OT w lo' v ts) (hg:w.grownBy w' v.ownBlock):TwF w' lo t x o1 o2:=⟨h.top.grown ho hg,h.low.grown ho hg,h.ap⟩
def TwE (w0 w:World) (lo:Nat) (t u:TV):Prop:=t.m=u.m/\∃ o1 o2,Rd w0 u.c.t.a u.c.t.n o1/\Rd w0 u.c.l.a u.c.l.n o2/\TwF w lo t.c u.c o1 o2
theorem TwE.grown {w0 w w':World} {lo lo':Nat} {t u:TV} {v:Value} {ts:List TV} (h:TwE w0 w lo t u) (ho:OT w lo' v ts) (hg:w.grownBy w' v.ownBlock):TwE w0 w' lo t u:=by
 obtain⟨e,o1,o2,h1,h2,h3⟩:=h;exact⟨e,o1,o2,h1,h2,h3.grown ho hg⟩
theorem TwE.below {w0 w w':World} {lo:Nat} {t u:TV} (h:TwE w0 w lo t u) (hb:Below w.heap.size w w'):TwE w0 w' lo t u:=by
 obtain⟨e,o1,o2,h1,h2,h3⟩:=h;exact⟨e,o1,o2,h1,h2,h3.below hb⟩
theorem TwE.QY {w0 w:World} {lo:Nat} {t u:TV} (h:TwE w0 w lo t u):∀ b,FV.blk t.c b->lo<=b/\b<w.heap.size:=by
 obtain⟨e,o1,o2,h1,h2,h3⟩:=h;exact h3.QY
structure jak (w0 w:World) (lo:Nat) (v:Value) (ts us:List TV):Prop where
 row:OT w lo v ts
 len:ts.length=us.length
 each:∀ (i:Nat) (t u:TV),ts[i]?=some t->us[i]?=some u->TwE w0 w lo t u
 ap:ts.Pairwise fun t s=>FV.apart t.c s.c
theorem jak.below {w0 w w':World} {lo:Nat} {v:Value} {ts us:List TV} (h:jak w0 w lo v ts us) (hb:Below w.heap.size w w'):jak w0 w' lo v ts us:=⟨OT.below h.row hb,h.len,fun i t u h1 h2=>(h.each i t u h1 h2).below hb,h.ap⟩
def YE:TV:=⟨⟨⟨false,none,0,0⟩,⟨false,none,0,0⟩⟩,⟨77,77,77,0⟩⟩
structure TwP (w0 w:World) (lo:Nat) (x:PV) (ts us:List TV):Prop where
 row:OT w lo (.slice x.a (x.n+1) x.c) (ts++[YE])
 n:x.n=us.length
 len:ts.length=us.length
 each:∀ (i:Nat) (t u:TV),ts[i]?=some t->us[i]?=some u->TwE w0 w lo t u
 ap:ts.Pairwise fun t s=>FV.apart t.c s.c
theorem info8L:(Tryz.prog.info? 71).map (fun i=>(i.zero,i.size,i.bytes))=some (some (.agg #[.bool false,.slice none 0 0,.bool false,.slice none 0 0,.int .u16 0,.int .u16 0,.int .u16 0,.int .u16 0]),8,72):=by kernel_rfl
theorem Z5 {ops:Array Oper} {rest:List Oper} {oo:Oper} {ac:Act} {Q:Exit->Act->World->Prop} (hgd:oo.guard=none) (s x:Operand)
  (ho:oo.op=.call { callee:=.builtin .append,args:=#[s,x],argTypes:=#[22,22] })
  {w:World} {lo:Nat} {v:Value} {ts:List TV} (hs:ac.eval s=v) (h:OT w lo v ts) (hn:ts.length<=1000000000) (hb:lo<=w.heap.size)
  {gs:Nat} {t:TV} {m c:Nat} (hx:ac.eval x=.slice (some ⟨gs,0,none⟩) m c) (hc:Bxs w gs 71 t.cells) (hm:m=1)
  (hK:∀ (a:Option Addr) (c':Nat) w',OT w' lo (.slice a (ts.length+1) c') (ts++[t])->ts.length+1<=c'->w.grownBy w' v.ownBlock->Below lo w w'->wpList Tryz.prog ops Q rest (ac.put oo.dst (.slice a (ts.length+1) c')) w'):wpList Tryz.prog ops Q (oo :: rest) ac w:=by
 subst hm;obtain⟨i0,hi,hz0,hz1,hz2⟩:=info_parts info8L;refine wpList_append_own _ hgd s x 22 ho lo 71 i0 _ 8 72 Tryz.underlying22 hi hz0 hz1 hz2 rfl (by decide) v _ _ hs h ⟨gs,0,none⟩ 1 c (TV.cells t) hx rfl (fun j u hj=>?_) (tv_one t) ?_ ?_ hb ?_
 ·rw[Addr.add_lit,Nat.zero_add];exact hc.cell hj
 ·unfold maxLen;omega
 ·omega
 ·intro v' w' hown hg _
  have e2:(ts++[t]).flatMap TV.cells=ts.flatMap TV.cells++TV.cells t:=by rw[List.flatMap_append,List.flatMap_cons,List.flatMap_nil,List.append_nil]
  have hr:OT w' lo v' (ts++[t]):=by
   show w'.ownsRow _ _ _ _ _ _;rw[e2,List.length_append];exact hown
  obtain⟨a,c',rfl,hc',-⟩:=OT.slice hr
  have hl:(ts++[t]).length=ts.length+1:=by rw[List.length_append];rfl
  rw[hl] at hr hc' ⊢;exact hK a c' w' hr hc' hg (zk.grown hg hb (fun g hg=>(World.ownsRow.lt h g hg).1))
theorem Z6 (x:PV) (us:List TV) (w:World) (hr:RT w x.a us) (hn:us.length=x.n) (hx:x.n<=1000000) (hrd:∀ u∈us,∃ o1 o2,Rd w u.c.t.a u.c.t.n o1/\Rd w u.c.l.a u.c.l.n o2/\u.c.t.n<=100000000/\u.c.l.n<=100000000) :
  Calls Tryz.prog 12 #[x.v] w fun e w'=>∃ (y:PV) (ts:List TV),e=.returned y.v/\y.n=x.n/\TwP w w' w.heap.size y ts us/\Below w.heap.size w w':=by
 obtain⟨xa,xn,xc⟩:=x;have HR:=qh (show RT w xa us from hr);have HN:=qh (show us.length=xn from hn);have HX:=qh (show xn<=1000000 from hx);have HRD:=qh hrd;clear hr hn hx hrd;change Calls Tryz.prog 12 #[.slice xa xn xc] w _;obtain⟨i0,hi,hz0,hz1,hz2⟩:=info_parts info8L;have e1:=IntWalk.i64_in ((xn:Int)+1) (by have:=HX.o;omega);obtain⟨MC,hMC⟩:∃ c,c=madeCells (Value.agg #[.bool false,.slice none 0 0,.bool false,.slice none 0 0,.int .u16 0,.int .u16 0,.int .u16 0,.int .u16 0]).cells ((xn+1)*8):=⟨_,rfl⟩
 have hmk:∀ w:World,(Instr.makeSlice 22 (.int .i64 0) (.int .i64 ((xn:Int)+1))).run Tryz.prog w=.ok (.slice (some ⟨w.heap.size,0,none⟩) 0 (xn+1)) (w.alloc (.cells MC 71)):=by
  intro w;have h:=run_make (P:=Tryz.prog) w 22 71 i0 _ Tryz.underlying22 hi hz0 .i64 .i64 0 ((xn:Int)+1) (by omega) (by omega) (by rw[hz2];have:=HX.o;omega) (by have:=HX.o;omega);rw[hz1,show((xn:Int)+1).toNat=xn+1 by omega,<- hMC] at h;exact h
 have hms:MC.size=(xn+1)*8:=by rw[hMC];simp[madeCells]
 have HMS:=qh hms;clear hMC hms hz0 hz1 hz2 hi;go_enter Tryz.func12,Tryz.ntmps12
 go_upto_region 2 with (fail)
 obtain⟨V,hV⟩:∃ X,X=w.alloc (.cells MC 71):=⟨_,rfl⟩
 have hbV:Below w.heap.size w V:=by rw[hV];exact zk.alloc zj _
 have HO:=qh (show OT V w.heap.size (.slice (some ⟨w.heap.size,0,none⟩) 0 (xn+1)) [] by
  rw[hV];show World.ownsRow _ _ _ _ _ _ _
  exact⟨rfl,.inr ⟨w.heap.size,xn+1,MC,rfl,zj,heap_alloc_new w _,Nat.zero_le _,by have:=HX.o;unfold maxLen;omega,HMS.o,rfl⟩⟩)
 have KG:=qh hbV;rw[<- hV];clear hV hbV hmk;go_wp2_with fail
 go_loopw [3,4] (fun v i wr=>∃ (k:Nat) (ts:List TV) (a:Option Addr) (c:Nat),k<=xn/\i=.int .i64 k/\v=.slice a k c/\jak w wr w.heap.size v ts (us.take k)/\Below w.heap.size w wr) (fun _ i _=>xn-(intOf i).toNat)
 case atStart=>exact⟨0,[],_,_,Nat.zero_le _,rfl,rfl,⟨HO.o,rfl,fun i t u h=>by simp at h,List.Pairwise.nil⟩,KG.o⟩
 case round =>
  obtain⟨k,ts,a,c,hk,rfl,rfl,hR,hb0⟩:=hrel;have HKN:=qh hk;have TR:=qh hR;have KG:=qh hb0
  have htl:ts.length=k:=by rw[hR.len,List.length_take,HN.o];omega
  have HTL:=qh htl;clear hk hR hb0 htl HO;by_cases hkl:k<xn
  ·have HKL:=qh hkl
   have hlt:(k:Int)<(xn:Int):=by omega
   obtain⟨u,hu⟩:∃ u,us[k]?=some u:=⟨_,List.getElem?_eq_getElem (by rw[HN.o];exact hkl)⟩;have HU:=qh hu;obtain⟨pb,po,rfl,hre⟩:=HR.o.one (fun e=>by rw[e] at hu;simp at hu);obtain⟨o1,o2,r1,r2,g1,g2⟩:=HRD.o u (List.mem_of_getElem? hu);have E1:=qh ((hre k u hu).below KG.o);have CT:=qh (show Calls Tryz.prog 67 #[.agg #[.bool u.c.t.s,.slice u.c.t.a u.c.t.n u.c.t.c,.bool u.c.l.s,.slice u.c.l.a u.c.l.n u.c.l.c,.int .u16 u.m.x,.int .u16 u.m.y,.int .u16 u.m.z,.int .u16 u.m.t]] wr _ from UJ u o1 o2 wr (r1.below KG.o) g1 (r2.below KG.o) g2);have R1:=qh r1;have R2:=qh r2;have ek:IntKind.i64.wrap ((k:Int)+1)=(k:Int)+1:=IntWalk.i64_in _ (by have:=HKL.o;have:=HX.o;omega);obtain⟨c0,c1,c2,c3,c4,c5,c6,c7⟩:=E1.o.eight;clear hkl hu hre r1 r2 g1 g2;go_wp2_with fail
   with_reducible refine CT.o.mono ?_
   rintro e w1 ⟨y,rfl,hy,hb⟩;have HSZ:=qh KG.o.size;have HY:=qh hy
   have HBK:=qh (show ∀ t∈ts,∀ b,FV.blk t.c b->b<wr.heap.size from fun t ht b hbk=>by
    obtain⟨i,hi⟩:=List.mem_iff_getElem?.1 ht;have hil:=(List.getElem?_eq_some_iff.1 hi).1;obtain⟨u2,hu2⟩:∃ u2,(us.take k)[i]?=some u2:=⟨_,List.getElem?_eq_getElem (by rw[<- TR.o.len];exact hil)⟩
    exact((TR.o.each i t u2 hi hu2).QY b hbk).2)
   have TR:=qh (TR.o.below hb);have KG:=qk KG hb;clear hy hb CT c0 c1 c2 c3 c4 c5 c6 c7;go_wp2_with (first | (at_builtin;refine Z5 (t:=⟨y,u.m⟩) rfl _ _ rfl rfl (OT.below TR.o.row (zk.alloc zj _)) (by rw[HTL.o];have:=HKL.o;have:=HX.o;omega) (by have h9:=KG.o.size;rw[World.size_alloc];omega) rfl (Bxs.new _ _ _) rfl ?_))
   intro a9 c9 w9 hot hle hg hb9;have hal:Below w1.heap.size w1 (w1.alloc (.cells #[.bool y.t.s,.slice y.t.a y.t.n y.t.c,.bool y.l.s,.slice y.l.a y.l.n y.l.c,.int .u16 u.m.x,.int .u16 u.m.y,.int .u16 u.m.z,.int .u16 u.m.t] 71)):=zk.alloc zj _;have HOA:=OT.below TR.o.row hal
   have TR2:=qh (show jak w w9 w.heap.size (.slice a9 (k+1) c9) (ts++[⟨y,u.m⟩]) (us.take (k+1)) by
    refine⟨by rw[HTL.o] at hot;exact hot,?_,fun i t v h1 h2=>?_,?_⟩
    ·rw[List.length_append,HTL.o,List.length_take,HN.o];have:=HKL.o;simp;omega
    ·by_cases hi:i<k
     ·rw[List.getElem?_append_left (by rw[HTL.o];exact hi)] at h1;rw[List.getElem?_take,if_pos (by omega)] at h2;exact((TR.o.each i t v h1 (by rw[List.getElem?_take,if_pos hi];exact h2)).below hal).grown HOA hg
     ·have hil:=(List.getElem?_eq_some_iff.1 h1).1;rw[List.length_append,HTL.o] at hil
      obtain rfl:i=k:=by simp at hil;omega
      rw[List.getElem?_append_right (by rw[HTL.o];exact zj),HTL.o,Nat.sub_self] at h1;obtain rfl:(⟨y,u.m⟩:TV)=t:=Option.some.inj h1;rw[List.getElem?_take,if_pos (by omega),HU.o] at h2;obtain rfl:=Option.some.inj h2;exact TwE.grown (TwE.below ⟨rfl,o1,o2,R1.o,R2.o,HY.o.mono HSZ.o⟩ hal) HOA hg
    ·refine List.pairwise_append.2 ⟨TR.o.ap,List.pairwise_singleton _ _,fun t ht s hs=>?_⟩;rw[List.mem_singleton.1 hs];intro b h1 h2;have:=HBK.o t ht b h1;have:=(HY.o.QY b h2).1
     omega)
   have KG9:=qh (KG.o.trans (hb9.ofAlloc KG.o.size));have HLC:=qh HTL.o;rw[HLC.o];clear hot hle hg hb9 hal HOA;go_wp2_with fail
   go_roundw
   case rel=>exact⟨k+1,_,a9,c9,HKL.o,rfl,rfl,TR2.o,KG9.o⟩
   case measure=>simp[intOf];have:=HKL.o;omega
  ·have hge:¬((k:Int)<(xn:Int)):=by omega
   obtain rfl:k=xn:=by have:=HKN.o;omega
   clear hkl
   have TR:=qh (show jak w wr w.heap.size (.slice a k c) ts us by
    have h:=TR.o
    rwa [List.take_of_length_le (by rw[HN.o];exact zj)] at h)
   go_wp2_with (first | (at_builtin;refine Z5 (t:=YE) rfl _ _ rfl rfl (OT.below TR.o.row (zk.alloc zj _)) (by rw[HTL.o];have:=HX.o;omega) (by have h9:=KG.o.size;rw[World.size_alloc];omega) rfl (Bxs.new _ _ _) rfl ?_))
   intro a9 c9 w9 hot hle hg hb9;have hal:Below wr.heap.size wr (wr.alloc (.cells (TV.cells YE).toArray 71)):=zk.alloc zj _;have HOA:=OT.below TR.o.row hal;rw[HTL.o] at hot hle ⊢;have TP:=qh (show TwP w w9 w.heap.size ⟨a9,k,c9⟩ ts us from⟨hot,HN.o.symm,TR.o.len,fun i t v h1 h2=>((TR.o.each i t v h1 h2).below hal).grown HOA hg,TR.o.ap⟩);have KG9:=qh (KG.o.trans (hb9.ofAlloc KG.o.size))
   have hl1:(k:Int)<=(c9:Int):=by omega
   have hl2:k<=c9:=by omega
   clear hot hle hg hb9 hal HOA;go_wp2_with fail
   go_ret;exact⟨⟨a9,k,c9⟩,ts,rfl,rfl,TP.o,KG9.o⟩
theorem KP.cons {w:World} {a:Option Addr} {n c:Nat} {P:List Tm} (h:KP w ⟨a,n,c⟩ P) (hn:0<n):∃ (t:TV) (q:Rat) (b o:Nat) (P2:List Tm),a=some ⟨b,o,none⟩/\P=(t.m,q) :: P2/\RE w b o 0 t/\KF w t.c q/\KP w ⟨if c=1 then some ⟨b,o,none⟩ else some ⟨b,o+8,none⟩,n-1,c-1⟩ P2:=by
 obtain⟨L,h1,h2,h3,h4⟩:=h.ex;have h2:L.length=n:=h2
 match L,h1,h2,h3,h4 with
 | [],_,h2,_,_=>simp at h2;omega
 | e :: r,h1,h2,h3,h4 =>
  obtain⟨b,o,ha,hc⟩:=(show RT w a ((e :: r).map Prod.fst) from h1).ex (by simp);have hle:n<=c:=h.le;have hcn:Canon P:=h.canon;have hsm:=h.small;rw[<- h4] at hcn hsm;have hlen:(e :: r).length=n:=h2;rw[List.length_cons] at hlen;refine⟨e.1,e.2,b,o,r.map tm,ha,h4.symm,⟨block_lt_of_cell (hc 0 e.1 rfl 0 _ rfl),fun j v hj=>hc 0 e.1 rfl j v hj⟩,h3 e (List.mem_cons_self ..),⟨r,⟨fun hn0=>⟨b,o+8,?_,fun i t hi j v hj=>?_⟩⟩,?_,fun f hf=>h3 f (List.mem_cons_of_mem _ hf),rfl⟩,?_,hcn.tail,fun t ht=>hsm t (List.mem_cons_of_mem _ ht)⟩
  ·refine if_neg fun hc1=>hn0 ?_
   have:r.length=0:=by omega
   rw[List.length_eq_zero_iff.1 this];rfl
  ·have h5:=hc (i+1) t (by simpa using hi) j v hj;rw[show o+(i+1)*8+j=o+8+i*8+j by omega] at h5;exact h5
  ·show r.length=n-1;omega
  ·show n-1<=c-1;omega
theorem TwN.at_ {w:World} {lo:Nat} {t x:NV} {o:Nat->Int} (h:TwN w lo t x o):∃ g,t=⟨x.s,some ⟨g,0,none⟩,x.n,x.n+1⟩/\Rd w (some ⟨g,0,none⟩) (x.n+1) (tw o x.n):=by
 obtain⟨ts,ta,tn,tc⟩:=t;obtain⟨h1,h2,h3,h4⟩:=h;change ts=x.s at h1;change tn=x.n at h2;change tc=x.n+1 at h3;subst h1 h2 h3;obtain⟨g,rfl⟩:=h4.Qi (by omega);exact⟨g,rfl,h4.rd⟩
theorem jgo (t x:FV) (lo:Nat) (o1 o2:Nat->Int) (w:World) (h:TwF w lo t x o1 o2) (h1:Rd w x.t.a x.t.n o1) (hn1:x.t.n<=100000000) (h2:Rd w x.l.a x.l.n o2) (hn2:x.l.n<=100000000) :
  Calls Tryz.prog 22 #[t.v,x.v] w fun e w'=>e=.returned (.bool true)/\Below w.heap.size w w':=by
 obtain⟨g1,e1,r1⟩:=h.top.at_;obtain⟨g2,e2,r2⟩:=h.low.at_;obtain⟨tt,tl⟩:=t;change tt=_ at e1;change tl=_ at e2;subst e1 e2;exact UE x.t.s g1 x.t.a x.t.n x.t.c o1 x.l.s g2 x.l.a x.l.n x.l.c o2 w r1 h1 (by omega) r2 h2 (by omega)
theorem UL (t u:TV) (lo:Nat) (o1 o2:Nat->Int) (w:World) (h:TwF w lo t.c u.c o1 o2) (h1:Rd w u.c.t.a u.c.t.n o1) (hn1:u.c.t.n<=100000000) (h2:Rd w u.c.l.a u.c.l.n o2) (hn2:u.c.l.n<=100000000) (hm:t.m=u.m):Calls Tryz.prog 82 #[TV.v t,TV.v u] w fun e w'=>e=.returned (.bool true)/\Below w.heap.size w w':=by
 obtain⟨V,hV⟩:∃ V,V=(w.alloc (.cells #[.bool t.c.t.s,.slice t.c.t.a t.c.t.n t.c.t.c,.bool t.c.l.s,.slice t.c.l.a t.c.l.n t.c.l.c,.int .u16 t.m.x,.int .u16 t.m.y,.int .u16 t.m.z,.int .u16 t.m.t] 71)).alloc (.cells #[.bool u.c.t.s,.slice u.c.t.a u.c.t.n u.c.t.c,.bool u.c.l.s,.slice u.c.l.a u.c.l.n u.c.l.c,.int .u16 u.m.x,.int .u16 u.m.y,.int .u16 u.m.z,.int .u16 u.m.t] 71):=⟨_,rfl⟩
 have hbV:Below w.heap.size w V:=by rw[hV];exact(zk.alloc zj _).alloc (by go_size) _
 have B1:=qh (show Bxs V w.heap.size 71 [.bool t.c.t.s,.slice t.c.t.a t.c.t.n t.c.t.c,.bool t.c.l.s,.slice t.c.l.a t.c.l.n t.c.l.c,.int .u16 t.m.x,.int .u16 t.m.y,.int .u16 t.m.z,.int .u16 t.m.t] by rw[hV];exact(Bxs.new w 71 [.bool t.c.t.s,.slice t.c.t.a t.c.t.n t.c.t.c,.bool t.c.l.s,.slice t.c.l.a t.c.l.n t.c.l.c,.int .u16 t.m.x,.int .u16 t.m.y,.int .u16 t.m.z,.int .u16 t.m.t]).alloc _)
 have B2:=qh (show Bxs V (w.heap.size+1) 71 [.bool u.c.t.s,.slice u.c.t.a u.c.t.n u.c.t.c,.bool u.c.l.s,.slice u.c.l.a u.c.l.n u.c.l.c,.int .u16 u.m.x,.int .u16 u.m.y,.int .u16 u.m.z,.int .u16 u.m.t] by
  have h:=Bxs.new (w.alloc (.cells #[.bool t.c.t.s,.slice t.c.t.a t.c.t.n t.c.t.c,.bool t.c.l.s,.slice t.c.l.a t.c.l.n t.c.l.c,.int .u16 t.m.x,.int .u16 t.m.y,.int .u16 t.m.z,.int .u16 t.m.t] 71)) 71 [.bool u.c.t.s,.slice u.c.t.a u.c.t.n u.c.t.c,.bool u.c.l.s,.slice u.c.l.a u.c.l.n u.c.l.c,.int .u16 u.m.x,.int .u16 u.m.y,.int .u16 u.m.z,.int .u16 u.m.t];rw[World.size_alloc] at h
  rw[hV];exact h)
 have KG:=qh hbV;have SF:=qh (jgo t.c u.c lo o1 o2 V (h.below hbV) (h1.below hbV) hn1 (h2.below hbV) hn2);have HV:=qh hV;obtain⟨tc,⟨mx,my,mz,mt⟩⟩:=t;obtain⟨uc,um⟩:=u;change (⟨mx,my,mz,mt⟩:Mo)=um at hm;subst hm;change Calls Tryz.prog 82 #[.agg #[.bool tc.t.s,.slice tc.t.a tc.t.n tc.t.c,.bool tc.l.s,.slice tc.l.a tc.l.n tc.l.c,.int .u16 mx,.int .u16 my,.int .u16 mz,.int .u16 mt],.agg #[.bool uc.t.s,.slice uc.t.a uc.t.n uc.t.c,.bool uc.l.s,.slice uc.l.a uc.l.n uc.l.c,.int .u16 mx,.int .u16 my,.int .u16 mz,.int .u16 mt]] w _;clear hV hbV h h1 h2;go_enter Tryz.func82,Tryz.ntmps82
 go_upto_region 1 with (fail)
 rw[show(w.alloc (.cells #[.bool tc.t.s,.slice tc.t.a tc.t.n tc.t.c,.bool tc.l.s,.slice tc.l.a tc.l.n tc.l.c,.int .u16 mx,.int .u16 my,.int .u16 mz,.int .u16 mt] 71)).alloc (.cells #[.bool uc.t.s,.slice uc.t.a uc.t.n uc.t.c,.bool uc.l.s,.slice uc.l.a uc.l.n uc.l.c,.int .u16 mx,.int .u16 my,.int .u16 mz,.int .u16 mt] 71)=V from HV.o.symm];have c10:=B1.o.ce 0;have c11:=B1.o.ce 1;have c12:=B1.o.ce 2;have c13:=B1.o.ce 3;have c14:=B1.o.ce 4;have c15:=B1.o.ce 5;have c16:=B1.o.ce 6;have c17:=B1.o.ce 7;have c20:=B2.o.ce 0;have c21:=B2.o.ce 1;have c22:=B2.o.ce 2;have c23:=B2.o.ce 3;have c24:=B2.o.ce 4;have c25:=B2.o.ce 5;have c26:=B2.o.ce 6;have c27:=B2.o.ce 7;go_wp2_with fail
 with_reducible refine SF.o.mono ?_
 rintro e w1 ⟨rfl,hb⟩;have KG:=qk KG hb;have B1:=qh (B1.o.bl hb);have B2:=qh (B2.o.bl hb);clear hb SF c10 c11 c12 c13 c14 c15 c16 c17 c20 c21 c22 c23 c24 c25 c26 c27;have c10:=B1.o.ce 0;have c11:=B1.o.ce 1;have c12:=B1.o.ce 2;have c13:=B1.o.ce 3;have c14:=B1.o.ce 4;have c15:=B1.o.ce 5;have c16:=B1.o.ce 6;have c17:=B1.o.ce 7;have c20:=B2.o.ce 0;have c21:=B2.o.ce 1;have c22:=B2.o.ce 2;have c23:=B2.o.ce 3;have c24:=B2.o.ce 4;have c25:=B2.o.ce 5;have c26:=B2.o.ce 6;have c27:=B2.o.ce 7;go_wp2_with fail
 go_ret;exact⟨rfl,KG.o⟩
theorem UM (x y:PV) (ts us:List TV) (lo:Nat) (w0 w:World) (hx:TwP w0 w lo x ts us) (hw:Below w0.heap.size w0 w) (hy:RT w0 y.a us) (hyn:us.length=y.n) (hn:y.n<=1000000) (hrd:∀ u∈us,u.c.t.n<=100000000/\u.c.l.n<=100000000) :
  Calls Tryz.prog 21 #[x.v,y.v] w fun e w'=>e=.returned (.bool true)/\Below w.heap.size w w':=by
 have hxl:x.n=y.n:=hx.n.trans hyn;obtain⟨xa,xn,xc⟩:=x;obtain⟨ya,n,yc⟩:=y;change xn=n at hxl;subst hxl;obtain⟨a',c',e',hcc,hrx⟩:=OT.slice hx.row
 have hll:(ts++[YE]).length=xn+1:=by
  rw[List.length_append,hx.len,show us.length=xn from hyn];rfl
 rw[hll] at e' hcc;change Value.slice xa (xn+1) xc=.slice a' (xn+1) c' at e'
 obtain⟨rfl,rfl⟩:xa=a'/\xc=c':=by injection e' with e1 e2 e3;exact⟨e1,e3⟩
 clear e';have HNN:=qh (show xn<=1000000 from hn);have NU:=qh (show us.length=xn from hyn);have NT:=qh (show ts.length=xn from hx.len.trans hyn);have EA:=qh hx.each;have HRD:=qh hrd;have HW:=qh hw;have RX:=qh (hrx.one (by simp));have RY:=qh (RT.below (show RT w0 ya us from hy) hw)
 have g1:¬xc<=xn:=by omega
 have g2:¬(xc:Int)<=(xn:Int):=by omega
 have g3:xn+1<=xc:=hcc
 have g4:(xn:Int)+1<=(xc:Int):=by omega
 have g5:IntKind.i64.wrap ((xn:Int)+1)=(xn:Int)+1:=IntWalk.i64_in _ (by have:=HNN.o;omega);have G:=qh (And.intro g1 (And.intro g2 (And.intro g3 (And.intro g4 g5))));change Calls Tryz.prog 21 #[.slice xa xn xc,.slice ya xn yc] w _;clear hx hw hy hyn hn hrd hrx hcc hll g3 g4 g5;obtain⟨pb,po,rfl,hp⟩:=RX.o;have HP:=qh hp;clear hp RX;go_enter Tryz.func21,Tryz.ntmps21;go_wp2_with fail
 clear g1 g2;go_loopw [5] (fun i wr=>∃ j:Nat,j<=xn/\i=.int .i64 j/\Below w.heap.size w wr) (fun i _=>xn-(intOf i).toNat)
 case atStart =>
  exact⟨0,Nat.zero_le _,rfl,zk⟩
 case round =>
  obtain⟨j,hj,rfl,hb0⟩:=hrel;have HJ:=qh hj;have KG:=qh hb0;clear hj hb0;by_cases hjn:j<xn
  ·have HJN:=qh hjn;obtain⟨t,ht⟩:∃ t,ts[j]?=some t:=⟨_,List.getElem?_eq_getElem (by rw[NT.o];exact hjn)⟩;obtain⟨u,hu⟩:∃ u,us[j]?=some u:=⟨_,List.getElem?_eq_getElem (by rw[NU.o];exact hjn)⟩;obtain⟨qb,qo,rfl,hc2⟩:=(RY.o.below KG.o).one (fun h=>by rw[h] at hu;simp at hu);have E1:=qh ((HP.o j t (by rw[List.getElem?_append_left (by rw[NT.o];exact hjn)];exact ht)).below KG.o);have E2:=qh (hc2 j u hu);obtain⟨hm,o1,o2,r1,r2,hf⟩:=EA.o j t u ht hu;obtain⟨s1,s2⟩:=HRD.o u (List.mem_of_getElem? hu);have HM:=qh hm;have HF:=qh (hf.below KG.o);have HR1:=qh ((r1.below HW.o).below KG.o);have HR2:=qh ((r2.below HW.o).below KG.o);have HS1:=qh s1;have HS2:=qh s2;have ek:IntKind.i64.wrap ((j:Int)+1)=(j:Int)+1:=IntWalk.i64_in _ (by have:=HJN.o;have:=HNN.o;omega);clear hc2 ht hu hm r1 r2 hf s1 s2
   go_upto_region 6 with (fail)
   refine FS.Jc 9 [] (FS.JM [(8,FS.Sp.know (.bool true))])
    (fun w'=>Below wr.heap.size wr w') (by kernel_rfl) (by kernel_rfl) (by kernel_rfl)
    (FS.Jd (FS.Sp.Jm _ _) (FS.Jl)) (fun _ _ h hb=>h.trans (hb.mono h.size)) (zk.drew) ?_
   simp only[zu,zi,ze,zx,zy,zv,zw]
   iterate 8
    refine FS.Jb rfl rfl rfl ?_ (fun w' hw'=>?_) ?_;rotate_left
    ·have hb':=hw'.world;obtain⟨hs0,hs1,hs2,hs3,hs4,hs5,hs6,hs7⟩:=(E1.o.below hb').eight;obtain⟨hs0,hs1,hs2,hs3,hs4,hs5,hs6,hs7⟩:=(E2.o.below hb').eight;clear hw';go_simp
     try rfl
    conv=>arg 10;simp only[Act.put,zq0,zq1,zq2]
   refine FS.Jf rfl rfl rfl (fun w' hw'=>?_) ?_
   ·have hb':=hw'.world;refine FS.Jo (FS.PK (.bool true)) ?_ (fun _ _ h=>h.post);go_simp;have CT:=UL t u lo o1 o2 w' (HF.o.below hb') (HR1.o.below hb') HS1.o (HR2.o.below hb') HS2.o HM.o;refine CT.mono ?_;rintro e w'' ⟨rfl,hb⟩;exact⟨_,rfl,rfl,hb⟩
   rintro _ rfl
   conv=>arg 10;simp only[Act.put,zq0,zq1,zq2]
   refine FS.Jn (fun w101 hb hF=>?_);clear hF;have KG:=qk KG hb;clear hb;go_wp2_with fail
   go_roundw
   case rel =>
    exact⟨j+1,by have:=HJN.o;omega,rfl,KG.o⟩
   case measure=>simp[intOf];have:=HJN.o;omega
  ·have hge:¬((j:Int)<(xn:Int)):=by omega
   obtain rfl:j=xn:=by have:=HJ.o;omega
   obtain⟨g1,g2,g3,g4,g5⟩:=G.o;have E1:=qh ((HP.o j YE (by rw[List.getElem?_append_right (by rw[NT.o];exact zj),NT.o,Nat.sub_self];rfl)).below KG.o);obtain⟨h0,h1,h2,h3,h4,h5,h6,h7⟩:=E1.o.eight;have HA:=qh (KG.o.alloc KG.o.size (.cells (TV.cells YE).toArray 71));clear hjn;go_wp2_with fail
   go_ret;exact⟨rfl,HA.o⟩
theorem rd_same {w:World} {a:Option Addr} {n:Nat} {o p:Nat->Int} (h:Rd w a n o) (g:Rd w a n p):∀ i,i<n->o i=p i:=fun i hi=>by
 obtain⟨b,off,ha,hc⟩:=h.cells (by omega);obtain⟨b2,off2,ha2,hc2⟩:=g.cells (by omega);rw[ha] at ha2
 cases ha2
 have h1:=hc i hi;rw[hc2 i hi] at h1
 injection h1 with h1
 injection h1 with _ h1
 exact h1.symm
theorem TwN.rd {w0 w:World} {lo:Nat} {t x:NV} {o p:Nat->Int} (h:TwN w lo t x o) (h1:Rd w0 x.a x.n o) (h2:Rd w0 x.a x.n p):Rd w t.a t.n p:=by
 rw[h.n]
 exact(h.own.rd.le (Nat.le_succ _)).congr fun i hi=>by
  unfold tw;rw[if_pos hi];exact rd_same h1 h2 i hi
theorem TwN.le {w:World} {lo:Nat} {t x:NV} {o:Nat->Int} (h:TwN w lo t x o):t.n<=t.c:=by rw[h.n,h.c];exact Nat.le_succ _
theorem TwF.k {w0 w:World} {lo:Nat} {t x:FV} {o1 o2:Nat->Int} {q:Rat} (h:TwF w lo t x o1 o2) (h1:Rd w0 x.t.a x.t.n o1) (h2:Rd w0 x.l.a x.l.n o2) (hk:KF w0 x q):KF w t q :=
 ⟨⟨h.top.s.trans hk.t.s,h.top.n.trans hk.t.n,h.top.rd h1 hk.t.rd,h.top.le⟩,⟨h.low.s.trans hk.l.s,h.low.n.trans hk.l.n,h.low.rd h2 hk.l.rd,h.low.le⟩⟩
theorem TwF.b {w0 w:World} {lo:Nat} {t x:FV} {o1 o2:Nat->Int} (h:TwF w lo t x o1 o2) (h1:Rd w0 x.t.a x.t.n o1) (h2:Rd w0 x.l.a x.l.n o2) (hk:BF w0 x):BF w t:=by
 obtain⟨p1,p2,g1,g2,g3⟩:=hk.ex;exact⟨⟨p1,p2,h.top.rd h1 g1,h.low.rd h2 g2,by rw[h.top.s,h.top.n,h.low.s,h.low.n];exact g3⟩,h.top.le,h.low.le⟩
theorem TwF.a {w0 w:World} {lo:Nat} {t x:FV} {o1 o2:Nat->Int} {q:Rat} (h:TwF w lo t x o1 o2) (h1:Rd w0 x.t.a x.t.n o1) (h2:Rd w0 x.l.a x.l.n o2) (hk:AF w0 x q):AF w t q:=by
 obtain⟨p1,p2,g1,g2,g3⟩:=hk.ex;exact⟨⟨p1,p2,h.top.rd h1 g1,h.low.rd h2 g2,by rw[h.top.s,h.top.n,h.low.s,h.low.n];exact g3⟩,h.top.le,h.low.le⟩
theorem TwP.rt {w0 w:World} {lo:Nat} {x:PV} {ts us:List TV} (h:TwP w0 w lo x ts us):RT w x.a ts/\ts.length=x.n/\x.n<=x.c:=by
 have hxn:=h.n;have hle:=h.len;obtain⟨xa,xn,xc⟩:=x;change xn=us.length at hxn;obtain⟨a',c',e,hc,hr⟩:=OT.slice h.row;change Value.slice xa (xn+1) xc=_ at e
 injection e with e1 e2 e3
 subst e1 e3;refine⟨⟨fun hne=>?_⟩,by show ts.length=xn;omega,by show xn<=xc;omega⟩;obtain⟨b,off,ha,hcc⟩:=hr.ex (by simp);exact⟨b,off,ha,fun i t hi=>hcc i t (by rw[List.getElem?_append_left (List.getElem?_eq_some_iff.1 hi).1];exact hi)⟩
def Tw2 (w0 w:World) (lo:Nat) (y x:PV):Prop:=∃ ts us,TwP w0 w lo y ts us/\RT w0 x.a us/\us.length=x.n/\∀ u∈us,u.c.t.n<=100000000/\u.c.l.n<=100000000
theorem TwP.below {w0 w w':World} {lo:Nat} {x:PV} {ts us:List TV} (h:TwP w0 w lo x ts us) (hb:Below w.heap.size w w'):TwP w0 w' lo x ts us:=⟨OT.below h.row hb,h.n,h.len,fun i t u h1 h2=>(h.each i t u h1 h2).below hb,h.ap⟩
theorem Tw2.below {w0 w w':World} {lo:Nat} {y x:PV} (h:Tw2 w0 w lo y x) (hb:Below w.heap.size w w'):Tw2 w0 w' lo y x:=by
 obtain⟨ts,us,h1,h2⟩:=h;exact⟨ts,us,h1.below hb,h2⟩
theorem Tw2.left {w0 w:World} {lo:Nat} {y x:PV} (h:Tw2 w0 w lo y x) (hw:Below w0.heap.size w0 w) (hn:x.n<=1000000) :
  Calls Tryz.prog 21 #[y.v,x.v] w fun e w'=>e=.returned (.bool true)/\Below w.heap.size w w':=by
 obtain⟨ts,us,h1,h2,h3,h4⟩:=h;exact UM y x ts us lo w0 w h1 hw h2 h3 hn h4
theorem jev {α β:Type} {l:List α} {m:List β} {i:Nat} {a:α} {b:β} (h:(l.zip m)[i]?=some (a,b)):l[i]?=some a/\m[i]?=some b:=by
 rw[List.getElem?_zip_eq_some] at h;exact h
theorem twin_k (x:PV) (P:List Tm) (w:World) (h:KP w x P) (hl:∀ t∈P,LQ t.2 900000) (hx:x.n<=1000000) :
  Calls Tryz.prog 12 #[x.v] w fun e w'=>∃ y:PV,e=.returned y.v/\y.n=x.n/\KP w' y P/\Tw2 w w' w.heap.size y x/\Below w.heap.size w w':=by
 obtain⟨L,h1,h2,h3,h4⟩:=h.ex
 have hs:∀ u∈L.map Prod.fst,u.c.t.n<=100000000/\u.c.l.n<=100000000:=fun u hu=>by
  obtain⟨e,he,rfl⟩:=List.mem_map.1 hu;have:=(h3 e he).len (hl (e.1.m,e.2) (by rw[<- h4];exact List.mem_map.2 ⟨e,he,rfl⟩)) zj;exact⟨by have:=this.1;omega,by have:=this.2;omega⟩
 refine(Z6 x (L.map Prod.fst) w h1 (by rw[List.length_map,h2]) hx fun u hu=>?_).mono fun e w' ⟨y,ts,he,hn,ht,hb⟩=>?_
 ·obtain⟨g1,g2⟩:=hs u hu;obtain⟨e,he,rfl⟩:=List.mem_map.1 hu;exact⟨_,_,(h3 e he).t.rd,(h3 e he).l.rd,g1,g2⟩
 ·obtain⟨r1,r2,r3⟩:=ht.rt
  have hlen:ts.length=(L.map Prod.snd).length:=by rw[ht.len,List.length_map,List.length_map]
  refine⟨y,he,hn,⟨⟨ts.zip (L.map Prod.snd),?_,?_,fun e he=>?_,?_⟩,r3,h.canon,h.small⟩,⟨ts,_,ht,h1,by rw[List.length_map,h2],hs⟩,hb⟩
  ·rw[List.map_fst_zip (by omega)];exact r1
  ·rw[List.length_zip,<- hlen,Nat.min_self,r2]
  ·obtain⟨i,hi⟩:=List.mem_iff_getElem?.1 he;obtain⟨t,q⟩:=e;obtain⟨i1,i2⟩:=jev hi;rw[List.getElem?_map] at i2;obtain⟨e2,e3,rfl⟩:=Option.map_eq_some_iff.1 i2;obtain⟨-,o1,o2,g1,g2,g3⟩:=ht.each i t e2.1 i1 (by rw[List.getElem?_map,e3];rfl);exact g3.k g1 g2 (h3 e2 (List.mem_of_getElem? e3))
  ·rw[<- h4]
   refine List.ext_getElem? fun i=>?_
   rw[List.getElem?_map,List.getElem?_map]
   cases e3:L[i]? with
   | none =>
    have h9:=List.getElem?_eq_none_iff.1 e3
    rw[List.getElem?_eq_none (l:=ts.zip (L.map Prod.snd)) (by rw[List.length_zip,hlen,List.length_map,Nat.min_self];exact h9)]
   | some e2 =>
    have hil:=(List.getElem?_eq_some_iff.1 e3).1;obtain⟨t,e4⟩:∃ t,ts[i]?=some t:=⟨_,List.getElem?_eq_getElem (by rw[hlen,List.length_map];exact hil)⟩
    have e5:(ts.zip (L.map Prod.snd))[i]?=some (t,e2.2):=by
     rw[List.getElem?_zip_eq_some];exact⟨e4,by rw[List.getElem?_map,e3];rfl⟩
    obtain⟨hm,-⟩:=ht.each i t e2.1 e4 (by rw[List.getElem?_map,e3];rfl);rw[e5];show some (t.m,e2.2)=some (e2.1.m,e2.2);rw[hm]
theorem Ux:∀ {L M:List TO},L.length=M.length->(∀ (i:Nat) (e f:TO),L[i]?=some e->M[i]?=some f->e.1.m=f.1.m/\e.2=f.2)->vals L=vals M
 | [],[],_,_=>rfl
 | [],_ :: _,h,_=>by simp at h
 | _ :: _,[],h,_=>by simp at h
 | (a,p) :: l,(b,q) :: m,h,hh=>by
  obtain⟨h1,h2⟩:=hh 0 _ _ rfl rfl;have h1:a.m=b.m:=h1;have h2:p=q:=h2;subst h2
  have:=Ux (L:=l) (M:=m) (by simpa using h) fun i e f he hf=>hh (i+1) e f he hf
  unfold vals;rw[this];clear h hh this
  cases p with
  | none=>rfl
  | some q =>
   cases vals m with
   | none=>rfl
   | some l =>
    show some ((a.m,q) :: l)=some ((b.m,q) :: l);rw[h1]
theorem twin_b (x:PV) (w:World) (h:BP w x) (hx:x.n<=1000000) :
  Calls Tryz.prog 12 #[x.v] w fun e w'=>∃ y:PV,e=.returned y.v/\y.n=x.n/\BP w' y/\Tw2 w w' w.heap.size y x/\Below w.heap.size w w':=by
 obtain⟨L,⟨h1,h2,h3,h4,h5,h6⟩,hno⟩:=h
 have hs:∀ u∈L.map Prod.fst,u.c.t.n<=100000000/\u.c.l.n<=100000000:=fun u hu=>by
  obtain⟨e,he,rfl⟩:=List.mem_map.1 hu;have:=h6 e he;exact⟨by have:=this.1;omega,by have:=this.2;omega⟩
 refine(Z6 x (L.map Prod.fst) w h1 (by rw[List.length_map,h2]) hx fun u hu=>?_).mono fun e w' ⟨y,ts,he,hn,ht,hb⟩=>?_
 ·obtain⟨g1,g2⟩:=hs u hu;obtain⟨e,he,rfl⟩:=List.mem_map.1 hu;have h7:=h4 e he;unfold TO.ok at h7;split at h7
  ·exact⟨_,_,h7.t.rd,h7.l.rd,g1,g2⟩
  ·obtain⟨o1,o2,q1,q2,-⟩:=h7.ex;exact⟨o1,o2,q1,q2,g1,g2⟩
 ·obtain⟨r1,r2,r3⟩:=ht.rt
  have hlen:ts.length=(L.map Prod.snd).length:=by rw[ht.len,List.length_map,List.length_map]
  have get:∀ (i:Nat) (e:TO),(ts.zip (L.map Prod.snd))[i]?=some e->∃ e2 o1 o2,L[i]?=some e2/\e.2=e2.2/\e.1.m=e2.1.m/\Rd w e2.1.c.t.a e2.1.c.t.n o1/\Rd w e2.1.c.l.a e2.1.c.l.n o2/\TwF w' w.heap.size e.1.c e2.1.c o1 o2:=fun i e hi=>by
   obtain⟨t,q⟩:=e;obtain⟨i1,i2⟩:=jev hi;rw[List.getElem?_map] at i2;obtain⟨e2,e3,rfl⟩:=Option.map_eq_some_iff.1 i2;obtain⟨hm,o1,o2,g1,g2,g3⟩:=ht.each i t e2.1 i1 (by rw[List.getElem?_map,e3];rfl);exact⟨e2,o1,o2,e3,rfl,hm,g1,g2,g3⟩
  refine⟨y,he,hn,⟨ts.zip (L.map Prod.snd),⟨?_,?_,r3,fun e he=>?_,fun e he=>?_,fun e he=>?_⟩,?_⟩,⟨ts,_,ht,h1,by rw[List.length_map,h2],hs⟩,hb⟩
  ·rw[List.map_fst_zip (by omega)];exact r1
  ·rw[List.length_zip,<- hlen,Nat.min_self,r2]
  ·obtain⟨i,hi⟩:=List.mem_iff_getElem?.1 he;obtain⟨e2,o1,o2,g1,g2,-,g3,g4,g5⟩:=get i e hi;have h7:=h4 e2 (List.mem_of_getElem? g1);obtain⟨t,q⟩:=e;obtain⟨t2,q2⟩:=e2;have g2:q=q2:=g2;subst g2;unfold TO.ok at h7 ⊢
   cases q with
   | some q=>exact g5.k g3 g4 h7
   | none=>exact g5.b g3 g4 h7
  ·obtain⟨i,hi⟩:=List.mem_iff_getElem?.1 he;obtain⟨e2,o1,o2,g1,-,g2,-⟩:=get i e hi;rw[g2];exact h5 e2 (List.mem_of_getElem? g1)
  ·obtain⟨i,hi⟩:=List.mem_iff_getElem?.1 he;obtain⟨e2,o1,o2,g1,-,-,-,-,g5⟩:=get i e hi;have h8:=h6 e2 (List.mem_of_getElem? g1);exact⟨by rw[g5.top.n];exact h8.1,by rw[g5.low.n];exact h8.2⟩
  ·rw[show okP (ts.zip (L.map Prod.snd))=okP L by
    unfold okP
    rw[Ux (L:=ts.zip (L.map Prod.snd)) (M:=L) (by rw[List.length_zip,hlen,Nat.min_self,List.length_map]) fun i e f he hf=>by
     obtain⟨e2,-,-,g1,g2,g3,-⟩:=get i e he;rw[hf] at g1;obtain rfl:=Option.some.inj g1
     exact⟨g3,g2⟩]]
   exact hno
abbrev OW (w:World) (lo:Nat) (v:Value) (Zs:List PV):Prop:=w.ownsRow lo 23 1 v Zs.length (Zs.map PV.v)
theorem OW.own {w:World} {lo:Nat} {v:Value} {Zs:List PV} (h:OW w lo v Zs) {k:Nat} (hk:some k=v.ownBlock):lo<=k/\∃ cur,w.heap[k]?=some (.cells cur 23 (0,0)):=by
 rcases h.2 with ⟨hv,_⟩ | ⟨g,cap,cur,hv,hlo,hg,_⟩
 ·rw[hv] at hk;cases hk
 ·rw[hv] at hk;have hk:some k=some g:=hk
  cases hk
  exact⟨hlo,cur,hg⟩
theorem OW.cells {w:World} {lo:Nat} {v:Value} {Zs:List PV} (h:OW w lo v Zs):∃ a c,v=.slice a Zs.length c/\Zs.length<=c/\∀ i z,Zs[i]?=some z->∃ g,a=some ⟨g,0,none⟩/\w.cell? ⟨g,i,none⟩=some z.v:=by
 rcases h.2 with ⟨hv,h0⟩ | ⟨g,cap,cur,hv,hnc,_,hg,hl,hcs,htake⟩
 ·have hz:Zs=[]:=List.length_eq_zero_iff.1 h0;subst hz;exact⟨none,0,hv,zj,fun i b hi=>by simp at hi⟩
 ·refine⟨some ⟨g,0,none⟩,cap,hv,by omega,fun i z hi=>⟨g,rfl,?_⟩⟩;have hil:=(List.getElem?_eq_some_iff.1 hi).1;rw[cell_of_row _ _ _ _ _ _ ‹_›]
  have h1:(Zs.map PV.v)[i]?=some z.v:=by rw[List.getElem?_map,hi];rfl
  rw[<- htake,List.getElem?_take,if_pos (by omega),Array.getElem?_toList] at h1;exact h1
structure EQ (w:World) (lo lo2:Nat) (v:Value) (Rs:List (List Tm)):Prop where
 ex:∃ Zs:List PV,OW w lo2 v Zs/\Zs.length=Rs.length/\∀ (i:Nat) (z:PV) (R:List Tm),Zs[i]?=some z->Rs[i]?=some R->EP w lo z R
theorem EQ.nil (w:World) (lo lo2:Nat):EQ w lo lo2 (.slice none 0 0) []:=⟨[],World.ownsRow_nil _ _ _ _,rfl,fun i z R h=>by simp at h⟩
theorem EQ.slice {w:World} {lo lo2:Nat} {v:Value} {Rs:List (List Tm)} (h:EQ w lo lo2 v Rs):∃ a c,v=.slice a Rs.length c:=by
 obtain⟨Zs,h1,h2,-⟩:=h.ex;obtain⟨a,c,e,-⟩:=h1.cells;exact⟨a,c,by rw[e,h2]⟩
theorem at4 (m:Mo) {i:Nat} (hi:i<4):[Value.int .u16 m.x,.int .u16 m.y,.int .u16 m.z,.int .u16 m.t][i]?=some (.int .u16 (m.at i)):=by
 match i,hi with
 | 0,_=>rfl
 | 1,_=>rfl
 | 2,_=>rfl
 | 3,_=>rfl
theorem put_dec4 {w:World} {b:Nat} {T:TypeId} {m:Mo} {i:Nat} (h:Bxs w b T [.int .u16 m.x,.int .u16 m.y,.int .u16 m.z,.int .u16 m.t]) (hi:i<4) :
  Bxs (w.setCell ⟨b,i,none⟩ (.int .u16 ((m.at i-1:Nat):Int))) b T [.int .u16 (m.dec i).x,.int .u16 (m.dec i).y,.int .u16 (m.dec i).z,.int .u16 (m.dec i).t]:=by
 match i,hi with
 | 0,_=>exact h.put 0 _
 | 1,_=>exact h.put 1 _
 | 2,_=>exact h.put 2 _
 | 3,_=>exact h.put 3 _
theorem rslope_k (i:Nat) (hi:i<4) (x:PV) (P:List Tm) (w:World) (hx:KP w x P) (hq:∀ t∈P,LQ t.2 900000) (hxn:x.n<=1000000) :
  Calls Tryz.prog 30 #[x.v,.int .i64 (i:Int)] w fun e w'=>∃ z:PV,e=.returned (.tuple #[z.v,.int .i64 0])/\EP w' w.heap.size z (Zj P i)/\Below w.heap.size w w':=by
 obtain⟨za,zn,zc⟩:=x;have CK:=qh (show Calls Tryz.prog 54 #[.slice za zn zc] w _ from Km (x:=⟨za,zn,zc⟩) hx hq (by show zn<=_;have:zn<=1000000:=hxn;omega));have FZ:=qh hx;have HQ:=qh hq;have HI:=qh hi;have HZN:=qh (show zn<=1000000 from hxn);have HPL:=qh (show zn=P.length from hx.len);have HI1:=qh (show(i:Int)<4 by omega);have HI2:=qh (show ¬((i:Int)<0) by omega);have HI3:=qh (show(0:Int)<=(i:Int) by omega);have hi2:=HI2.o
 have hi4:¬((i:Int)>3):=by omega
 clear hx hxn hq hi;change Calls Tryz.prog 30 #[.slice za zn zc,.int .i64 (i:Int)] w _;go_enter Tryz.func30,Tryz.ntmps30;go_wp2_with fail
 with_reducible refine CK.o.mono ?_
 rintro e W ⟨rfl,hb⟩;have KG:=qh hb;have HLW:=qh hb.size;clear hb CK;go_wp2_with fail
 clear hi2 hi4;go_loopw [6,7] (fun o j wr=>∃ (k:Nat) (z:PV) (L:List TE),o=z.v/\j=.int .i64 k/\k<=zn/\ER wr W.heap.size z.v L/\L.map tm=X0 (P.take k) i/\L.length<=k/\Below W.heap.size W wr) (fun _ j _=>zn-(intOf j).toNat)
 case atStart=>exact⟨0,⟨none,0,0⟩,[],rfl,rfl,Nat.zero_le _,ER.nil,rfl,Nat.zero_le _,zk⟩
 case round =>
  obtain⟨k,⟨oa,on,oc⟩,L,ho,rfl,hkz,her,hL,hll,hb0⟩:=hrel;obtain rfl:_=Value.slice oa on oc:=ho;have HKZ:=qh hkz;have ERR:=qh her;have HL:=qh hL;have HLL:=qh hll;have KW:=qh (show Bt W wr from⟨hb0⟩);have KG:=qk KG hb0;clear hkz her hL hll hb0;by_cases hkl:k<zn
  ·have HKL:=qh hkl;have HLT:=qh (show(k:Int)<(zn:Int) by omega);have hlt:=HLT.o;obtain⟨t,q,pb,po,rfl,hre,hnf,htp⟩:=FZ.o.get HKL.o;have HRE:=qh hre;have HNF:=qh hnf;have HTP:=qh htp;have HLF:=qh (show LF t.c 900000 from hnf.len (HQ.o _ (List.mem_of_getElem? htp)) zj);have HST:=qh (show t.m.Small from FZ.o.small _ (List.mem_of_getElem? htp));have HAT:=qh (Kl HST.o i);have HEK:=qh (show IntKind.i64.wrap ((k:Int)+1)=(k:Int)+1 from IntWalk.i64_in _ (by have:=HKL.o;have:=HZN.o;omega));have E1:=qh (hre.below KG.o);clear hkl hre hnf htp;obtain⟨c0,c1,c2,c3,c4,c5,c6,c7⟩:=E1.o.eight
   go_upto_region 8 with (fail)
   obtain⟨W8,hV⟩:∃ V,V=wr.alloc (.cells #[.int .u16 t.m.x,.int .u16 t.m.y,.int .u16 t.m.z,.int .u16 t.m.t] 69):=⟨_,rfl⟩
   have hb:Below wr.heap.size wr W8:=by rw[hV];exact zk.alloc zj _
   have B8:=qh (show Bxs W8 wr.heap.size 69 [.int .u16 t.m.x,.int .u16 t.m.y,.int .u16 t.m.z,.int .u16 t.m.t] by rw[hV];exact Bxs.new wr 69 [.int .u16 t.m.x,.int .u16 t.m.y,.int .u16 t.m.z,.int .u16 t.m.t]);obtain⟨A8,hA8⟩:∃ A,A=wr.heap.size:=⟨_,rfl⟩;rw[<- hV,<- hA8];rw[<- hA8] at B8;have HA8:=qh (show W.heap.size<=A8 by rw[hA8];exact KW.o.b.size);have HAW:=qh (show wr.heap.size<=A8 by rw[hA8];exact zj);have ERW:=qh (ERR.o.below hb);have KR:=qh (show Bt wr W8 from⟨hb⟩);have KW:=qh (KW.o.below hb);have KG:=qk KG hb;clear hb hV hA8 c0 c1 c2 c3 c4 c5 c6 c7 hlt E1;have hs0:=B8.o.cell (i:=i) (at4 t.m HI.o);have hsf:=B8.o.fz;have hsl:=B8.o.lt;have hi1:=HI1.o;have hi2:=HI2.o;have hi3:=HI3.o;by_cases hz:t.m.at i=0
   ·have hzb:((t.m.at i:Int)==0)=true:=by rw[hz];rfl
    have hz2:(t.m.at i:Int)=0:=by omega
    have ek:=HEK.o;go_wp2_with fail
    go_roundw
    case rel =>
     refine⟨k+1,⟨oa,on,oc⟩,L,rfl,rfl,HKL.o,ERW.o,?_,Nat.le_succ_of_le HLL.o,KW.o.b⟩;rw[Yr P i HTP.o,if_pos hz];exact HL.o
    case measure=>simp[intOf];have:=HKL.o;omega
   ·have hz2:¬(t.m.at i:Int)=0:=by omega
    have HNZ:=qh hz;have EC:=qh (show IntKind.i64.wrap (t.m.at i:Int)=(t.m.at i:Int) from IntWalk.i64_in _ (by have:=HAT.o;omega));have HQI:=qh (show LQ (((t.m.at i:Int):Rat)) 3 from LQ.int (by have:=HAT.o;omega) (by have:=HAT.o;omega))
    go_upto_region 9 with (fail)
    clear hs0 hsf hsl hi1 hi2 hi3 hz hz2;have E1:=qh (HRE.o.below KG.o);have NF:=qh (HNF.o.below KG.o);have HLO:=qh KW.o.b.size
    go_upto_region 9 with (fail)
    refine FS.Jc 12 [] (FS.JM [(9,FS.Sp.made (fun x:FV=>x.v) (fun x w'=>EF w' W8.heap.size x ((t.m.at i:Int):Rat)) FV.blk),(10,FS.Sp.made (fun x:FV=>x.v) (fun x w'=>EF w' W8.heap.size x (q*((t.m.at i:Int):Rat))) FV.blk),(11,FS.Sp.box 28 4 W8.heap.size)])
     (fun w'=>Below W8.heap.size W8 w') (by kernel_rfl) (by kernel_rfl) (by kernel_rfl)
     (FS.Jd (FS.Sp.Jg _ (fun _ _ _ h _ hk=>h.kept hk) (FS.JJ (by kernel_rfl))) (FS.Jd (FS.Sp.Jg _ (fun _ _ _ h _ hk=>h.kept hk) (FS.JJ (by kernel_rfl))) (FS.Jd (FS.Sp.jew _ _ _ _) (FS.Jl)))) (fun _ _ h hb=>h.trans (hb.mono h.size)) (zk.drew) ?_
    simp only[zu,zi,ze,zx,zy,zv,zw]
    iterate 9
     refine FS.Jb rfl rfl rfl ?_ (fun w' hw'=>?_) ?_;rotate_left
     ·have hb':=hw'.world;have hlt:=HLT.o;obtain⟨hs0,hs1,hs2,hs3,hs4,hs5,hs6,hs7⟩:=(E1.o.below hb').eight;have hB:=B8.o.bl hb';have hs0:=hB.cell (i:=i) (at4 t.m HI.o);have hsf:=hB.fz;have hsl:=hB.lt;have hi1:=HI1.o;have hi2:=HI2.o;have hi3:=HI3.o;have ec:=EC.o;clear hw';go_simp
      try rfl
     conv=>arg 10;simp only[Act.put,zq0,zq1,zq2]
    refine FS.Jf rfl rfl rfl (fun w' hw'=>?_) ?_
    ·have hb':=hw'.world;refine FS.Jo (FS.PM (fun x:FV=>x.v) (fun x w'=>EF w' W8.heap.size x ((t.m.at i:Int):Rat)) FV.blk w'.heap.size) ?_ (fun _ _ h=>h.post (fun _ _=>FV.inj));go_simp;have CT:=(show Calls Tryz.prog 76 #[.int .i64 (t.m.at i:Int)] w' _ from rofV (t.m.at i:Int) w' (by have:=HAT.o;omega) (by have:=HAT.o;omega));refine CT.mono ?_;rintro e w'' ⟨za,rfl,ho,hb⟩;exact⟨_,rfl,⟨za,rfl,ho.mono hb'.size,ho.QY⟩,hb⟩
    rintro _ ⟨y9,rfl⟩
    conv=>arg 10;simp only[Act.put,zq0,zq1,zq2]
    refine FS.Jf rfl rfl rfl (fun w' hw'=>?_) ?_
    ·have hb':=hw'.world;refine FS.Jo (FS.PM (fun x:FV=>x.v) (fun x w'=>EF w' W8.heap.size x (q*((t.m.at i:Int):Rat))) FV.blk w'.heap.size) ?_ (fun _ _ h=>h.post (fun _ _=>FV.inj));go_simp;have f9:=FS.JE (val:=(fun x:FV=>x.v)) (Φ:=fun x w'=>EF w' W8.heap.size x ((t.m.at i:Int):Rat)) (fun _ _=>FV.inj) (hw'.fact 9 (by kernel_rfl));have CT:=(show Calls Tryz.prog 81 #[.agg #[.bool t.c.t.s,.slice t.c.t.a t.c.t.n t.c.t.c,.bool t.c.l.s,.slice t.c.l.a t.c.l.n t.c.l.c],.agg #[.bool y9.t.s,.slice y9.t.a y9.t.n y9.t.c,.bool y9.l.s,.slice y9.l.a y9.l.n y9.l.c]] w' _ from jai (x:=t.c) (y:=y9) (NF.o.below hb').any HLF.o f9.k.any (f9.k.len HQI.o (by decide)));refine CT.mono ?_;rintro e w'' ⟨za,rfl,ho,hb⟩;exact⟨_,rfl,⟨za,rfl,ho.mono hb'.size,ho.QY⟩,hb⟩
    rintro _ ⟨y10,rfl⟩
    conv=>arg 10;simp only[Act.put,zq0,zq1,zq2]
    refine FS.Jf rfl rfl rfl (fun w' hw'=>?_) ?_
    ·have hb':=hw'.world;refine FS.Jo (FS.PB 28 4 W8.heap.size w'.heap.size) ?_ (fun _ _ h=>h.post);go_simp;exact⟨FS.PB.new _ rfl hb'.size,zk.alloc zj _⟩
    rintro _ ⟨y11,rfl⟩
    conv=>arg 10;simp only[Act.put,zq0,zq1,zq2]
    refine FS.Jn (fun w102 hb hF=>?_);have N103:=qh (show EF w102 W8.heap.size y10 (q*((t.m.at i:Int):Rat)) from(FS.JE (val:=(fun x:FV=>x.v)) (Φ:=fun x w'=>EF w' W8.heap.size x (q*((t.m.at i:Int):Rat))) (fun _ _=>FV.inj) (hF.all 10)));have HX:=qh (FS.jdr (hF.all 11));have HBW:=qh hb;clear hF hb;obtain⟨c0,c1,c2,c3,hB⟩:=shp4 HX.o.1;have HBB:=qh hB;clear hB;have m0:=HBB.o.ce 0;have m1:=HBB.o.ce 1;have m2:=HBB.o.ce 2;have m3:=HBB.o.ce 3;have mf:=HBB.o.fz;have ml:=HBB.o.lt
    go_upto_region 10 with (fail)
    obtain⟨v104,hV⟩:∃ V,V=(((w102.setCell ⟨y11,0,none⟩ (.bool y10.t.s)).setCell ⟨y11,1,none⟩ (.slice y10.t.a y10.t.n y10.t.c)).setCell ⟨y11,2,none⟩ (.bool y10.l.s)).setCell ⟨y11,3,none⟩ (.slice y10.l.a y10.l.n y10.l.c):=⟨_,rfl⟩
    have hbV:Below W8.heap.size W8 v104:=by rw[hV];exact((((HBW.o.setCell HX.o.2 _).setCell HX.o.2 _).setCell HX.o.2 _).setCell HX.o.2 _)
    have BX101:=qh (show Bxs v104 y11 28 [.bool y10.t.s,.slice y10.t.a y10.t.n y10.t.c,.bool y10.l.s,.slice y10.l.a y10.l.n y10.l.c] by rw[hV];exact((((HBB.o.put 0 _).put 1 _).put 2 _).put 3 _));have N103:=qh (show EF v104 W8.heap.size y10 (q*((t.m.at i:Int):Rat)) by rw[hV];exact((((N103.o.Jr HBB.o (by decide) 0 _).Jr (HBB.o.put 0 _) (by decide) 1 _).Jr ((HBB.o.put 0 _).put 1 _) (by decide) 2 _).Jr (((HBB.o.put 0 _).put 1 _).put 2 _) (by decide) 3 _));rw[show(((w102.setCell ⟨y11,0,none⟩ (.bool y10.t.s)).setCell ⟨y11,1,none⟩ (.slice y10.t.a y10.t.n y10.t.c)).setCell ⟨y11,2,none⟩ (.bool y10.l.s)).setCell ⟨y11,3,none⟩ (.slice y10.l.a y10.l.n y10.l.c)=v104 from hV.symm];clear m0 m1 m2 m3 mf ml HX HBW HBB;have NF:=qh (NF.o.below hbV);have KW:=qh (KW.o.below hbV);have KR:=qh (KR.o.below hbV);have B8:=qh (B8.o.bl hbV);have KG:=qk KG hbV;clear hV hbV;have hi1:=HI1.o;have hi2:=HI2.o;have hi3:=HI3.o
    have eu:IntKind.u16.wrap ((t.m.at i:Int)-1)=((t.m.at i-1:Nat):Int):=by rw[IntWalk.u16_in _ (by have:=HAT.o;have:=HNZ.o;omega)];have:=HNZ.o;omega
    have hs0:=B8.o.cell (i:=i) (at4 t.m HI.o);have hsf:=B8.o.fz;have hsl:=B8.o.lt
    go_upto_region 11 with (fail)
    obtain⟨V5,hV⟩:∃ V,V=v104.setCell ⟨A8,i,none⟩ (.int .u16 ((t.m.at i-1:Nat):Int)):=⟨_,rfl⟩
    have HNE:=qh (show y11≠A8 from fun e=>by
     have h1:=BX101.o;have h2:=B8.o;rw[e] at h1;unfold Bxs at h1 h2;rw[h1] at h2
     injection h2 with h2
     injection h2 with _ h2 _
     exact absurd h2 (by decide))
    have B8D:=qh (show Bxs V5 A8 69 [.int .u16 (t.m.dec i).x,.int .u16 (t.m.dec i).y,.int .u16 (t.m.dec i).z,.int .u16 (t.m.dec i).t] by rw[hV];exact put_dec4 B8.o HI.o);have BXX:=qh (show Bxs V5 y11 28 [.bool y10.t.s,.slice y10.t.a y10.t.n y10.t.c,.bool y10.l.s,.slice y10.l.a y10.l.n y10.l.c] by rw[hV];exact BX101.o.other HNE.o _);have NY:=qh (show EF V5 W8.heap.size y10 (q*((t.m.at i:Int):Rat)) by rw[hV];exact N103.o.Jr B8.o (by decide) i _);have KW5:=qh (show Bt W V5 by rw[hV];exact⟨KW.o.b.setCell HA8.o _⟩);have KR5:=qh (show Bt wr V5 by rw[hV];exact⟨KR.o.b.setCell HAW.o _⟩);have ER5:=qh (ERR.o.below KR5.o.b);rw[show v104.setCell ⟨A8,i,none⟩ (.int .u16 ((t.m.at i-1:Nat):Int))=V5 from hV.symm];clear hV eu hs0 hsf hsl hi1 hi2 hi3 B8;have d0:=B8D.o.ce 0;have d1:=B8D.o.ce 1;have d2:=B8D.o.ce 2;have d3:=B8D.o.ce 3;have df:=B8D.o.fz;have dl:=B8D.o.lt;have e0:=BXX.o.ce 0;have e1:=BXX.o.ce 1;have e2:=BXX.o.ce 2;have e3:=BXX.o.ce 3;have ef:=BXX.o.fz;have el:=BXX.o.lt;go_wp2_with (first | (at_builtin;refine UK (t:=⟨y10,t.m.dec i⟩) rfl _ _ rfl rfl (ER5.o.alloc _) (by have:=HLL.o;have:=HKZ.o;have:=HZN.o;omega) (zm KW5.o.b.size (by rw[World.size_alloc];exact Nat.le_succ _)) rfl (Bxs.new V5 71 [.bool y10.t.s,.slice y10.t.a y10.t.n y10.t.c,.bool y10.l.s,.slice y10.l.a y10.l.n y10.l.c,.int .u16 (t.m.dec i).x,.int .u16 (t.m.dec i).y,.int .u16 (t.m.dec i).z,.int .u16 (t.m.dec i).t]) ((NY.o.mono HLO.o).alloc _) rfl ?_))
    intro z9 w9 her9 hb9;obtain⟨za9,zn9,zc9⟩:=z9;have ER9:=qh her9;have HB9:=qh (show Below W.heap.size W w9 from(KW5.o.b.alloc KW5.o.b.size _).trans hb9);have ek:=HEK.o;clear her9 hb9;go_wp2_with fail
    go_roundw
    case rel =>
     refine⟨k+1,⟨za9,zn9,zc9⟩,L++[(⟨y10,t.m.dec i⟩,q*((t.m.at i:Int):Rat))],rfl,rfl,HKL.o,ER9.o,?_,by rw[List.length_append];have:=HLL.o;exact Nat.succ_le_succ this,HB9.o⟩;rw[Yr P i HTP.o,if_neg HNZ.o,List.map_append,HL.o];rfl
    case measure=>simp[intOf];have:=HKL.o;omega
  ·have HKE:=qh (show k=zn by have:=HKZ.o;omega)
   have hge:¬((k:Int)<(zn:Int)):=by omega
   clear hkl;go_wp2_with fail
   go_ret2;have hall:P.take k=P:=List.take_of_length_le (by rw[HKE.o,HPL.o];exact zj);have hL:=HL.o;rw[hall,Uk FZ.o.canon i] at hL;refine⟨⟨oa,on,oc⟩,rfl,⟨⟨L,ERR.o.mono HLW.o,hL⟩,J8 _,fun v hv=>?_⟩,KG.o⟩;rw[<- Uk FZ.o.canon i] at hv;obtain⟨u,hu,rfl⟩:=List.mem_map.1 hv;exact Uv (FZ.o.small u (List.mem_filter.1 hu).1) i
end Pol
namespace Book
open Go.RowKit Go.Sort Go.FreshG Limb Pol
structure HG (w:World) (lo:Nat) (S:Nat->Prop) (L M:List HL):Prop where
 num:∀ x∈L,(∃ o,Limb.Own 160 w lo x.a x.n x.c o)/\x.n<=900000000
 row:∀ x∈M,(∃ o,J5 w lo x.a x.n x.c o)/\x.n<=100000000
 at_:∀ x:HL,x∈L++M->∀ p:Addr,x.a=some p->S p.block
 nq:∀ x:HL,x∈L++M->x.q<=30000
 al:ZP L
 am:ZP M
theorem HG.nil (w:World) (lo:Nat) (S:Nat->Prop):HG w lo S [] []:=⟨fun x h=>(by cases h),fun x h=>(by cases h),fun x h=>(by cases h),fun x h=>(by cases h),List.Pairwise.nil,List.Pairwise.nil⟩
theorem HG.app {w:World} {lo:Nat} {S T U:Nat->Prop} {L M L2 M2:List HL} (h:HG w lo S L M) (g:HG w lo T L2 M2) (hS:∀ b,S b->U b) (hT:∀ b,T b->U b) (hd:∀ b,S b->¬T b):HG w lo U (L++L2) (M++M2) where
 num x hx:=(List.mem_append.1 hx).elim (h.num x) (g.num x)
 row x hx:=(List.mem_append.1 hx).elim (h.row x) (g.row x)
 at_ x hx p hp:=by
  rcases List.mem_append.1 hx with hx | hx <;> rcases List.mem_append.1 hx with hx | hx
  ·exact hS _ (h.at_ x (List.mem_append_left _ hx) p hp)
  ·exact hT _ (g.at_ x (List.mem_append_left _ hx) p hp)
  ·exact hS _ (h.at_ x (List.mem_append_right _ hx) p hp)
  ·exact hT _ (g.at_ x (List.mem_append_right _ hx) p hp)
 nq x hx:=by
  rcases List.mem_append.1 hx with hx | hx <;> rcases List.mem_append.1 hx with hx | hx
  ·exact h.nq x (List.mem_append_left _ hx)
  ·exact g.nq x (List.mem_append_left _ hx)
  ·exact h.nq x (List.mem_append_right _ hx)
  ·exact g.nq x (List.mem_append_right _ hx)
 al:=List.pairwise_append.2 ⟨h.al,g.al,fun x hx y hy p q hp hq e=>hd p.block (h.at_ x (List.mem_append_left _ hx) p hp) (by rw[e];exact g.at_ y (List.mem_append_left _ hy) q hq)⟩
 am:=List.pairwise_append.2 ⟨h.am,g.am,fun x hx y hy p q hp hq e=>hd p.block (h.at_ x (List.mem_append_right _ hx) p hp) (by rw[e];exact g.at_ y (List.mem_append_right _ hy) q hq)⟩
theorem HG.keep {w w':World} {lo:Nat} {S:Nat->Prop} {L M:List HL} (h:HG w lo S L M) (hk:∀ b,S b->w'.heap[b]?=w.heap[b]?):HG w' lo S L M where
 num x hx:=by
  obtain⟨⟨o,ho⟩,hn⟩:=h.num x hx;exact⟨⟨o,ho.keep fun p hp=>hk _ (h.at_ x (List.mem_append_left _ hx) p hp)⟩,hn⟩
 row x hx:=by
  obtain⟨⟨o,ho⟩,hn⟩:=h.row x hx;exact⟨⟨o,ho.keep fun p hp=>hk _ (h.at_ x (List.mem_append_right _ hx) p hp)⟩,hn⟩
 at_:=h.at_
 nq:=h.nq
 al:=h.al
 am:=h.am
theorem HG.mono {w:World} {lo lo':Nat} {S:Nat->Prop} {L M:List HL} (h:HG w lo S L M) (hl:lo'<=lo):HG w lo' S L M where
 num x hx:=by
  obtain⟨⟨o,ho⟩,hn⟩:=h.num x hx;exact⟨⟨o,ho.mono hl⟩,hn⟩
 row x hx:=by
  obtain⟨⟨o,ho⟩,hn⟩:=h.row x hx;exact⟨⟨o,ho.mono hl⟩,hn⟩
 at_:=h.at_
 nq:=h.nq
 al:=h.al
 am:=h.am
theorem BkS.apartG {w:World} {b base q lo:Nat} {S:Nat->Prop} {L M:List HL} (h:BkS w b base q L M) (hG:HG w lo S L M) (h0:0<L.length) (h1:0<M.length) (hk:L.length<=30000) (hkt:M.length<=30000) (hS:∀ b,S b->lo<=b/\b<base) (hlo:lo<=base) :
  Calls Tryz.prog 25 #[.pointer (some ⟨b,0,none⟩)] w fun e w'=>e=.returned (.bool true)/\Below lo w w':=by
 classical
 have hO:∀ x:HL,∃ o,x∈L->Limb.Own 160 w lo x.a x.n x.c o:=fun x=>by
  by_cases hx:x∈L
  ·obtain⟨o,ho⟩:=(hG.num x hx).1;exact⟨o,fun _=>ho⟩
  ·exact⟨fun _=>0,fun h=>absurd h hx⟩
 have hT:∀ x:HL,∃ o,x∈M->J5 w lo x.a x.n x.c o:=fun x=>by
  by_cases hx:x∈M
  ·obtain⟨o,ho⟩:=(hG.row x hx).1;exact⟨o,fun _=>ho⟩
  ·exact⟨fun _=>.bool true,fun h=>absurd h hx⟩
 obtain⟨O,hO⟩:=Classical.axiomOfChoice hO;obtain⟨Ot,hT⟩:=Classical.axiomOfChoice hT
 refine h.apart h0 h1 hk hkt (fun x hx=>hG.nq x (List.mem_append_left _ hx)) (fun x hx=>hG.nq x (List.mem_append_right _ hx)) O Ot hO hT (fun x hx=>(hG.num x hx).2) (fun x hx=>(hG.row x hx).2)
  (fun x hx p hp=>hS _ (hG.at_ x hx p hp)) hlo hG.al hG.am fun x hx y hy p q hp hq e=>?_
 rcases(hO x hx).place with ⟨h,-⟩ | ⟨g,cur,ha,-,hg,-⟩
 ·rw[h] at hp;cases hp
 ·rcases(hT y hy).place with ⟨h,-⟩ | ⟨g2,cur2,ha2,-,hg2,-⟩
  ·rw[h] at hq;cases hq
  ·rw[ha] at hp;rw[ha2] at hq
   cases hp;cases hq
   change g=g2 at e;subst e;rw[hg] at hg2
   injection hg2 with hg2
   injection hg2 with _ hg2
   exact absurd hg2 (by decide)
theorem jal {w:World} {lo n c:Nat} {a:Option Addr} {o:Nat->Int} (h:Limb.Own 160 w lo a n c o) {p:Addr} (hp:a=some p):lo<=p.block/\p.block<w.heap.size:=(h.blk hp).2
theorem ownT_lt {w:World} {lo n c:Nat} {a:Option Addr} {o:Nat->Value} (h:J5 w lo a n c o) {p:Addr} (hp:a=some p):lo<=p.block/\p.block<w.heap.size:=by
 rcases h.place with h0 | ⟨g,cur,ha,hbg,hg,hcap,hc⟩
 ·rw[h0.1] at hp;cases hp
 ·rw[ha] at hp
  cases hp
  exact⟨hbg,lt_of_block hg⟩
def Bw (lo hi b:Nat):Prop:=lo<=b/\b<hi
structure TOwn (w:World) (lo:Nat) (t:FV):Prop where
 top:∃ o,Limb.Own 160 w lo t.t.a t.t.n t.t.c o
 low:∃ o,Limb.Own 160 w lo t.l.a t.l.n t.l.c o
 ap:Xk t.t.a t.l.a
 n:t.t.n<=900000000/\t.l.n<=900000000
theorem TOwn.hg {w:World} {lo:Nat} {t:FV} (h:TOwn w lo t) {q:Nat} (hq:q+1<=30000):HG w lo (Bw lo w.heap.size) [⟨t.t.a,t.t.n,t.t.c,q⟩,⟨t.l.a,t.l.n,t.l.c,q+1⟩] [] where
 num x hx:=by
  rcases List.mem_cons.1 hx with rfl | hx
  ·exact⟨h.top,h.n.1⟩
  ·rw[List.mem_singleton.1 hx];exact⟨h.low,h.n.2⟩
 row x hx:=by cases hx
 at_ x hx p hp:=by
  rw[List.append_nil] at hx
  rcases List.mem_cons.1 hx with rfl | hx
  ·obtain⟨o,ho⟩:=h.top;exact jal ho hp
  ·rw[List.mem_singleton.1 hx] at hp;obtain⟨o,ho⟩:=h.low;exact jal ho hp
 nq x hx:=by
  rw[List.append_nil] at hx
  rcases List.mem_cons.1 hx with rfl | hx
  ·show q<=30000;omega
  ·rw[List.mem_singleton.1 hx];exact hq
 al:=List.pairwise_cons.2 ⟨fun y hy p q hp hq=>by rw[List.mem_singleton.1 hy] at hq;exact h.ap p q hp hq,List.pairwise_singleton _ _⟩
 am:=List.Pairwise.nil
theorem DF.town {w:World} {lo:Nat} {x:FV} {q:Rat} (h:DF w lo x q) (hl:LQ q 900000):TOwn w lo x:=⟨⟨_,h.t.own⟩,⟨_,h.l.own⟩,h.ap,by
 have:=h.k.len hl zj
 exact⟨by have:=this.1;omega,by have:=this.2;omega⟩⟩
theorem TwF.town {w:World} {lo:Nat} {t x:FV} {o1 o2:Nat->Int} (h:TwF w lo t x o1 o2) (h1:x.t.n<=100000000) (h2:x.l.n<=100000000):TOwn w lo t :=
 ⟨⟨_,by rw[h.top.n,h.top.c];exact h.top.own.less (Nat.le_succ _)⟩,⟨_,by rw[h.low.n,h.low.c];exact h.low.own.less (Nat.le_succ _)⟩,h.ap,by rw[h.top.n,h.low.n];omega⟩
theorem Xq:∀ {ts:List TV} {q:Nat} {x:HL},x∈Qm ts q->∃ t∈ts,x.q<q+2*ts.length/\((x.a=t.c.t.a/\x.n=t.c.t.n/\x.c=t.c.t.c)\/(x.a=t.c.l.a/\x.n=t.c.l.n/\x.c=t.c.l.c))
 | [],_,_,h=>by cases h
 | t :: r,q,x,h=>by
  rcases List.mem_cons.1 h with rfl | h
  ·exact⟨t,List.mem_cons_self ..,by simp only[List.length_cons];omega,Or.inl ⟨rfl,rfl,rfl⟩⟩
  ·rcases List.mem_cons.1 h with rfl | h
   ·exact⟨t,List.mem_cons_self ..,by simp only[List.length_cons];omega,Or.inr ⟨rfl,rfl,rfl⟩⟩
   ·obtain⟨s,h1,h2,h3⟩:=Xq h;exact⟨s,List.mem_cons_of_mem _ h1,by simp only[List.length_cons];omega,h3⟩
theorem blk_t {t:FV} {x:HL} (h:x.a=t.t.a/\x.n=t.t.n/\x.c=t.t.c\/x.a=t.l.a/\x.n=t.l.n/\x.c=t.l.c) {p:Addr} (hp:x.a=some p):FV.blk t p.block:=by
 rcases h with ⟨h,-⟩ | ⟨h,-⟩
 ·exact Or.inl ⟨p,h.symm.trans hp,rfl⟩
 ·exact Or.inr ⟨p,h.symm.trans hp,rfl⟩
theorem Z7:∀ {ts:List TV} {q:Nat},(∀ t∈ts,Xk t.c.t.a t.c.l.a)->(ts.Pairwise fun t s=>FV.apart t.c s.c)->ZP (Qm ts q)
 | [],_,_,_=>List.Pairwise.nil
 | t :: r,q,h,hp=>by
  obtain⟨h1,h2⟩:=List.pairwise_cons.1 hp;have hr:=Z7 (ts:=r) (q:=q+2) (fun s hs=>h s (List.mem_cons_of_mem _ hs)) h2
  have far:∀ y∈Qm r (q+2),∀ p:Addr,y.a=some p->¬FV.blk t.c p.block:=fun y hy p hp hb=>by
   obtain⟨s,hs,-,e⟩:=Xq hy;exact h1 s hs _ hb (blk_t e hp)
  refine List.pairwise_cons.2 ⟨fun y hy p p2 e1 e2=>?_,List.pairwise_cons.2 ⟨fun y hy p p2 e1 e2 he=>?_,hr⟩⟩
  ·rcases List.mem_cons.1 hy with rfl | hy
   ·exact h t (List.mem_cons_self ..) p p2 e1 e2
   ·exact fun he=>far y hy p2 e2 (Or.inl ⟨p,e1,he⟩)
  ·exact far y hy p2 e2 (Or.inr ⟨p,e1,he⟩)
theorem jb9 {w:World} {lo:Nat} {ts:List TV} {a:Option Addr} {n c:Nat} {q:Nat} {o:Nat->Value} (h:∀ t∈ts,TOwn w lo t.c) (hp:ts.Pairwise fun t s=>FV.apart t.c s.c) (hr:J5 w lo a n c o) (hn:n<=100000000) (hq:q+2*ts.length<=30000) :
  HG w lo (Bw lo w.heap.size) (Qm ts q) [⟨a,n,c,q+2*ts.length⟩] where
 num x hx:=by
  obtain⟨t,ht,-,⟨e1,e2,e3⟩ | ⟨e1,e2,e3⟩⟩:=Xq hx
  ·obtain⟨o,ho⟩:=(h t ht).top;exact⟨⟨o,by rw[e1,e2,e3];exact ho⟩,by rw[e2];exact(h t ht).n.1⟩
  ·obtain⟨o,ho⟩:=(h t ht).low;exact⟨⟨o,by rw[e1,e2,e3];exact ho⟩,by rw[e2];exact(h t ht).n.2⟩
 row x hx:=by rw[List.mem_singleton.1 hx];exact⟨⟨o,hr⟩,hn⟩
 at_ x hx p e:=by
  rcases List.mem_append.1 hx with hx | hx
  ·obtain⟨t,ht,-,⟨e1,e2,e3⟩ | ⟨e1,e2,e3⟩⟩:=Xq hx
   ·obtain⟨o,ho⟩:=(h t ht).top;exact jal ho (e1.symm.trans e)
   ·obtain⟨o,ho⟩:=(h t ht).low;exact jal ho (e1.symm.trans e)
  ·rw[List.mem_singleton.1 hx] at e;exact ownT_lt hr e
 nq x hx:=by
  rcases List.mem_append.1 hx with hx | hx
  ·obtain⟨t,ht,hl,-⟩:=Xq hx;omega
  ·rw[List.mem_singleton.1 hx];exact hq
 al:=Z7 (fun t ht=>(h t ht).ap) hp
 am:=List.pairwise_singleton _ _
theorem OT.ownT {w:World} {lo n c m:Nat} {a:Option Addr} {ts:List TV} (h:OT w lo (.slice a m c) ts) (hn:n<=m):∃ o,J5 w lo a n c o:=by
 rcases h.2 with ⟨hv,h0⟩ | ⟨g,cap,cur,hv,hlo,hg,hnc,hcm,hcs,htake⟩
 ·injection hv with e1 e2 e3
  subst e1 e2 e3;exact⟨fun _=>.bool true,⟨by omega,Or.inl ⟨rfl,by omega,rfl⟩⟩⟩
 ·injection hv with e1 e2 e3
  subst e1 e2 e3;refine⟨fun i=>cur.getD i (.bool true),⟨by omega,Or.inr ⟨g,cur,rfl,hlo,hg,by omega,fun i hi=>?_⟩⟩⟩
  have hi2:i<cur.size:=by have:=Nat.mul_le_mul_right 8 (zm hn hnc);omega
  rw[Array.getElem?_eq_getElem hi2,Array.getD_eq_getD_getElem?,Array.getElem?_eq_getElem hi2];rfl
theorem DP.hg {w:World} {lo:Nat} {x:PV} {P:List Tm} (h:DP w lo x P) (hl:∀ t∈P,LQ t.2 900000) (hn:P.length<=10000) {q:Nat} (hq:q+2*P.length<=30000) :
  ∃ ts:List TV,RT w x.a ts/\ts.length=x.n/\x.n=P.length/\HG w lo (Bw lo w.heap.size) (Qm ts q) [⟨x.a,x.n,x.c,q+2*x.n⟩]:=by
 have hxn:=h.k.len;obtain⟨L,h1,h2,h3,h4⟩:=h.ex;obtain⟨xa,xn,xc⟩:=x;change xn=P.length at hxn;obtain⟨a',c',e,hc,hr⟩:=OT.slice h1;change Value.slice xa xn xc=_ at e
 injection e with e1 e2 e3
 subst e1 e3;obtain⟨o,ho⟩:=OT.ownT (n:=xn) h1 zj;refine⟨L.map Prod.fst,hr,e2.symm,hxn,?_⟩
 have hh:=jb9 (q:=q) (fun t ht=>by
  obtain⟨e,he,rfl⟩:=List.mem_map.1 ht
  exact DF.town (h2 e he) (hl (e.1.m,e.2) (by rw[<- h4];exact List.mem_map.2 ⟨e,he,rfl⟩))) (List.pairwise_map.2 h3) ho (by omega) (by rw[<- e2];omega)
 rw[<- e2] at hh;exact hh
theorem TwP.hg {w0 w:World} {lo:Nat} {x:PV} {ts us:List TV} (h:TwP w0 w lo x ts us) (hs:∀ u∈us,u.c.t.n<=100000000/\u.c.l.n<=100000000) (hn:us.length<=10000) {q:Nat} (hq:q+2*us.length<=30000) :
  RT w x.a ts/\ts.length=x.n/\HG w lo (Bw lo w.heap.size) (Qm ts q) [⟨x.a,x.n,x.c,q+2*x.n⟩]:=by
 have hxn:=h.n;have hle:=h.len;obtain⟨xa,xn,xc⟩:=x;change xn=us.length at hxn;obtain⟨a',c',e,hc,hr⟩:=OT.slice h.row;change Value.slice xa (xn+1) xc=_ at e
 injection e with e1 e2 e3
 subst e1 e3;obtain⟨o,ho⟩:=OT.ownT (n:=xn) h.row (Nat.le_succ _);refine⟨⟨fun hne=>?_⟩,by show ts.length=xn;omega,?_⟩
 ·obtain⟨b,off,ha,hcc⟩:=hr.ex (by simp);exact⟨b,off,ha,fun i t hi=>hcc i t (by rw[List.getElem?_append_left (List.getElem?_eq_some_iff.1 hi).1];exact hi)⟩
 ·have hh:=jb9 (q:=q) (fun t ht=>by
   obtain⟨i,hi⟩:=List.mem_iff_getElem?.1 ht;have hil:=(List.getElem?_eq_some_iff.1 hi).1;have hu:us[i]?=some us[i]:=List.getElem?_eq_getElem (by omega);obtain⟨-,o1,o2,-,-,hf⟩:=h.each i t _ hi hu;obtain⟨g1,g2⟩:=hs _ (List.mem_of_getElem? hu)
   exact TwF.town hf g1 g2) h.ap ho (by omega) (by omega)
  rw[show ts.length=xn by omega] at hh;exact hh
end Book
end Go.Proofs.YtgkkbkoiaccmfaaGreatDoor
