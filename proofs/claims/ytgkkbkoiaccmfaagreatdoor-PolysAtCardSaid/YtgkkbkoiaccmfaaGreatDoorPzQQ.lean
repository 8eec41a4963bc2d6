/-
  At, own and the document's, over whatever sum and whatever place.
-/
import Derived.Test.YtgkkbkoiaccmfaaGreatDoorPzQP
set_option linter.unusedSimpArgs false
set_option linter.unusedVariables false
set_option maxHeartbeats 16000000
set_option maxRecDepth 100000
namespace Go.Proofs.YtgkkbkoiaccmfaaGreatDoor
namespace Pol
open Go.RowKit Go.Sort Limb
theorem Kn (x:FV) (q:Rat) (n k:Nat) (w:World) (hx:KF w x q) (hq:LQ q k) (hn:n<=65535) (hk:n*k+1<=900000) (hk9:k<=900000) :
  Calls Tryz.prog 129 #[x.v,.int .i64 (n:Int)] w (RKV w (q ^ n)):=by
 obtain⟨V,hV⟩:∃ V,V=(w.alloc (.cells #[.bool x.t.s,.slice x.t.a x.t.n x.t.c,.bool x.l.s,.slice x.l.a x.l.n x.l.c] 28)).alloc (.cells #[.bool false,.slice none 0 0,.bool false,.slice none 0 0] 28):=⟨_,rfl⟩
 have hbV:Below w.heap.size w V:=by rw[hV];exact(zk.alloc zj _).alloc (by go_size) _
 have B2:=qh (show Bxs V w.heap.size 28 [.bool x.t.s,.slice x.t.a x.t.n x.t.c,.bool x.l.s,.slice x.l.a x.l.n x.l.c] by rw[hV];exact(Bxs.new w 28 [.bool x.t.s,.slice x.t.a x.t.n x.t.c,.bool x.l.s,.slice x.l.a x.l.n x.l.c]).alloc _)
 have B4:=qh (show Bxs V (w.heap.size+1) 28 [.bool false,.slice none 0 0,.bool false,.slice none 0 0] by
  have h:=Bxs.new (w.alloc (.cells #[.bool x.t.s,.slice x.t.a x.t.n x.t.c,.bool x.l.s,.slice x.l.a x.l.n x.l.c] 28)) 28 [.bool false,.slice none 0 0,.bool false,.slice none 0 0];rw[World.size_alloc] at h
  rw[hV];exact h)
 have HX:=qh hx;have HQ:=qh hq;have HN:=qh hn;have HK:=qh hk;have HLX:=qh (show LF x 900000 from hx.len (hq.up hk9) zj);have KG:=qh hbV;have HV:=qh hV;obtain⟨A4,hA4⟩:∃ A,A=w.heap.size+1:=⟨_,rfl⟩;have HA4:=qh hA4;rw[<- hA4] at B4;have O1:=qh (rofV 1 V (by decide) (by decide));clear hV hbV hx hq hn hk hk9 hA4;change Calls Tryz.prog 129 #[.agg #[.bool x.t.s,.slice x.t.a x.t.n x.t.c,.bool x.l.s,.slice x.l.a x.l.n x.l.c],.int .i64 (n:Int)] w _;go_enter Tryz.func129,Tryz.ntmps129
 go_upto_region 1 with (fail)
 rw[show(w.alloc (.cells #[.bool x.t.s,.slice x.t.a x.t.n x.t.c,.bool x.l.s,.slice x.l.a x.l.n x.l.c] 28)).alloc (.cells #[.bool false,.slice none 0 0,.bool false,.slice none 0 0] 28)=V from HV.o.symm,show w.heap.size+1=A4 from HA4.o.symm];go_wp2_with fail
 with_reducible refine O1.o.mono ?_
 rintro e w1 ⟨p,rfl,hp,hb⟩;have NP:=qh (hp.mono KG.o.size);have B2:=qh (B2.o.bl hb);have B4:=qh (B4.o.bl hb);have KG:=qk KG hb;clear hp hb O1
 go_upto_region 2 with (fail)
 obtain⟨V1,hV⟩:∃ V,V=w1.alloc (.cells #[.bool p.t.s,.slice p.t.a p.t.n p.t.c,.bool p.l.s,.slice p.l.a p.l.n p.l.c] 28):=⟨_,rfl⟩
 have hb:Below w1.heap.size w1 V1:=by rw[hV];exact zk.alloc zj _
 have B5:=qh (show Bxs V1 w1.heap.size 28 [.bool p.t.s,.slice p.t.a p.t.n p.t.c,.bool p.l.s,.slice p.l.a p.l.n p.l.c] by rw[hV];exact Bxs.new w1 28 [.bool p.t.s,.slice p.t.a p.t.n p.t.c,.bool p.l.s,.slice p.l.a p.l.n p.l.c]);obtain⟨A5,hA5⟩:∃ A,A=w1.heap.size:=⟨_,rfl⟩;rw[<- hV,<- hA5];rw[<- hA5] at B5;have H45:=qh (show A4≠A5 by rw[hA5];have:=B4.o.lt;omega);have H25:=qh (show w.heap.size≠A5 by rw[hA5];have:=B2.o.lt;omega);have HA5:=qh (show w.heap.size<=A5 by rw[hA5];exact KG.o.size);have NP:=qh (show EF V1 w.heap.size p (q ^ 0) by rw[Rat.pow_zero];exact NP.o.below hb);have B2:=qh (B2.o.bl hb);have B4:=qh (B4.o.bl hb);have KG:=qk KG hb;clear hb hV hA5;go_wp2_with fail
 go_loopw [6] (fun i wr=>∃ (j:Nat) (p:FV),i=.int .i64 j/\j<=n/\Bxs wr w.heap.size 28 [.bool x.t.s,.slice x.t.a x.t.n x.t.c,.bool x.l.s,.slice x.l.a x.l.n x.l.c]/\Bxs wr A4 28 [.bool false,.slice none 0 0,.bool false,.slice none 0 0]/\Bxs wr A5 28 [.bool p.t.s,.slice p.t.a p.t.n p.t.c,.bool p.l.s,.slice p.l.a p.l.n p.l.c]/\EF wr w.heap.size p (q ^ j)/\Below w.heap.size w wr) (fun i _=>n-(intOf i).toNat)
 case atStart=>exact⟨0,p,rfl,Nat.zero_le _,B2.o,B4.o,B5.o,NP.o,KG.o⟩
 case round =>
  clear B2 B4 B5 NP KG;obtain⟨j,p,rfl,hj,hb2,hb4,hb5,hp,hb0⟩:=hrel;have HJ:=qh hj;have B2:=qh hb2;have B4:=qh hb4;have B5:=qh hb5;have NP:=qh hp;have KG:=qh hb0;have HLP:=qh (show LF p 900000 from hp.k.len ((JZ HQ.o j).up (m:=900000) (by have:=Nat.mul_le_mul_right k hj;have:=HK.o;omega)) zj);clear hj hb2 hb4 hb5 hp hb0;by_cases hjn:j<n
  ·have HJN:=qh hjn
   have hlt:(j:Int)<(n:Int):=by omega
   have ek:IntKind.i64.wrap ((j:Int)+1)=(j:Int)+1:=IntWalk.i64_in _ (by have:=HJN.o;have:=HN.o;omega);have CT:=qh (show Calls Tryz.prog 81 #[.agg #[.bool p.t.s,.slice p.t.a p.t.n p.t.c,.bool p.l.s,.slice p.l.a p.l.n p.l.c],.agg #[.bool x.t.s,.slice x.t.a x.t.n x.t.c,.bool x.l.s,.slice x.l.a x.l.n x.l.c]] wr _ from jai (x:=p) (y:=x) NP.o.k.any HLP.o (HX.o.below KG.o).any HLX.o);clear hjn;have ce0:=B5.o.ce 0;have ce1:=B5.o.ce 1;have ce2:=B5.o.ce 2;have ce3:=B5.o.ce 3;have cef:=B5.o.fz;have cel:=B5.o.lt;have cb0:=B2.o.ce 0;have cb1:=B2.o.ce 1;have cb2:=B2.o.ce 2;have cb3:=B2.o.ce 3;have cbf:=B2.o.fz;have cbl:=B2.o.lt;go_wp2_with fail
   with_reducible refine CT.o.mono ?_
   rintro e w2 ⟨r,rfl,hr,hb⟩;have HSZ:=qh KG.o.size;have NR:=qh (show EF w2 w.heap.size r (q ^ (j+1)) by rw[Rat.pow_succ];exact hr.mono HSZ.o);have B2:=qh (B2.o.bl hb);have B4:=qh (B4.o.bl hb);have B5:=qh (B5.o.bl hb);have KG:=qk KG hb;clear hr hb CT ce0 ce1 ce2 ce3 cef cel cb0 cb1 cb2 cb3 cbf cbl;have ce0:=B5.o.ce 0;have ce1:=B5.o.ce 1;have ce2:=B5.o.ce 2;have ce3:=B5.o.ce 3;have cef:=B5.o.fz;have cel:=B5.o.lt;go_wp2_with fail
   go_roundw
   case rel=>exact⟨j+1,r,rfl,HJN.o,Jp B2.o H25.o ..,Jp B4.o H45.o ..,JP B5.o ..,QU NR.o B5.o (by decide) ..,Jv KG.o HA5.o ..⟩
   case measure=>simp[intOf];have:=HJN.o;omega
  ·have hge:¬((j:Int)<(n:Int)):=by omega
   obtain rfl:j=n:=by have:=HJ.o;omega
   have HSA:=qh (show w.heap.size<=A4 by rw[HA4.o];omega);clear hjn;have ce0:=B5.o.ce 0;have ce1:=B5.o.ce 1;have ce2:=B5.o.ce 2;have ce3:=B5.o.ce 3;have cef:=B5.o.fz;have cel:=B5.o.lt;have cd0:=B4.o.ce 0;have cd1:=B4.o.ce 1;have cd2:=B4.o.ce 2;have cd3:=B4.o.ce 3;have cdf:=B4.o.fz;have cdl:=B4.o.lt;have HD:=qh (show EF (Zl wr A4 (.bool p.t.s) (.slice p.t.a p.t.n p.t.c) (.bool p.l.s) (.slice p.l.a p.l.n p.l.c)) w.heap.size p (q ^ j) from QU NP.o B4.o (by decide) ..);have HB:=qh (show Below w.heap.size w (Zl wr A4 (.bool p.t.s) (.slice p.t.a p.t.n p.t.c) (.bool p.l.s) (.slice p.l.a p.l.n p.l.c)) from Jv KG.o HSA.o ..);go_wp2_with fail
   exact bodyPost_ret (Je rfl _ _ _ _ _ _ _ rfl (JP B4.o ..) Tryz.underlying28 rfl (by kernel_rfl)) rfl ⟨p,rfl,HD.o,HB.o⟩
theorem QZ {w:World} {b g:Nat} {t:TypeId} {l:List Value} (h:Bxs w g t l) (hn:g≠b) (v0 v1 v2 v3:Value):Bxs (Zl w b v0 v1 v2 v3) g t l:=(((h.other hn v0).other hn v1).other hn v2).other hn v3
theorem jgp (y:FV) (b:Bool) (w:World) (h:FB w y b) (hl:LF y 900000):Calls Tryz.prog 128 #[y.v] w fun e w'=>e=.returned (.bool b)/\Below w.heap.size w w':=by
 cases b with
 | true=>obtain⟨q,h⟩:=h;exact Xp h hl
 | false=>exact jb6 h hl
theorem rat_bad (x:PV) (x0 x1 x2 x3:FV) (w:World) (hx:BP w x) (hn:x.n<=1000000000) :
  Calls Tryz.prog 29 #[x.v,.agg #[.bool x0.t.s,.slice x0.t.a x0.t.n x0.t.c,.bool x0.l.s,.slice x0.l.a x0.l.n x0.l.c,.bool x1.t.s,.slice x1.t.a x1.t.n x1.t.c,.bool x1.l.s,.slice x1.l.a x1.l.n x1.l.c,.bool x2.t.s,.slice x2.t.a x2.t.n x2.t.c,.bool x2.l.s,.slice x2.l.a x2.l.n x2.l.c,.bool x3.t.s,.slice x3.t.a x3.t.n x3.t.c,.bool x3.l.s,.slice x3.l.a x3.l.n x3.l.c]] w fun e w'=>e=.returned (.tuple #[.agg #[.bool false,.slice none 0 0,.bool false,.slice none 0 0],.int .i64 1])/\Below w.heap.size w w':=by
 obtain⟨V,hV⟩:∃ V,V=(w.alloc (.cells #[.bool x0.t.s,.slice x0.t.a x0.t.n x0.t.c,.bool x0.l.s,.slice x0.l.a x0.l.n x0.l.c,.bool x1.t.s,.slice x1.t.a x1.t.n x1.t.c,.bool x1.l.s,.slice x1.l.a x1.l.n x1.l.c,.bool x2.t.s,.slice x2.t.a x2.t.n x2.t.c,.bool x2.l.s,.slice x2.l.a x2.l.n x2.l.c,.bool x3.t.s,.slice x3.t.a x3.t.n x3.t.c,.bool x3.l.s,.slice x3.l.a x3.l.n x3.l.c] 58)).alloc (.cells #[.bool false,.slice none 0 0,.bool false,.slice none 0 0] 28):=⟨_,rfl⟩
 have hbV:Below w.heap.size w V:=by rw[hV];exact(zk.alloc zj _).alloc (by go_size) _
 have B3:=qh (show Bxs V w.heap.size 58 [.bool x0.t.s,.slice x0.t.a x0.t.n x0.t.c,.bool x0.l.s,.slice x0.l.a x0.l.n x0.l.c,.bool x1.t.s,.slice x1.t.a x1.t.n x1.t.c,.bool x1.l.s,.slice x1.l.a x1.l.n x1.l.c,.bool x2.t.s,.slice x2.t.a x2.t.n x2.t.c,.bool x2.l.s,.slice x2.l.a x2.l.n x2.l.c,.bool x3.t.s,.slice x3.t.a x3.t.n x3.t.c,.bool x3.l.s,.slice x3.l.a x3.l.n x3.l.c] by rw[hV];exact(Bxs.new w 58 [.bool x0.t.s,.slice x0.t.a x0.t.n x0.t.c,.bool x0.l.s,.slice x0.l.a x0.l.n x0.l.c,.bool x1.t.s,.slice x1.t.a x1.t.n x1.t.c,.bool x1.l.s,.slice x1.l.a x1.l.n x1.l.c,.bool x2.t.s,.slice x2.t.a x2.t.n x2.t.c,.bool x2.l.s,.slice x2.l.a x2.l.n x2.l.c,.bool x3.t.s,.slice x3.t.a x3.t.n x3.t.c,.bool x3.l.s,.slice x3.l.a x3.l.n x3.l.c]).alloc _)
 have B4:=qh (show Bxs V (w.heap.size+1) 28 [.bool false,.slice none 0 0,.bool false,.slice none 0 0] by
  have h:=Bxs.new (w.alloc (.cells #[.bool x0.t.s,.slice x0.t.a x0.t.n x0.t.c,.bool x0.l.s,.slice x0.l.a x0.l.n x0.l.c,.bool x1.t.s,.slice x1.t.a x1.t.n x1.t.c,.bool x1.l.s,.slice x1.l.a x1.l.n x1.l.c,.bool x2.t.s,.slice x2.t.a x2.t.n x2.t.c,.bool x2.l.s,.slice x2.l.a x2.l.n x2.l.c,.bool x3.t.s,.slice x3.t.a x3.t.n x3.t.c,.bool x3.l.s,.slice x3.l.a x3.l.n x3.l.c] 58)) 28 [.bool false,.slice none 0 0,.bool false,.slice none 0 0];rw[World.size_alloc] at h
  rw[hV];exact h)
 have KG:=qh hbV;have HV:=qh hV;obtain⟨A4,hA4⟩:∃ A,A=w.heap.size+1:=⟨_,rfl⟩;have HA4:=qh hA4;rw[<- hA4] at B4;have HSA:=qh (show w.heap.size<=A4 by rw[hA4];omega);obtain⟨xa,xn,xc⟩:=x;have CK:=qh (show Calls Tryz.prog 54 #[.slice xa xn xc] V _ from jb7 (x:=⟨xa,xn,xc⟩) (hx.below hbV) hn);clear hV hbV hx hn hA4;change Calls Tryz.prog 29 #[.slice xa xn xc,.agg #[.bool x0.t.s,.slice x0.t.a x0.t.n x0.t.c,.bool x0.l.s,.slice x0.l.a x0.l.n x0.l.c,.bool x1.t.s,.slice x1.t.a x1.t.n x1.t.c,.bool x1.l.s,.slice x1.l.a x1.l.n x1.l.c,.bool x2.t.s,.slice x2.t.a x2.t.n x2.t.c,.bool x2.l.s,.slice x2.l.a x2.l.n x2.l.c,.bool x3.t.s,.slice x3.t.a x3.t.n x3.t.c,.bool x3.l.s,.slice x3.l.a x3.l.n x3.l.c]] w _;go_enter Tryz.func29,Tryz.ntmps29
 go_upto_region 1 with (fail)
 rw[show(w.alloc (.cells #[.bool x0.t.s,.slice x0.t.a x0.t.n x0.t.c,.bool x0.l.s,.slice x0.l.a x0.l.n x0.l.c,.bool x1.t.s,.slice x1.t.a x1.t.n x1.t.c,.bool x1.l.s,.slice x1.l.a x1.l.n x1.l.c,.bool x2.t.s,.slice x2.t.a x2.t.n x2.t.c,.bool x2.l.s,.slice x2.l.a x2.l.n x2.l.c,.bool x3.t.s,.slice x3.t.a x3.t.n x3.t.c,.bool x3.l.s,.slice x3.l.a x3.l.n x3.l.c] 58)).alloc (.cells #[.bool false,.slice none 0 0,.bool false,.slice none 0 0] 28)=V from HV.o.symm,show w.heap.size+1=A4 from HA4.o.symm];go_wp2_with fail
 with_reducible refine CK.o.mono ?_
 rintro e w1 ⟨rfl,hb⟩;have B3:=qh (B3.o.bl hb);have B4:=qh (B4.o.bl hb);have KG:=qk KG hb;clear hb CK;have cd0:=B4.o.ce 0;have cd1:=B4.o.ce 1;have cd2:=B4.o.ce 2;have cd3:=B4.o.ce 3;have cdf:=B4.o.fz;have cdl:=B4.o.lt;have HB:=qh (show Below w.heap.size w (Zl w1 A4 (.bool false) (.slice none 0 0) (.bool false) (.slice none 0 0)) from Jv KG.o HSA.o ..);go_wp2_with fail
 exact bodyPost_ret (Qk rfl _ _ _ _ _ _ _ rfl (JP B4.o ..) Tryz.underlying28 rfl (by kernel_rfl)) rfl ⟨rfl,HB.o⟩
theorem rat_lbad (x:PV) (x0 x1 x2 x3:FV) (w:World) (P:List Tm) (ok:Nat->Bool) (hx:KP w x P) (hp:∀ t∈P,LQ t.2 900000) (hn:x.n<=1000000000) (h4:B4 w x0 x1 x2 x3 ok) (hb4:∃ i,i<4/\ok i=false) :
  Calls Tryz.prog 29 #[x.v,.agg #[.bool x0.t.s,.slice x0.t.a x0.t.n x0.t.c,.bool x0.l.s,.slice x0.l.a x0.l.n x0.l.c,.bool x1.t.s,.slice x1.t.a x1.t.n x1.t.c,.bool x1.l.s,.slice x1.l.a x1.l.n x1.l.c,.bool x2.t.s,.slice x2.t.a x2.t.n x2.t.c,.bool x2.l.s,.slice x2.l.a x2.l.n x2.l.c,.bool x3.t.s,.slice x3.t.a x3.t.n x3.t.c,.bool x3.l.s,.slice x3.l.a x3.l.n x3.l.c]] w fun e w'=>e=.returned (.tuple #[.agg #[.bool false,.slice none 0 0,.bool false,.slice none 0 0],.int .i64 1])/\Below w.heap.size w w':=by
 obtain⟨V,hV⟩:∃ V,V=(w.alloc (.cells #[.bool x0.t.s,.slice x0.t.a x0.t.n x0.t.c,.bool x0.l.s,.slice x0.l.a x0.l.n x0.l.c,.bool x1.t.s,.slice x1.t.a x1.t.n x1.t.c,.bool x1.l.s,.slice x1.l.a x1.l.n x1.l.c,.bool x2.t.s,.slice x2.t.a x2.t.n x2.t.c,.bool x2.l.s,.slice x2.l.a x2.l.n x2.l.c,.bool x3.t.s,.slice x3.t.a x3.t.n x3.t.c,.bool x3.l.s,.slice x3.l.a x3.l.n x3.l.c] 58)).alloc (.cells #[.bool false,.slice none 0 0,.bool false,.slice none 0 0] 28):=⟨_,rfl⟩
 have hbV:Below w.heap.size w V:=by rw[hV];exact(zk.alloc zj _).alloc (by go_size) _
 have B3:=qh (show Bxs V w.heap.size 58 [.bool x0.t.s,.slice x0.t.a x0.t.n x0.t.c,.bool x0.l.s,.slice x0.l.a x0.l.n x0.l.c,.bool x1.t.s,.slice x1.t.a x1.t.n x1.t.c,.bool x1.l.s,.slice x1.l.a x1.l.n x1.l.c,.bool x2.t.s,.slice x2.t.a x2.t.n x2.t.c,.bool x2.l.s,.slice x2.l.a x2.l.n x2.l.c,.bool x3.t.s,.slice x3.t.a x3.t.n x3.t.c,.bool x3.l.s,.slice x3.l.a x3.l.n x3.l.c] by rw[hV];exact(Bxs.new w 58 [.bool x0.t.s,.slice x0.t.a x0.t.n x0.t.c,.bool x0.l.s,.slice x0.l.a x0.l.n x0.l.c,.bool x1.t.s,.slice x1.t.a x1.t.n x1.t.c,.bool x1.l.s,.slice x1.l.a x1.l.n x1.l.c,.bool x2.t.s,.slice x2.t.a x2.t.n x2.t.c,.bool x2.l.s,.slice x2.l.a x2.l.n x2.l.c,.bool x3.t.s,.slice x3.t.a x3.t.n x3.t.c,.bool x3.l.s,.slice x3.l.a x3.l.n x3.l.c]).alloc _)
 have B4:=qh (show Bxs V (w.heap.size+1) 28 [.bool false,.slice none 0 0,.bool false,.slice none 0 0] by
  have h:=Bxs.new (w.alloc (.cells #[.bool x0.t.s,.slice x0.t.a x0.t.n x0.t.c,.bool x0.l.s,.slice x0.l.a x0.l.n x0.l.c,.bool x1.t.s,.slice x1.t.a x1.t.n x1.t.c,.bool x1.l.s,.slice x1.l.a x1.l.n x1.l.c,.bool x2.t.s,.slice x2.t.a x2.t.n x2.t.c,.bool x2.l.s,.slice x2.l.a x2.l.n x2.l.c,.bool x3.t.s,.slice x3.t.a x3.t.n x3.t.c,.bool x3.l.s,.slice x3.l.a x3.l.n x3.l.c] 58)) 28 [.bool false,.slice none 0 0,.bool false,.slice none 0 0];rw[World.size_alloc] at h
  rw[hV];exact h)
 have KG:=qh hbV;have HV:=qh hV;obtain⟨A4,hA4⟩:∃ A,A=w.heap.size+1:=⟨_,rfl⟩;have HA4:=qh hA4;rw[<- hA4] at B4;have HSA:=qh (show w.heap.size<=A4 by rw[hA4];omega);obtain⟨xa,xn,xc⟩:=x;have CK:=qh (show Calls Tryz.prog 54 #[.slice xa xn xc] V _ from Km (x:=⟨xa,xn,xc⟩) (hx.below hbV) hp hn);have H4:=qh h4;have HB4:=qh hb4;clear hV hbV hx hn hp hA4 h4 hb4;change Calls Tryz.prog 29 #[.slice xa xn xc,.agg #[.bool x0.t.s,.slice x0.t.a x0.t.n x0.t.c,.bool x0.l.s,.slice x0.l.a x0.l.n x0.l.c,.bool x1.t.s,.slice x1.t.a x1.t.n x1.t.c,.bool x1.l.s,.slice x1.l.a x1.l.n x1.l.c,.bool x2.t.s,.slice x2.t.a x2.t.n x2.t.c,.bool x2.l.s,.slice x2.l.a x2.l.n x2.l.c,.bool x3.t.s,.slice x3.t.a x3.t.n x3.t.c,.bool x3.l.s,.slice x3.l.a x3.l.n x3.l.c]] w _;go_enter Tryz.func29,Tryz.ntmps29
 go_upto_region 1 with (fail)
 rw[show(w.alloc (.cells #[.bool x0.t.s,.slice x0.t.a x0.t.n x0.t.c,.bool x0.l.s,.slice x0.l.a x0.l.n x0.l.c,.bool x1.t.s,.slice x1.t.a x1.t.n x1.t.c,.bool x1.l.s,.slice x1.l.a x1.l.n x1.l.c,.bool x2.t.s,.slice x2.t.a x2.t.n x2.t.c,.bool x2.l.s,.slice x2.l.a x2.l.n x2.l.c,.bool x3.t.s,.slice x3.t.a x3.t.n x3.t.c,.bool x3.l.s,.slice x3.l.a x3.l.n x3.l.c] 58)).alloc (.cells #[.bool false,.slice none 0 0,.bool false,.slice none 0 0] 28)=V from HV.o.symm,show w.heap.size+1=A4 from HA4.o.symm];go_wp2_with fail
 with_reducible refine CK.o.mono ?_
 rintro e w1 ⟨rfl,hb⟩;have B3:=qh (B3.o.bl hb);have B4:=qh (B4.o.bl hb);have KG:=qk KG hb;clear hb CK;go_wp2_with fail
 go_loopw [6] (fun i wr=>∃ j:Nat,i=.int .i64 j/\j<=4/\(∀ k,k<j->ok k=true)/\Bxs wr w.heap.size 58 [.bool x0.t.s,.slice x0.t.a x0.t.n x0.t.c,.bool x0.l.s,.slice x0.l.a x0.l.n x0.l.c,.bool x1.t.s,.slice x1.t.a x1.t.n x1.t.c,.bool x1.l.s,.slice x1.l.a x1.l.n x1.l.c,.bool x2.t.s,.slice x2.t.a x2.t.n x2.t.c,.bool x2.l.s,.slice x2.l.a x2.l.n x2.l.c,.bool x3.t.s,.slice x3.t.a x3.t.n x3.t.c,.bool x3.l.s,.slice x3.l.a x3.l.n x3.l.c]/\Bxs wr A4 28 [.bool false,.slice none 0 0,.bool false,.slice none 0 0]/\Below w.heap.size w wr) (fun i _=>4-(intOf i).toNat)
 case atStart=>exact⟨0,rfl,Nat.zero_le _,fun k h=>absurd h (Nat.not_lt_zero _),B3.o,B4.o,KG.o⟩
 case round =>
  clear B3 B4 KG;obtain⟨j,rfl,hj,hok,hb3,hb4,hb0⟩:=hrel;have HJ:=qh hj;have HOK:=qh hok;have B3:=qh hb3;have B4:=qh hb4;have KG:=qh hb0;clear hj hok hb3 hb4 hb0;by_cases hjn:j<4
  ·have hC:∀ (y:FV) (b:Bool),FB w y b->LF y 900000->Calls Tryz.prog 128 #[y.v] wr fun e w'=>e=.returned (.bool b)/\Below wr.heap.size wr w':=fun y b h hl=>jgp y b wr (h.below KG.o) hl
   obtain rfl | rfl | rfl | rfl:j=0\/j=1\/j=2\/j=3:=by omega
   ·have CC:=qh (show Calls Tryz.prog 128 #[.agg #[.bool x0.t.s,.slice x0.t.a x0.t.n x0.t.c,.bool x0.l.s,.slice x0.l.a x0.l.n x0.l.c]] wr _ from hC x0 (ok 0) H4.o.k0 H4.o.l0);obtain⟨bo,hbo⟩:∃ b,b=ok 0:=⟨_,rfl⟩;have HBO:=qh hbo;rw[<- hbo] at CC;have ek:IntKind.i64.wrap ((0:Int)+1)=(0:Int)+1:=IntWalk.i64_in _ (by decide);clear hbo hC hjn;have ca0:=B3.o.ce 0;have ca1:=B3.o.ce 1;have ca2:=B3.o.ce 2;have ca3:=B3.o.ce 3;go_wp2_with fail
    with_reducible refine CC.o.mono ?_
    rintro e w2 ⟨rfl,hb⟩;have B3:=qh (B3.o.bl hb);have B4:=qh (B4.o.bl hb);have KG:=qk KG hb;clear hb CC ca0 ca1 ca2 ca3
    rcases bo with _ | _
    ·have HB:=qh (show Below w.heap.size w (Zl w2 A4 (.bool false) (.slice none 0 0) (.bool false) (.slice none 0 0)) from Jv KG.o HSA.o ..);have cd0:=B4.o.ce 0;have cd1:=B4.o.ce 1;have cd2:=B4.o.ce 2;have cd3:=B4.o.ce 3;have cdf:=B4.o.fz;have cdl:=B4.o.lt;go_wp2_with fail
     exact bodyPost_ret (Qk rfl _ _ _ _ _ _ _ rfl (JP B4.o ..) Tryz.underlying28 rfl (by kernel_rfl)) rfl ⟨rfl,HB.o⟩
    ·go_wp2_with fail
     go_roundw
     case rel=>exact⟨1,rfl,by decide,fun k hk=>by
      by_cases h:k<0
      ·exact HOK.o k h
      ·obtain rfl:k=0:=by omega
       exact HBO.o.symm,B3.o,B4.o,KG.o⟩
     case measure=>simp[intOf]
   ·have CC:=qh (show Calls Tryz.prog 128 #[.agg #[.bool x1.t.s,.slice x1.t.a x1.t.n x1.t.c,.bool x1.l.s,.slice x1.l.a x1.l.n x1.l.c]] wr _ from hC x1 (ok 1) H4.o.k1 H4.o.l1);obtain⟨bo,hbo⟩:∃ b,b=ok 1:=⟨_,rfl⟩;have HBO:=qh hbo;rw[<- hbo] at CC;have ek:IntKind.i64.wrap ((1:Int)+1)=(1:Int)+1:=IntWalk.i64_in _ (by decide);clear hbo hC hjn;have ca4:=B3.o.ce 4;have ca5:=B3.o.ce 5;have ca6:=B3.o.ce 6;have ca7:=B3.o.ce 7;go_wp2_with fail
    with_reducible refine CC.o.mono ?_
    rintro e w2 ⟨rfl,hb⟩;have B3:=qh (B3.o.bl hb);have B4:=qh (B4.o.bl hb);have KG:=qk KG hb;clear hb CC ca4 ca5 ca6 ca7
    rcases bo with _ | _
    ·have HB:=qh (show Below w.heap.size w (Zl w2 A4 (.bool false) (.slice none 0 0) (.bool false) (.slice none 0 0)) from Jv KG.o HSA.o ..);have cd0:=B4.o.ce 0;have cd1:=B4.o.ce 1;have cd2:=B4.o.ce 2;have cd3:=B4.o.ce 3;have cdf:=B4.o.fz;have cdl:=B4.o.lt;go_wp2_with fail
     exact bodyPost_ret (Qk rfl _ _ _ _ _ _ _ rfl (JP B4.o ..) Tryz.underlying28 rfl (by kernel_rfl)) rfl ⟨rfl,HB.o⟩
    ·go_wp2_with fail
     go_roundw
     case rel=>exact⟨2,rfl,by decide,fun k hk=>by
      by_cases h:k<1
      ·exact HOK.o k h
      ·obtain rfl:k=1:=by omega
       exact HBO.o.symm,B3.o,B4.o,KG.o⟩
     case measure=>simp[intOf]
   ·have CC:=qh (show Calls Tryz.prog 128 #[.agg #[.bool x2.t.s,.slice x2.t.a x2.t.n x2.t.c,.bool x2.l.s,.slice x2.l.a x2.l.n x2.l.c]] wr _ from hC x2 (ok 2) H4.o.k2 H4.o.l2);obtain⟨bo,hbo⟩:∃ b,b=ok 2:=⟨_,rfl⟩;have HBO:=qh hbo;rw[<- hbo] at CC;have ek:IntKind.i64.wrap ((2:Int)+1)=(2:Int)+1:=IntWalk.i64_in _ (by decide);clear hbo hC hjn;have ca8:=B3.o.ce 8;have ca9:=B3.o.ce 9;have ca10:=B3.o.ce 10;have ca11:=B3.o.ce 11;go_wp2_with fail
    with_reducible refine CC.o.mono ?_
    rintro e w2 ⟨rfl,hb⟩;have B3:=qh (B3.o.bl hb);have B4:=qh (B4.o.bl hb);have KG:=qk KG hb;clear hb CC ca8 ca9 ca10 ca11
    rcases bo with _ | _
    ·have HB:=qh (show Below w.heap.size w (Zl w2 A4 (.bool false) (.slice none 0 0) (.bool false) (.slice none 0 0)) from Jv KG.o HSA.o ..);have cd0:=B4.o.ce 0;have cd1:=B4.o.ce 1;have cd2:=B4.o.ce 2;have cd3:=B4.o.ce 3;have cdf:=B4.o.fz;have cdl:=B4.o.lt;go_wp2_with fail
     exact bodyPost_ret (Qk rfl _ _ _ _ _ _ _ rfl (JP B4.o ..) Tryz.underlying28 rfl (by kernel_rfl)) rfl ⟨rfl,HB.o⟩
    ·go_wp2_with fail
     go_roundw
     case rel=>exact⟨3,rfl,by decide,fun k hk=>by
      by_cases h:k<2
      ·exact HOK.o k h
      ·obtain rfl:k=2:=by omega
       exact HBO.o.symm,B3.o,B4.o,KG.o⟩
     case measure=>simp[intOf]
   ·have CC:=qh (show Calls Tryz.prog 128 #[.agg #[.bool x3.t.s,.slice x3.t.a x3.t.n x3.t.c,.bool x3.l.s,.slice x3.l.a x3.l.n x3.l.c]] wr _ from hC x3 (ok 3) H4.o.k3 H4.o.l3);obtain⟨bo,hbo⟩:∃ b,b=ok 3:=⟨_,rfl⟩;have HBO:=qh hbo;rw[<- hbo] at CC;have ek:IntKind.i64.wrap ((3:Int)+1)=(3:Int)+1:=IntWalk.i64_in _ (by decide);clear hbo hC hjn;have ca12:=B3.o.ce 12;have ca13:=B3.o.ce 13;have ca14:=B3.o.ce 14;have ca15:=B3.o.ce 15;go_wp2_with fail
    with_reducible refine CC.o.mono ?_
    rintro e w2 ⟨rfl,hb⟩;have B3:=qh (B3.o.bl hb);have B4:=qh (B4.o.bl hb);have KG:=qk KG hb;clear hb CC ca12 ca13 ca14 ca15
    rcases bo with _ | _
    ·have HB:=qh (show Below w.heap.size w (Zl w2 A4 (.bool false) (.slice none 0 0) (.bool false) (.slice none 0 0)) from Jv KG.o HSA.o ..);have cd0:=B4.o.ce 0;have cd1:=B4.o.ce 1;have cd2:=B4.o.ce 2;have cd3:=B4.o.ce 3;have cdf:=B4.o.fz;have cdl:=B4.o.lt;go_wp2_with fail
     exact bodyPost_ret (Qk rfl _ _ _ _ _ _ _ rfl (JP B4.o ..) Tryz.underlying28 rfl (by kernel_rfl)) rfl ⟨rfl,HB.o⟩
    ·go_wp2_with fail
     go_roundw
     case rel=>exact⟨4,rfl,by decide,fun k hk=>by
      by_cases h:k<3
      ·exact HOK.o k h
      ·obtain rfl:k=3:=by omega
       exact HBO.o.symm,B3.o,B4.o,KG.o⟩
     case measure=>simp[intOf]
  ·exfalso;obtain⟨i,hi,h⟩:=HB4.o;rw[HOK.o i (by omega)] at h
   cases h
theorem rat_k (x:PV) (P:List Tm) (x0 x1 x2 x3:FV) (l:Nat->Rat) (n k E kl:Nat) (w:World) (hx:KP w x P) (b:PC P n k E) (h4:K4 w x0 x1 x2 x3 l) (hl:∀ i,LQ (l i) kl) (hn:n<=1000000) (hE:E<=65535) (hk:(n+1)*(k+4*(E*kl+1)+1)<=900000) (hkl:kl<=900000) :
  Calls Tryz.prog 29 #[x.v,.agg #[.bool x0.t.s,.slice x0.t.a x0.t.n x0.t.c,.bool x0.l.s,.slice x0.l.a x0.l.n x0.l.c,.bool x1.t.s,.slice x1.t.a x1.t.n x1.t.c,.bool x1.l.s,.slice x1.l.a x1.l.n x1.l.c,.bool x2.t.s,.slice x2.t.a x2.t.n x2.t.c,.bool x2.l.s,.slice x2.l.a x2.l.n x2.l.c,.bool x3.t.s,.slice x3.t.a x3.t.n x3.t.c,.bool x3.l.s,.slice x3.l.a x3.l.n x3.l.c]] w fun e w'=>∃ y:FV,e=.returned (.tuple #[y.v,.int .i64 0])/\EF w' w.heap.size y (ev P (atM l))/\Below w.heap.size w w':=by
 obtain⟨V,hV⟩:∃ V,V=(w.alloc (.cells #[.bool x0.t.s,.slice x0.t.a x0.t.n x0.t.c,.bool x0.l.s,.slice x0.l.a x0.l.n x0.l.c,.bool x1.t.s,.slice x1.t.a x1.t.n x1.t.c,.bool x1.l.s,.slice x1.l.a x1.l.n x1.l.c,.bool x2.t.s,.slice x2.t.a x2.t.n x2.t.c,.bool x2.l.s,.slice x2.l.a x2.l.n x2.l.c,.bool x3.t.s,.slice x3.t.a x3.t.n x3.t.c,.bool x3.l.s,.slice x3.l.a x3.l.n x3.l.c] 58)).alloc (.cells #[.bool false,.slice none 0 0,.bool false,.slice none 0 0] 28):=⟨_,rfl⟩
 have hbV:Below w.heap.size w V:=by rw[hV];exact(zk.alloc zj _).alloc (by go_size) _
 have B3:=qh (show Bxs V w.heap.size 58 [.bool x0.t.s,.slice x0.t.a x0.t.n x0.t.c,.bool x0.l.s,.slice x0.l.a x0.l.n x0.l.c,.bool x1.t.s,.slice x1.t.a x1.t.n x1.t.c,.bool x1.l.s,.slice x1.l.a x1.l.n x1.l.c,.bool x2.t.s,.slice x2.t.a x2.t.n x2.t.c,.bool x2.l.s,.slice x2.l.a x2.l.n x2.l.c,.bool x3.t.s,.slice x3.t.a x3.t.n x3.t.c,.bool x3.l.s,.slice x3.l.a x3.l.n x3.l.c] by rw[hV];exact(Bxs.new w 58 [.bool x0.t.s,.slice x0.t.a x0.t.n x0.t.c,.bool x0.l.s,.slice x0.l.a x0.l.n x0.l.c,.bool x1.t.s,.slice x1.t.a x1.t.n x1.t.c,.bool x1.l.s,.slice x1.l.a x1.l.n x1.l.c,.bool x2.t.s,.slice x2.t.a x2.t.n x2.t.c,.bool x2.l.s,.slice x2.l.a x2.l.n x2.l.c,.bool x3.t.s,.slice x3.t.a x3.t.n x3.t.c,.bool x3.l.s,.slice x3.l.a x3.l.n x3.l.c]).alloc _)
 have B4:=qh (show Bxs V (w.heap.size+1) 28 [.bool false,.slice none 0 0,.bool false,.slice none 0 0] by
  have h:=Bxs.new (w.alloc (.cells #[.bool x0.t.s,.slice x0.t.a x0.t.n x0.t.c,.bool x0.l.s,.slice x0.l.a x0.l.n x0.l.c,.bool x1.t.s,.slice x1.t.a x1.t.n x1.t.c,.bool x1.l.s,.slice x1.l.a x1.l.n x1.l.c,.bool x2.t.s,.slice x2.t.a x2.t.n x2.t.c,.bool x2.l.s,.slice x2.l.a x2.l.n x2.l.c,.bool x3.t.s,.slice x3.t.a x3.t.n x3.t.c,.bool x3.l.s,.slice x3.l.a x3.l.n x3.l.c] 58)) 28 [.bool false,.slice none 0 0,.bool false,.slice none 0 0];rw[World.size_alloc] at h
  rw[hV];exact h)
 have KG:=qh hbV;have HV:=qh hV;obtain⟨A4,hA4⟩:∃ A,A=w.heap.size+1:=⟨_,rfl⟩;have HA4:=qh hA4;rw[<- hA4] at B4;have HSA:=qh (show w.heap.size<=A4 by rw[hA4];omega);have hxl:=hx.len;have hbn:=b.b.len
 have hk9:k+4*(E*kl+1)+1<=900000:=by
  have h1:=zm (Nat.mul_le_mul_right (k+4*(E*kl+1)+1) (show 1<=n+1 by omega)) hk;omega
 obtain⟨xa,xn,xc⟩:=x;have CK:=qh (show Calls Tryz.prog 54 #[.slice xa xn xc] V _ from Km (x:=⟨xa,xn,xc⟩) (hx.below hbV) (b.lq (by omega)) (by change xn=_ at hxl;show xn<=_;omega));have HX:=qh hx;have HPC:=qh b;have H4:=qh h4;have HL:=qh hl;have HN:=qh hn;have HE:=qh hE;have HK:=qh hk;have HKL:=qh hkl;have HK9:=qh hk9;have HXL:=qh (show xn=P.length from hxl);have HBN:=qh hbn;have HLX:=qh (show LF x0 900000/\LF x1 900000/\LF x2 900000/\LF x3 900000 from⟨h4.k0.len (hl 0) hkl,h4.k1.len (hl 1) hkl,h4.k2.len (hl 2) hkl,h4.k3.len (hl 3) hkl⟩);have HPW:=qh (show ∀ i,i<=65535->i<=E->i*kl+1<=900000 from fun i _ hi=>by have:=Nat.mul_le_mul_right kl hi;omega);clear hV hbV hx b h4 hl hn hE hk hkl hk9 hA4 hxl hbn;change Calls Tryz.prog 29 #[.slice xa xn xc,.agg #[.bool x0.t.s,.slice x0.t.a x0.t.n x0.t.c,.bool x0.l.s,.slice x0.l.a x0.l.n x0.l.c,.bool x1.t.s,.slice x1.t.a x1.t.n x1.t.c,.bool x1.l.s,.slice x1.l.a x1.l.n x1.l.c,.bool x2.t.s,.slice x2.t.a x2.t.n x2.t.c,.bool x2.l.s,.slice x2.l.a x2.l.n x2.l.c,.bool x3.t.s,.slice x3.t.a x3.t.n x3.t.c,.bool x3.l.s,.slice x3.l.a x3.l.n x3.l.c]] w _;go_enter Tryz.func29,Tryz.ntmps29
 go_upto_region 1 with (fail)
 rw[show(w.alloc (.cells #[.bool x0.t.s,.slice x0.t.a x0.t.n x0.t.c,.bool x0.l.s,.slice x0.l.a x0.l.n x0.l.c,.bool x1.t.s,.slice x1.t.a x1.t.n x1.t.c,.bool x1.l.s,.slice x1.l.a x1.l.n x1.l.c,.bool x2.t.s,.slice x2.t.a x2.t.n x2.t.c,.bool x2.l.s,.slice x2.l.a x2.l.n x2.l.c,.bool x3.t.s,.slice x3.t.a x3.t.n x3.t.c,.bool x3.l.s,.slice x3.l.a x3.l.n x3.l.c] 58)).alloc (.cells #[.bool false,.slice none 0 0,.bool false,.slice none 0 0] 28)=V from HV.o.symm,show w.heap.size+1=A4 from HA4.o.symm];go_wp2_with fail
 with_reducible refine CK.o.mono ?_
 rintro e w1 ⟨rfl,hb⟩;have B3:=qh (B3.o.bl hb);have B4:=qh (B4.o.bl hb);have KG:=qk KG hb;clear hb CK;go_wp2_with fail
 go_loopw [6] (fun i wr=>∃ j:Nat,i=.int .i64 j/\j<=4/\Bxs wr w.heap.size 58 [.bool x0.t.s,.slice x0.t.a x0.t.n x0.t.c,.bool x0.l.s,.slice x0.l.a x0.l.n x0.l.c,.bool x1.t.s,.slice x1.t.a x1.t.n x1.t.c,.bool x1.l.s,.slice x1.l.a x1.l.n x1.l.c,.bool x2.t.s,.slice x2.t.a x2.t.n x2.t.c,.bool x2.l.s,.slice x2.l.a x2.l.n x2.l.c,.bool x3.t.s,.slice x3.t.a x3.t.n x3.t.c,.bool x3.l.s,.slice x3.l.a x3.l.n x3.l.c]/\Bxs wr A4 28 [.bool false,.slice none 0 0,.bool false,.slice none 0 0]/\Below w.heap.size w wr) (fun i _=>4-(intOf i).toNat)
 case atStart=>exact⟨0,rfl,Nat.zero_le _,B3.o,B4.o,KG.o⟩
 case round =>
  clear B3 B4 KG;obtain⟨j,rfl,hj,hb3,hb4,hb0⟩:=hrel;have HJ:=qh hj;have B3:=qh hb3;have B4:=qh hb4;have KG:=qh hb0;clear hj hb3 hb4 hb0;by_cases hjn:j<4
  ·obtain rfl | rfl | rfl | rfl:j=0\/j=1\/j=2\/j=3:=by omega
   ·have CC:=qh (show Calls Tryz.prog 128 #[.agg #[.bool x0.t.s,.slice x0.t.a x0.t.n x0.t.c,.bool x0.l.s,.slice x0.l.a x0.l.n x0.l.c]] wr _ from Xp (x:=x0) (H4.o.k0.below KG.o) HLX.o.1);have ek:IntKind.i64.wrap ((0:Int)+1)=(0:Int)+1:=IntWalk.i64_in _ (by decide);clear hjn;have ca0:=B3.o.ce 0;have ca1:=B3.o.ce 1;have ca2:=B3.o.ce 2;have ca3:=B3.o.ce 3;go_wp2_with fail
    with_reducible refine CC.o.mono ?_
    rintro e w2 ⟨rfl,hb⟩;have B3:=qh (B3.o.bl hb);have B4:=qh (B4.o.bl hb);have KG:=qk KG hb;clear hb CC ca0 ca1 ca2 ca3;go_wp2_with fail
    go_roundw
    case rel=>exact⟨1,rfl,by decide,B3.o,B4.o,KG.o⟩
    case measure=>simp[intOf]
   ·have CC:=qh (show Calls Tryz.prog 128 #[.agg #[.bool x1.t.s,.slice x1.t.a x1.t.n x1.t.c,.bool x1.l.s,.slice x1.l.a x1.l.n x1.l.c]] wr _ from Xp (x:=x1) (H4.o.k1.below KG.o) HLX.o.2.1);have ek:IntKind.i64.wrap ((1:Int)+1)=(1:Int)+1:=IntWalk.i64_in _ (by decide);clear hjn;have ca4:=B3.o.ce 4;have ca5:=B3.o.ce 5;have ca6:=B3.o.ce 6;have ca7:=B3.o.ce 7;go_wp2_with fail
    with_reducible refine CC.o.mono ?_
    rintro e w2 ⟨rfl,hb⟩;have B3:=qh (B3.o.bl hb);have B4:=qh (B4.o.bl hb);have KG:=qk KG hb;clear hb CC ca4 ca5 ca6 ca7;go_wp2_with fail
    go_roundw
    case rel=>exact⟨2,rfl,by decide,B3.o,B4.o,KG.o⟩
    case measure=>simp[intOf]
   ·have CC:=qh (show Calls Tryz.prog 128 #[.agg #[.bool x2.t.s,.slice x2.t.a x2.t.n x2.t.c,.bool x2.l.s,.slice x2.l.a x2.l.n x2.l.c]] wr _ from Xp (x:=x2) (H4.o.k2.below KG.o) HLX.o.2.2.1);have ek:IntKind.i64.wrap ((2:Int)+1)=(2:Int)+1:=IntWalk.i64_in _ (by decide);clear hjn;have ca8:=B3.o.ce 8;have ca9:=B3.o.ce 9;have ca10:=B3.o.ce 10;have ca11:=B3.o.ce 11;go_wp2_with fail
    with_reducible refine CC.o.mono ?_
    rintro e w2 ⟨rfl,hb⟩;have B3:=qh (B3.o.bl hb);have B4:=qh (B4.o.bl hb);have KG:=qk KG hb;clear hb CC ca8 ca9 ca10 ca11;go_wp2_with fail
    go_roundw
    case rel=>exact⟨3,rfl,by decide,B3.o,B4.o,KG.o⟩
    case measure=>simp[intOf]
   ·have CC:=qh (show Calls Tryz.prog 128 #[.agg #[.bool x3.t.s,.slice x3.t.a x3.t.n x3.t.c,.bool x3.l.s,.slice x3.l.a x3.l.n x3.l.c]] wr _ from Xp (x:=x3) (H4.o.k3.below KG.o) HLX.o.2.2.2);have ek:IntKind.i64.wrap ((3:Int)+1)=(3:Int)+1:=IntWalk.i64_in _ (by decide);clear hjn;have ca12:=B3.o.ce 12;have ca13:=B3.o.ce 13;have ca14:=B3.o.ce 14;have ca15:=B3.o.ce 15;go_wp2_with fail
    with_reducible refine CC.o.mono ?_
    rintro e w2 ⟨rfl,hb⟩;have B3:=qh (B3.o.bl hb);have B4:=qh (B4.o.bl hb);have KG:=qk KG hb;clear hb CC ca12 ca13 ca14 ca15;go_wp2_with fail
    go_roundw
    case rel=>exact⟨4,rfl,by decide,B3.o,B4.o,KG.o⟩
    case measure=>simp[intOf]
  ·obtain rfl:j=4:=by have:=HJ.o;omega
   have O0:=qh (rofV 0 wr (by decide) (by decide));clear hjn;go_wp2_with fail
   with_reducible refine O0.o.mono ?_
   rintro e w2 ⟨sm,rfl,hs,hb⟩;have HSZ:=qh KG.o.size;have NS:=qh (hs.mono HSZ.o);have B3:=qh (B3.o.bl hb);have B4:=qh (B4.o.bl hb);have KG:=qk KG hb;clear hs hb O0
   go_upto_region 9 with (fail)
   obtain⟨V1,hV⟩:∃ V,V=w2.alloc (.cells #[.bool sm.t.s,.slice sm.t.a sm.t.n sm.t.c,.bool sm.l.s,.slice sm.l.a sm.l.n sm.l.c] 28):=⟨_,rfl⟩
   have hb:Below w2.heap.size w2 V1:=by rw[hV];exact zk.alloc zj _
   have B7:=qh (show Bxs V1 w2.heap.size 28 [.bool sm.t.s,.slice sm.t.a sm.t.n sm.t.c,.bool sm.l.s,.slice sm.l.a sm.l.n sm.l.c] by rw[hV];exact Bxs.new w2 28 [.bool sm.t.s,.slice sm.t.a sm.t.n sm.t.c,.bool sm.l.s,.slice sm.l.a sm.l.n sm.l.c]);obtain⟨A7,hA7⟩:∃ A,A=w2.heap.size:=⟨_,rfl⟩;rw[<- hV,<- hA7];rw[<- hA7] at B7;have H47:=qh (show A4≠A7 by rw[hA7];have:=B4.o.lt;omega);have H37:=qh (show w.heap.size≠A7 by rw[hA7];have:=B3.o.lt;omega);have HA7:=qh (show w.heap.size<=A7 by rw[hA7];exact KG.o.size);have NS:=qh (show EF V1 w.heap.size sm (ev (P.take 0) (atM l)) from NS.o.below hb);have B3:=qh (B3.o.bl hb);have B4:=qh (B4.o.bl hb);have KG:=qk KG hb;clear hb hV hA7;go_wp2_with fail
   go_loopw [8] (fun i wr=>∃ (j:Nat) (sm:FV),i=.int .i64 j/\j<=xn/\Bxs wr w.heap.size 58 [.bool x0.t.s,.slice x0.t.a x0.t.n x0.t.c,.bool x0.l.s,.slice x0.l.a x0.l.n x0.l.c,.bool x1.t.s,.slice x1.t.a x1.t.n x1.t.c,.bool x1.l.s,.slice x1.l.a x1.l.n x1.l.c,.bool x2.t.s,.slice x2.t.a x2.t.n x2.t.c,.bool x2.l.s,.slice x2.l.a x2.l.n x2.l.c,.bool x3.t.s,.slice x3.t.a x3.t.n x3.t.c,.bool x3.l.s,.slice x3.l.a x3.l.n x3.l.c]/\Bxs wr A4 28 [.bool false,.slice none 0 0,.bool false,.slice none 0 0]/\Bxs wr A7 28 [.bool sm.t.s,.slice sm.t.a sm.t.n sm.t.c,.bool sm.l.s,.slice sm.l.a sm.l.n sm.l.c]/\EF wr w.heap.size sm (ev (P.take j) (atM l))/\Below w.heap.size w wr) (fun i _=>xn-(intOf i).toNat)
   case atStart=>exact⟨0,sm,rfl,Nat.zero_le _,B3.o,B4.o,B7.o,NS.o,KG.o⟩
   case round =>
    clear B3 B4 B7 NS KG;obtain⟨j,sm,rfl,hj,hb3,hb4,hb7,hs,hb0⟩:=hrel;have HJ:=qh hj;have B3:=qh hb3;have B4:=qh hb4;have B7:=qh hb7;have NS:=qh hs;have KG:=qh hb0;have HTK:=qh (show PC (P.take j) n k E from⟨jda HPC.o.c j,zm (by rw[List.length_take];omega) HPC.o.b.len,fun t ht=>HPC.o.b.lq t (List.mem_of_mem_take ht),fun t ht=>HPC.o.b.ex t (List.mem_of_mem_take ht)⟩);have HLS:=qh (show LF sm 900000 from hs.k.len ((HTK.o.at HL.o).up HK.o) zj);clear hj hb3 hb4 hb7 hs hb0;by_cases hjn:j<xn
    ·have HJN:=qh hjn;have HLT:=qh (show(j:Int)<(xn:Int) by omega);have hlt:=HLT.o;obtain⟨t,q,pb,po,rfl,hre,hkf,htp⟩:=HX.o.get hjn;have HRE:=qh hre;have HTP:=qh htp;have E1:=qh (hre.below KG.o);have NC:=qh (hkf.below KG.o);have HMQ:=qh (HPC.o.b.lq _ (List.mem_of_getElem? htp));have HME:=qh (HPC.o.b.ex _ (List.mem_of_getElem? htp));have HPQ:=qh (fun i=>jdn (l:=l) (m:=t.m) (q:=q) (kp:=k) (kl:=kl) (E:=E) HMQ.o HL.o (fun i=>at_one t.m i E HME.o) i);clear hjn hre hkf htp;obtain⟨c0,c1,c2,c3,c4,c5,c6,c7⟩:=E1.o.eight
     go_upto_region 13 with (fail)
     obtain⟨V2,hV⟩:∃ V,V=wr.alloc (.cells #[.bool t.c.t.s,.slice t.c.t.a t.c.t.n t.c.t.c,.bool t.c.l.s,.slice t.c.l.a t.c.l.n t.c.l.c] 28):=⟨_,rfl⟩
     have hb:Below wr.heap.size wr V2:=by rw[hV];exact zk.alloc zj _
     have B9:=qh (show Bxs V2 wr.heap.size 28 [.bool t.c.t.s,.slice t.c.t.a t.c.t.n t.c.t.c,.bool t.c.l.s,.slice t.c.l.a t.c.l.n t.c.l.c] by rw[hV];exact Bxs.new wr 28 [.bool t.c.t.s,.slice t.c.t.a t.c.t.n t.c.t.c,.bool t.c.l.s,.slice t.c.l.a t.c.l.n t.c.l.c]);obtain⟨A9,hA9⟩:∃ A,A=wr.heap.size:=⟨_,rfl⟩;rw[<- hV,<- hA9];rw[<- hA9] at B9;have H49:=qh (show A4≠A9 by rw[hA9];have:=B4.o.lt;omega);have H39:=qh (show w.heap.size≠A9 by rw[hA9];have:=B3.o.lt;omega);have H79:=qh (show A7≠A9 by rw[hA9];have:=B7.o.lt;omega);have H97:=qh (show A9≠A7 from Ne.symm H79.o);have HA9:=qh (show w.heap.size<=A9 by rw[hA9];exact KG.o.size);have NC:=qh (show KF V2 t.c (pw l t.m q 0) from NC.o.below hb);have NS:=qh (NS.o.below hb);have B3:=qh (B3.o.bl hb);have B4:=qh (B4.o.bl hb);have B7:=qh (B7.o.bl hb);have KG:=qk KG hb;clear hb hV hA9 c0 c1 c2 c3 c4 c5 c6 c7 hlt;go_wp2_with fail
     go_loopw [10] (fun i wr=>∃ (h:Nat) (c:FV),i=.int .i64 h/\h<=4/\Bxs wr w.heap.size 58 [.bool x0.t.s,.slice x0.t.a x0.t.n x0.t.c,.bool x0.l.s,.slice x0.l.a x0.l.n x0.l.c,.bool x1.t.s,.slice x1.t.a x1.t.n x1.t.c,.bool x1.l.s,.slice x1.l.a x1.l.n x1.l.c,.bool x2.t.s,.slice x2.t.a x2.t.n x2.t.c,.bool x2.l.s,.slice x2.l.a x2.l.n x2.l.c,.bool x3.t.s,.slice x3.t.a x3.t.n x3.t.c,.bool x3.l.s,.slice x3.l.a x3.l.n x3.l.c]/\Bxs wr A4 28 [.bool false,.slice none 0 0,.bool false,.slice none 0 0]/\Bxs wr A7 28 [.bool sm.t.s,.slice sm.t.a sm.t.n sm.t.c,.bool sm.l.s,.slice sm.l.a sm.l.n sm.l.c]/\Bxs wr A9 28 [.bool c.t.s,.slice c.t.a c.t.n c.t.c,.bool c.l.s,.slice c.l.a c.l.n c.l.c]/\EF wr w.heap.size sm (ev (P.take j) (atM l))/\KF wr c (pw l t.m q h)/\Below w.heap.size w wr) (fun i _=>4-(intOf i).toNat)
     case atStart=>exact⟨0,t.c,rfl,Nat.zero_le _,B3.o,B4.o,B7.o,B9.o,NS.o,NC.o,KG.o⟩
     case round =>
      clear B3 B4 B7 B9 NS NC KG E1;obtain⟨h,c,rfl,hh,hb3,hb4,hb7,hb9,hs,hc,hb0⟩:=hrel;have HH:=qh hh;have B3:=qh hb3;have B4:=qh hb4;have B7:=qh hb7;have B9:=qh hb9;have NS:=qh hs;have NC:=qh hc;have KG:=qh hb0;have HLC:=qh (show LF c 900000 from hc.len ((HPQ.o h).up (m:=900000) (by have:=HK9.o;have h1:=Nat.mul_le_mul_right (E*kl+1) hh;omega)) zj);have E1:=qh (HRE.o.below KG.o);clear hh hb3 hb4 hb7 hb9 hs hc hb0;by_cases hhn:h<4
      ·obtain rfl | rfl | rfl | rfl:h=0\/h=1\/h=2\/h=3:=by omega
       ·have EM:=qh (show t.m.x<=E from at_one t.m 0 E HME.o);have ec:IntKind.i64.wrap (t.m.x:Int)=(t.m.x:Int):=IntWalk.i64_in _ (by have:=EM.o;have:=HE.o;omega);have EC:=qh ec;have HPL:=qh (show LQ (l 0 ^ t.m.x) 900000 from(JZ (HL.o 0) t.m.x).up (HPW.o _ (by have:=EM.o;have:=HE.o;omega) EM.o));clear hhn ec
        go_upto_region 16 with (fail)
        refine FS.Jc 13 [] (FS.JM [(12,FS.Sp.made (fun x:FV=>x.v) (fun x w'=>EF w' wr.heap.size x (l 0 ^ t.m.x)) FV.blk)]) (fun w'=>Below wr.heap.size wr w') (by kernel_rfl) (by kernel_rfl) (by kernel_rfl)
         (FS.Jd (FS.Sp.Jg _ (fun _ _ _ h _ hk=>h.kept hk) (FS.JJ (by kernel_rfl))) FS.Jl) (fun _ _ h hb=>h.trans (hb.mono h.size)) (zk.drew) ?_
        simp only[zu,zi,ze,zx,zy,zv,zw]
        iterate 12
         refine FS.Jb rfl rfl rfl ?_ (fun w' hw'=>?_) ?_;rotate_left
         ·have hb':=hw'.world;have hB:=B9.o.bl hb';have hs0:=hB.ce 0;have hs1:=hB.ce 1;have hs2:=hB.ce 2;have hs3:=hB.ce 3;have hsf:=hB.fz;have hsl:=hB.lt;have hB:=B3.o.bl hb';have hs0:=hB.ce 0;have hs1:=hB.ce 1;have hs2:=hB.ce 2;have hs3:=hB.ce 3;have hsf:=hB.fz;have hsl:=hB.lt;have hlt:=HLT.o;obtain⟨hs0,hs1,hs2,hs3,hs4,hs5,hs6,hs7⟩:=(E1.o.below hb').eight;have ec:=EC.o;clear hw';go_simp
          try rfl
         conv=>arg 10;simp only[Act.put,zq0,zq1,zq2]
        refine FS.Jf rfl rfl rfl (fun w' hw'=>?_) ?_
        ·have hb':=hw'.world;refine FS.Jo (FS.PM (fun x:FV=>x.v) (fun x w'=>EF w' wr.heap.size x (l 0 ^ t.m.x)) FV.blk w'.heap.size) ?_ (fun _ _ h=>h.post (fun _ _=>FV.inj));go_simp;have CT:=(show Calls Tryz.prog 129 #[.agg #[.bool x0.t.s,.slice x0.t.a x0.t.n x0.t.c,.bool x0.l.s,.slice x0.l.a x0.l.n x0.l.c],.int .i64 (t.m.x:Int)] w' _ from Kn x0 (l 0) t.m.x kl w' ((H4.o.k0.below KG.o).below hb') (HL.o 0) (by have:=EM.o;have:=HE.o;omega) (HPW.o _ (by have:=EM.o;have:=HE.o;omega) EM.o) HKL.o);refine CT.mono ?_;rintro e w'' ⟨za,rfl,ho,hb⟩;exact⟨_,rfl,⟨za,rfl,ho.mono hb'.size,ho.QY⟩,hb⟩
        rintro _ ⟨y12,rfl⟩
        conv=>arg 10;simp only[Act.put,zq0,zq1,zq2]
        refine FS.Jn (fun w5 hb hF=>?_);have NP:=qh (FS.JE (val:=(fun x:FV=>x.v)) (Φ:=(fun x w'=>EF w' wr.heap.size x (l 0 ^ t.m.x))) (fun _ _=>FV.inj) (hF.all 12));have NS:=qh (NS.o.below hb);have NC:=qh (NC.o.below hb);have B3:=qh (B3.o.bl hb);have B4:=qh (B4.o.bl hb);have B7:=qh (B7.o.bl hb);have B9:=qh (B9.o.bl hb);have KG:=qk KG hb;have CT:=qh (show Calls Tryz.prog 81 #[.agg #[.bool c.t.s,.slice c.t.a c.t.n c.t.c,.bool c.l.s,.slice c.l.a c.l.n c.l.c],.agg #[.bool y12.t.s,.slice y12.t.a y12.t.n y12.t.c,.bool y12.l.s,.slice y12.l.a y12.l.n y12.l.c]] w5 _ from jai (x:=c) (y:=y12) NC.o.any HLC.o NP.o.k.any (NP.o.k.len HPL.o zj));have ek:IntKind.i64.wrap ((0:Int)+1)=(0:Int)+1:=IntWalk.i64_in _ (by decide);clear hb hF;have cg0:=B9.o.ce 0;have cg1:=B9.o.ce 1;have cg2:=B9.o.ce 2;have cg3:=B9.o.ce 3;have cgf:=B9.o.fz;have cgl:=B9.o.lt;go_wp2_with fail
        with_reducible refine CT.o.mono ?_
        rintro e w6 ⟨c2,rfl,hc,hb⟩;have HSZ:=qh KG.o.size;have N2:=qh (show EF w6 w.heap.size c2 (pw l t.m q 1) from hc.mono HSZ.o);have NS:=qh (NS.o.below hb);have B3:=qh (B3.o.bl hb);have B4:=qh (B4.o.bl hb);have B7:=qh (B7.o.bl hb);have B9:=qh (B9.o.bl hb);have KG:=qk KG hb;clear hc hb CT cg0 cg1 cg2 cg3 cgf cgl;have cg0:=B9.o.ce 0;have cg1:=B9.o.ce 1;have cg2:=B9.o.ce 2;have cg3:=B9.o.ce 3;have cgf:=B9.o.fz;have cgl:=B9.o.lt;go_wp2_with fail
        go_roundw
        case rel=>exact⟨1,c2,rfl,by decide,QZ B3.o H39.o ..,Jp B4.o H49.o ..,Jp B7.o H79.o ..,JP B9.o ..,QU NS.o B9.o (by decide) ..,(QU N2.o B9.o (by decide) ..).k,Jv KG.o HA9.o ..⟩
        case measure=>simp[intOf]
       ·have EM:=qh (show t.m.y<=E from at_one t.m 1 E HME.o);have ec:IntKind.i64.wrap (t.m.y:Int)=(t.m.y:Int):=IntWalk.i64_in _ (by have:=EM.o;have:=HE.o;omega);have EC:=qh ec;have HPL:=qh (show LQ (l 1 ^ t.m.y) 900000 from(JZ (HL.o 1) t.m.y).up (HPW.o _ (by have:=EM.o;have:=HE.o;omega) EM.o));clear hhn ec
        go_upto_region 16 with (fail)
        refine FS.Jc 13 [] (FS.JM [(12,FS.Sp.made (fun x:FV=>x.v) (fun x w'=>EF w' wr.heap.size x (l 1 ^ t.m.y)) FV.blk)]) (fun w'=>Below wr.heap.size wr w') (by kernel_rfl) (by kernel_rfl) (by kernel_rfl)
         (FS.Jd (FS.Sp.Jg _ (fun _ _ _ h _ hk=>h.kept hk) (FS.JJ (by kernel_rfl))) FS.Jl) (fun _ _ h hb=>h.trans (hb.mono h.size)) (zk.drew) ?_
        simp only[zu,zi,ze,zx,zy,zv,zw]
        iterate 12
         refine FS.Jb rfl rfl rfl ?_ (fun w' hw'=>?_) ?_;rotate_left
         ·have hb':=hw'.world;have hB:=B9.o.bl hb';have hs0:=hB.ce 0;have hs1:=hB.ce 1;have hs2:=hB.ce 2;have hs3:=hB.ce 3;have hsf:=hB.fz;have hsl:=hB.lt;have hB:=B3.o.bl hb';have hs0:=hB.ce 4;have hs1:=hB.ce 5;have hs2:=hB.ce 6;have hs3:=hB.ce 7;have hsf:=hB.fz;have hsl:=hB.lt;have hlt:=HLT.o;obtain⟨hs0,hs1,hs2,hs3,hs4,hs5,hs6,hs7⟩:=(E1.o.below hb').eight;have ec:=EC.o;clear hw';go_simp
          try rfl
         conv=>arg 10;simp only[Act.put,zq0,zq1,zq2]
        refine FS.Jf rfl rfl rfl (fun w' hw'=>?_) ?_
        ·have hb':=hw'.world;refine FS.Jo (FS.PM (fun x:FV=>x.v) (fun x w'=>EF w' wr.heap.size x (l 1 ^ t.m.y)) FV.blk w'.heap.size) ?_ (fun _ _ h=>h.post (fun _ _=>FV.inj));go_simp;have CT:=(show Calls Tryz.prog 129 #[.agg #[.bool x1.t.s,.slice x1.t.a x1.t.n x1.t.c,.bool x1.l.s,.slice x1.l.a x1.l.n x1.l.c],.int .i64 (t.m.y:Int)] w' _ from Kn x1 (l 1) t.m.y kl w' ((H4.o.k1.below KG.o).below hb') (HL.o 1) (by have:=EM.o;have:=HE.o;omega) (HPW.o _ (by have:=EM.o;have:=HE.o;omega) EM.o) HKL.o);refine CT.mono ?_;rintro e w'' ⟨za,rfl,ho,hb⟩;exact⟨_,rfl,⟨za,rfl,ho.mono hb'.size,ho.QY⟩,hb⟩
        rintro _ ⟨y12,rfl⟩
        conv=>arg 10;simp only[Act.put,zq0,zq1,zq2]
        refine FS.Jn (fun w5 hb hF=>?_);have NP:=qh (FS.JE (val:=(fun x:FV=>x.v)) (Φ:=(fun x w'=>EF w' wr.heap.size x (l 1 ^ t.m.y))) (fun _ _=>FV.inj) (hF.all 12));have NS:=qh (NS.o.below hb);have NC:=qh (NC.o.below hb);have B3:=qh (B3.o.bl hb);have B4:=qh (B4.o.bl hb);have B7:=qh (B7.o.bl hb);have B9:=qh (B9.o.bl hb);have KG:=qk KG hb;have CT:=qh (show Calls Tryz.prog 81 #[.agg #[.bool c.t.s,.slice c.t.a c.t.n c.t.c,.bool c.l.s,.slice c.l.a c.l.n c.l.c],.agg #[.bool y12.t.s,.slice y12.t.a y12.t.n y12.t.c,.bool y12.l.s,.slice y12.l.a y12.l.n y12.l.c]] w5 _ from jai (x:=c) (y:=y12) NC.o.any HLC.o NP.o.k.any (NP.o.k.len HPL.o zj));have ek:IntKind.i64.wrap ((1:Int)+1)=(1:Int)+1:=IntWalk.i64_in _ (by decide);clear hb hF;have cg0:=B9.o.ce 0;have cg1:=B9.o.ce 1;have cg2:=B9.o.ce 2;have cg3:=B9.o.ce 3;have cgf:=B9.o.fz;have cgl:=B9.o.lt;go_wp2_with fail
        with_reducible refine CT.o.mono ?_
        rintro e w6 ⟨c2,rfl,hc,hb⟩;have HSZ:=qh KG.o.size;have N2:=qh (show EF w6 w.heap.size c2 (pw l t.m q 2) from hc.mono HSZ.o);have NS:=qh (NS.o.below hb);have B3:=qh (B3.o.bl hb);have B4:=qh (B4.o.bl hb);have B7:=qh (B7.o.bl hb);have B9:=qh (B9.o.bl hb);have KG:=qk KG hb;clear hc hb CT cg0 cg1 cg2 cg3 cgf cgl;have cg0:=B9.o.ce 0;have cg1:=B9.o.ce 1;have cg2:=B9.o.ce 2;have cg3:=B9.o.ce 3;have cgf:=B9.o.fz;have cgl:=B9.o.lt;go_wp2_with fail
        go_roundw
        case rel=>exact⟨2,c2,rfl,by decide,QZ B3.o H39.o ..,Jp B4.o H49.o ..,Jp B7.o H79.o ..,JP B9.o ..,QU NS.o B9.o (by decide) ..,(QU N2.o B9.o (by decide) ..).k,Jv KG.o HA9.o ..⟩
        case measure=>simp[intOf]
       ·have EM:=qh (show t.m.z<=E from at_one t.m 2 E HME.o);have ec:IntKind.i64.wrap (t.m.z:Int)=(t.m.z:Int):=IntWalk.i64_in _ (by have:=EM.o;have:=HE.o;omega);have EC:=qh ec;have HPL:=qh (show LQ (l 2 ^ t.m.z) 900000 from(JZ (HL.o 2) t.m.z).up (HPW.o _ (by have:=EM.o;have:=HE.o;omega) EM.o));clear hhn ec
        go_upto_region 16 with (fail)
        refine FS.Jc 13 [] (FS.JM [(12,FS.Sp.made (fun x:FV=>x.v) (fun x w'=>EF w' wr.heap.size x (l 2 ^ t.m.z)) FV.blk)]) (fun w'=>Below wr.heap.size wr w') (by kernel_rfl) (by kernel_rfl) (by kernel_rfl)
         (FS.Jd (FS.Sp.Jg _ (fun _ _ _ h _ hk=>h.kept hk) (FS.JJ (by kernel_rfl))) FS.Jl) (fun _ _ h hb=>h.trans (hb.mono h.size)) (zk.drew) ?_
        simp only[zu,zi,ze,zx,zy,zv,zw]
        iterate 12
         refine FS.Jb rfl rfl rfl ?_ (fun w' hw'=>?_) ?_;rotate_left
         ·have hb':=hw'.world;have hB:=B9.o.bl hb';have hs0:=hB.ce 0;have hs1:=hB.ce 1;have hs2:=hB.ce 2;have hs3:=hB.ce 3;have hsf:=hB.fz;have hsl:=hB.lt;have hB:=B3.o.bl hb';have hs0:=hB.ce 8;have hs1:=hB.ce 9;have hs2:=hB.ce 10;have hs3:=hB.ce 11;have hsf:=hB.fz;have hsl:=hB.lt;have hlt:=HLT.o;obtain⟨hs0,hs1,hs2,hs3,hs4,hs5,hs6,hs7⟩:=(E1.o.below hb').eight;have ec:=EC.o;clear hw';go_simp
          try rfl
         conv=>arg 10;simp only[Act.put,zq0,zq1,zq2]
        refine FS.Jf rfl rfl rfl (fun w' hw'=>?_) ?_
        ·have hb':=hw'.world;refine FS.Jo (FS.PM (fun x:FV=>x.v) (fun x w'=>EF w' wr.heap.size x (l 2 ^ t.m.z)) FV.blk w'.heap.size) ?_ (fun _ _ h=>h.post (fun _ _=>FV.inj));go_simp;have CT:=(show Calls Tryz.prog 129 #[.agg #[.bool x2.t.s,.slice x2.t.a x2.t.n x2.t.c,.bool x2.l.s,.slice x2.l.a x2.l.n x2.l.c],.int .i64 (t.m.z:Int)] w' _ from Kn x2 (l 2) t.m.z kl w' ((H4.o.k2.below KG.o).below hb') (HL.o 2) (by have:=EM.o;have:=HE.o;omega) (HPW.o _ (by have:=EM.o;have:=HE.o;omega) EM.o) HKL.o);refine CT.mono ?_;rintro e w'' ⟨za,rfl,ho,hb⟩;exact⟨_,rfl,⟨za,rfl,ho.mono hb'.size,ho.QY⟩,hb⟩
        rintro _ ⟨y12,rfl⟩
        conv=>arg 10;simp only[Act.put,zq0,zq1,zq2]
        refine FS.Jn (fun w5 hb hF=>?_);have NP:=qh (FS.JE (val:=(fun x:FV=>x.v)) (Φ:=(fun x w'=>EF w' wr.heap.size x (l 2 ^ t.m.z))) (fun _ _=>FV.inj) (hF.all 12));have NS:=qh (NS.o.below hb);have NC:=qh (NC.o.below hb);have B3:=qh (B3.o.bl hb);have B4:=qh (B4.o.bl hb);have B7:=qh (B7.o.bl hb);have B9:=qh (B9.o.bl hb);have KG:=qk KG hb;have CT:=qh (show Calls Tryz.prog 81 #[.agg #[.bool c.t.s,.slice c.t.a c.t.n c.t.c,.bool c.l.s,.slice c.l.a c.l.n c.l.c],.agg #[.bool y12.t.s,.slice y12.t.a y12.t.n y12.t.c,.bool y12.l.s,.slice y12.l.a y12.l.n y12.l.c]] w5 _ from jai (x:=c) (y:=y12) NC.o.any HLC.o NP.o.k.any (NP.o.k.len HPL.o zj));have ek:IntKind.i64.wrap ((2:Int)+1)=(2:Int)+1:=IntWalk.i64_in _ (by decide);clear hb hF;have cg0:=B9.o.ce 0;have cg1:=B9.o.ce 1;have cg2:=B9.o.ce 2;have cg3:=B9.o.ce 3;have cgf:=B9.o.fz;have cgl:=B9.o.lt;go_wp2_with fail
        with_reducible refine CT.o.mono ?_
        rintro e w6 ⟨c2,rfl,hc,hb⟩;have HSZ:=qh KG.o.size;have N2:=qh (show EF w6 w.heap.size c2 (pw l t.m q 3) from hc.mono HSZ.o);have NS:=qh (NS.o.below hb);have B3:=qh (B3.o.bl hb);have B4:=qh (B4.o.bl hb);have B7:=qh (B7.o.bl hb);have B9:=qh (B9.o.bl hb);have KG:=qk KG hb;clear hc hb CT cg0 cg1 cg2 cg3 cgf cgl;have cg0:=B9.o.ce 0;have cg1:=B9.o.ce 1;have cg2:=B9.o.ce 2;have cg3:=B9.o.ce 3;have cgf:=B9.o.fz;have cgl:=B9.o.lt;go_wp2_with fail
        go_roundw
        case rel=>exact⟨3,c2,rfl,by decide,QZ B3.o H39.o ..,Jp B4.o H49.o ..,Jp B7.o H79.o ..,JP B9.o ..,QU NS.o B9.o (by decide) ..,(QU N2.o B9.o (by decide) ..).k,Jv KG.o HA9.o ..⟩
        case measure=>simp[intOf]
       ·have EM:=qh (show t.m.t<=E from at_one t.m 3 E HME.o);have ec:IntKind.i64.wrap (t.m.t:Int)=(t.m.t:Int):=IntWalk.i64_in _ (by have:=EM.o;have:=HE.o;omega);have EC:=qh ec;have HPL:=qh (show LQ (l 3 ^ t.m.t) 900000 from(JZ (HL.o 3) t.m.t).up (HPW.o _ (by have:=EM.o;have:=HE.o;omega) EM.o));clear hhn ec
        go_upto_region 16 with (fail)
        refine FS.Jc 13 [] (FS.JM [(12,FS.Sp.made (fun x:FV=>x.v) (fun x w'=>EF w' wr.heap.size x (l 3 ^ t.m.t)) FV.blk)]) (fun w'=>Below wr.heap.size wr w') (by kernel_rfl) (by kernel_rfl) (by kernel_rfl)
         (FS.Jd (FS.Sp.Jg _ (fun _ _ _ h _ hk=>h.kept hk) (FS.JJ (by kernel_rfl))) FS.Jl) (fun _ _ h hb=>h.trans (hb.mono h.size)) (zk.drew) ?_
        simp only[zu,zi,ze,zx,zy,zv,zw]
        iterate 12
         refine FS.Jb rfl rfl rfl ?_ (fun w' hw'=>?_) ?_;rotate_left
         ·have hb':=hw'.world;have hB:=B9.o.bl hb';have hs0:=hB.ce 0;have hs1:=hB.ce 1;have hs2:=hB.ce 2;have hs3:=hB.ce 3;have hsf:=hB.fz;have hsl:=hB.lt;have hB:=B3.o.bl hb';have hs0:=hB.ce 12;have hs1:=hB.ce 13;have hs2:=hB.ce 14;have hs3:=hB.ce 15;have hsf:=hB.fz;have hsl:=hB.lt;have hlt:=HLT.o;obtain⟨hs0,hs1,hs2,hs3,hs4,hs5,hs6,hs7⟩:=(E1.o.below hb').eight;have ec:=EC.o;clear hw';go_simp
          try rfl
         conv=>arg 10;simp only[Act.put,zq0,zq1,zq2]
        refine FS.Jf rfl rfl rfl (fun w' hw'=>?_) ?_
        ·have hb':=hw'.world;refine FS.Jo (FS.PM (fun x:FV=>x.v) (fun x w'=>EF w' wr.heap.size x (l 3 ^ t.m.t)) FV.blk w'.heap.size) ?_ (fun _ _ h=>h.post (fun _ _=>FV.inj));go_simp;have CT:=(show Calls Tryz.prog 129 #[.agg #[.bool x3.t.s,.slice x3.t.a x3.t.n x3.t.c,.bool x3.l.s,.slice x3.l.a x3.l.n x3.l.c],.int .i64 (t.m.t:Int)] w' _ from Kn x3 (l 3) t.m.t kl w' ((H4.o.k3.below KG.o).below hb') (HL.o 3) (by have:=EM.o;have:=HE.o;omega) (HPW.o _ (by have:=EM.o;have:=HE.o;omega) EM.o) HKL.o);refine CT.mono ?_;rintro e w'' ⟨za,rfl,ho,hb⟩;exact⟨_,rfl,⟨za,rfl,ho.mono hb'.size,ho.QY⟩,hb⟩
        rintro _ ⟨y12,rfl⟩
        conv=>arg 10;simp only[Act.put,zq0,zq1,zq2]
        refine FS.Jn (fun w5 hb hF=>?_);have NP:=qh (FS.JE (val:=(fun x:FV=>x.v)) (Φ:=(fun x w'=>EF w' wr.heap.size x (l 3 ^ t.m.t))) (fun _ _=>FV.inj) (hF.all 12));have NS:=qh (NS.o.below hb);have NC:=qh (NC.o.below hb);have B3:=qh (B3.o.bl hb);have B4:=qh (B4.o.bl hb);have B7:=qh (B7.o.bl hb);have B9:=qh (B9.o.bl hb);have KG:=qk KG hb;have CT:=qh (show Calls Tryz.prog 81 #[.agg #[.bool c.t.s,.slice c.t.a c.t.n c.t.c,.bool c.l.s,.slice c.l.a c.l.n c.l.c],.agg #[.bool y12.t.s,.slice y12.t.a y12.t.n y12.t.c,.bool y12.l.s,.slice y12.l.a y12.l.n y12.l.c]] w5 _ from jai (x:=c) (y:=y12) NC.o.any HLC.o NP.o.k.any (NP.o.k.len HPL.o zj));have ek:IntKind.i64.wrap ((3:Int)+1)=(3:Int)+1:=IntWalk.i64_in _ (by decide);clear hb hF;have cg0:=B9.o.ce 0;have cg1:=B9.o.ce 1;have cg2:=B9.o.ce 2;have cg3:=B9.o.ce 3;have cgf:=B9.o.fz;have cgl:=B9.o.lt;go_wp2_with fail
        with_reducible refine CT.o.mono ?_
        rintro e w6 ⟨c2,rfl,hc,hb⟩;have HSZ:=qh KG.o.size;have N2:=qh (show EF w6 w.heap.size c2 (pw l t.m q 4) from hc.mono HSZ.o);have NS:=qh (NS.o.below hb);have B3:=qh (B3.o.bl hb);have B4:=qh (B4.o.bl hb);have B7:=qh (B7.o.bl hb);have B9:=qh (B9.o.bl hb);have KG:=qk KG hb;clear hc hb CT cg0 cg1 cg2 cg3 cgf cgl;have cg0:=B9.o.ce 0;have cg1:=B9.o.ce 1;have cg2:=B9.o.ce 2;have cg3:=B9.o.ce 3;have cgf:=B9.o.fz;have cgl:=B9.o.lt;go_wp2_with fail
        go_roundw
        case rel=>exact⟨4,c2,rfl,by decide,QZ B3.o H39.o ..,Jp B4.o H49.o ..,Jp B7.o H79.o ..,JP B9.o ..,QU NS.o B9.o (by decide) ..,(QU N2.o B9.o (by decide) ..).k,Jv KG.o HA9.o ..⟩
        case measure=>simp[intOf]
      ·obtain rfl:h=4:=by have:=HH.o;omega
       have NC4:=qh (show KF wr c (q*atM l t.m) by have h:=NC.o;rw[KH] at h;exact h);have CT:=qh (show Calls Tryz.prog 130 #[.agg #[.bool sm.t.s,.slice sm.t.a sm.t.n sm.t.c,.bool sm.l.s,.slice sm.l.a sm.l.n sm.l.c],.agg #[.bool c.t.s,.slice c.t.a c.t.n c.t.c,.bool c.l.s,.slice c.l.a c.l.n c.l.c]] wr _ from raddV (x:=sm) (y:=c) NS.o.k.any HLS.o NC4.o.any HLC.o);have ek:IntKind.i64.wrap ((j:Int)+1)=(j:Int)+1:=IntWalk.i64_in _ (by have:=HJN.o;have:=HXL.o;have:=HBN.o;have:=HN.o;omega);clear hhn;have ch0:=B7.o.ce 0;have ch1:=B7.o.ce 1;have ch2:=B7.o.ce 2;have ch3:=B7.o.ce 3;have chf:=B7.o.fz;have chl:=B7.o.lt;have cg0:=B9.o.ce 0;have cg1:=B9.o.ce 1;have cg2:=B9.o.ce 2;have cg3:=B9.o.ce 3;have cgf:=B9.o.fz;have cgl:=B9.o.lt;go_wp2_with fail
       with_reducible refine CT.o.mono ?_
       rintro e w9 ⟨sn,rfl,hs,hb⟩;have HSZ:=qh KG.o.size
       have NN:=qh (show EF w9 w.heap.size sn (ev (P.take (j+1)) (atM l)) by
        rw[List.take_add_one,HTP.o];show EF w9 w.heap.size sn (ev (P.take j++[(t.m,q)]) (atM l));rw[QP,Jw,YA,Rat.add_zero]
        exact hs.mono HSZ.o)
       have B3:=qh (B3.o.bl hb);have B4:=qh (B4.o.bl hb);have B7:=qh (B7.o.bl hb);have KG:=qk KG hb;clear hs hb CT ch0 ch1 ch2 ch3 chf chl cg0 cg1 cg2 cg3 cgf cgl;have ch0:=B7.o.ce 0;have ch1:=B7.o.ce 1;have ch2:=B7.o.ce 2;have ch3:=B7.o.ce 3;have chf:=B7.o.fz;have chl:=B7.o.lt;go_wp2_with fail
       go_roundw
       case rel=>exact⟨j+1,sn,rfl,HJN.o,QZ B3.o H37.o ..,Jp B4.o H47.o ..,JP B7.o ..,QU NN.o B7.o (by decide) ..,Jv KG.o HA7.o ..⟩
       case measure=>simp[intOf];have:=HJN.o;omega
    ·have hge:¬((j:Int)<(xn:Int)):=by omega
     have HAL:=qh (show P.take j=P from List.take_of_length_le (by have:=HXL.o;have:=HJ.o;omega));have NS:=qh (show EF wr w.heap.size sm (ev P (atM l)) by have h:=NS.o;rw[HAL.o] at h;exact h);clear hjn;have ch0:=B7.o.ce 0;have ch1:=B7.o.ce 1;have ch2:=B7.o.ce 2;have ch3:=B7.o.ce 3;have chf:=B7.o.fz;have chl:=B7.o.lt;have cd0:=B4.o.ce 0;have cd1:=B4.o.ce 1;have cd2:=B4.o.ce 2;have cd3:=B4.o.ce 3;have cdf:=B4.o.fz;have cdl:=B4.o.lt;have HD:=qh (show EF (Zl wr A4 (.bool sm.t.s) (.slice sm.t.a sm.t.n sm.t.c) (.bool sm.l.s) (.slice sm.l.a sm.l.n sm.l.c)) w.heap.size sm (ev P (atM l)) from QU NS.o B4.o (by decide) ..);have HB:=qh (show Below w.heap.size w (Zl wr A4 (.bool sm.t.s) (.slice sm.t.a sm.t.n sm.t.c) (.bool sm.l.s) (.slice sm.l.a sm.l.n sm.l.c)) from Jv KG.o HSA.o ..);go_wp2_with fail
     exact bodyPost_ret (Qk rfl _ _ _ _ _ _ _ rfl (JP B4.o ..) Tryz.underlying28 rfl (by kernel_rfl)) rfl ⟨sm,rfl,HD.o,HB.o⟩
end Pol
namespace Book
open Go.RowKit Go.Sort Go.FreshG Limb Pol
abbrev book0:Array Value:=#[.int .i64 0,.slice none 0 0,.slice none 0 0,.slice none 0 0,.slice none 0 0,.slice none 0 0,.slice none 0 0,.slice none 0 0,.slice none 0 0,.slice none 0 0,.slice none 0 0,.slice none 0 0,.slice none 0 0]
theorem BkS.new (w:World):BkS (w.alloc (.cells book0 53)) w.heap.size w.heap.size 0 [] []:=by
 refine⟨⟨.slice none 0 0,.slice none 0 0,⟨?_,World.ownsRow_nil _ _ _ _,World.ownsRow_nil _ _ _ _,(fun h=>by cases h),(fun h=>by cases h),fun g h=>by cases h⟩,fun _=>rfl,fun _=>rfl⟩,zj,by rw[World.size_alloc];exact Nat.le_succ _⟩
 refine World.rowIs_alloc w _ 53 _ fun i hi=>?_
 have:i=0\/i=1\/i=2\/i=3\/i=4\/i=5\/i=6\/i=7\/i=8\/i=9\/i=10\/i=11\/i=12:=by
  have:i<13:=hi;omega
 rcases this with rfl | rfl | rfl | rfl | rfl | rfl | rfl | rfl | rfl | rfl | rfl | rfl | rfl <;> rfl
theorem RT.Q4 {base:Nat} {w w':World} {a:Option Addr} {ts:List TV} (h:RT w a ts) (hk:Qw base w w') (hf:∀ p,a=some p->p.block<base):RT w' a ts:=by
 refine⟨fun hn=>?_⟩;obtain⟨b,off,ha,hc⟩:=h.ex hn;exact⟨b,off,ha,fun i t hi j v hj=>(World.cell?_of_block (a:=⟨b,off+i*8+j,none⟩) (hk.bel.block b (hf _ ha))).trans (hc i t hi j v hj)⟩
theorem HG.Q4 {base:Nat} {w w':World} {lo:Nat} {S:Nat->Prop} {L M:List HL} (h:HG w lo S L M) (hk:Qw base w w') (hS:∀ b,S b->b<base):HG w' lo S L M:=h.keep fun b hb=>hk.bel.block b (hS b hb)
structure PG (w:World) (x:PV) (q:Nat) (ts:List TV) (lo hi:Nat) (S:Nat->Prop):Prop where
 rt:RT w x.a ts
 len:ts.length=x.n
 hg:HG w lo S (Qm ts q) [⟨x.a,x.n,x.c,q+2*x.n⟩]
 at_:∀ b,S b->b<hi
theorem PG.far {w:World} {x:PV} {q:Nat} {ts:List TV} {lo hi:Nat} {S:Nat->Prop} (h:PG w x q ts lo hi S):∀ p,x.a=some p->p.block<hi:=fun p hp=>h.at_ _ (h.hg.at_ ⟨x.a,x.n,x.c,q+2*x.n⟩ (by simp) p hp)
theorem PG.Q4 {base:Nat} {w w':World} {x:PV} {q:Nat} {ts:List TV} {lo hi:Nat} {S:Nat->Prop} (h:PG w x q ts lo hi S) (hk:Qw base w w') (hh:hi<=base):PG w' x q ts lo hi S :=
 ⟨RT.Q4 h.rt hk fun p hp=>Nat.lt_of_lt_of_le (h.far p hp) hh,h.len,h.hg.Q4 hk fun b hb=>Nat.lt_of_lt_of_le (h.at_ b hb) hh,h.at_⟩
theorem PG.below {w w':World} {x:PV} {q:Nat} {ts:List TV} {lo hi:Nat} {S:Nat->Prop} (h:PG w x q ts lo hi S) (hb:Below w.heap.size w w') (hh:hi<=w.heap.size):PG w' x q ts lo hi S :=
 ⟨h.rt.below hb,h.len,h.hg.keep fun b hS=>hb.block b (Nat.lt_of_lt_of_le (h.at_ b hS) hh),h.at_⟩
structure BG (w:World) (b base q lo hi l m:Nat):Prop where
 ex:∃ L M,L.length=l/\M.length=m/\BkS w b base q L M/\HG w lo (Bw lo hi) L M
 lq:l+m=q
 h1:lo<=hi
 h2:hi<=base
def BGs (b base q lo hi l m:Nat) (w:World) (e:Ending) (w':World):Prop:=(∃ r,e=.returned r)/\BG w' b base q lo hi l m/\Qw base w w'
theorem BG.new (w:World) {lo:Nat} (h:lo<=w.heap.size):BG (w.alloc (.cells book0 53)) w.heap.size w.heap.size 0 lo lo 0 0 :=
 ⟨⟨[],[],rfl,rfl,BkS.new w,HG.nil _ _ _⟩,rfl,zj,h⟩
theorem BG.step {w w':World} {b base q q' lo hi lo' hi':Nat} {L M L2 M2:List HL} {e:Ending} (hG:HG w lo (Bw lo hi) L M) (g:HG w lo' (Bw lo' hi') L2 M2) (lq:L.length+M.length=q) (h1:lo<=hi) (h2:hi<=lo') (h3:lo'<=hi') (h4:hi'<=base) (hq:L2.length+M2.length+q=q') (h:Y0 b base q' (L++L2) (M++M2) w e w') :
  BGs b base q' lo hi' (L.length+L2.length) (M.length+M2.length) w e w' :=
 ⟨h.1,⟨⟨L++L2,M++M2,List.length_append,List.length_append,h.2.1,(hG.app (g.mono (zm h1 h2)) (fun b hb=>⟨hb.1,by have:=hb.2;omega⟩) (fun b hb=>⟨by have:=hb.1;omega,hb.2⟩) (fun b hb hc=>by have:=hb.2;have:=hc.1;omega)).Q4 h.2.2 fun b hb=>Nat.lt_of_lt_of_le hb.2 h4⟩,by omega,by omega,h4⟩,h.2.2⟩
theorem BG.poly {w:World} {b base q lo hi l m:Nat} (h:BG w b base q lo hi l m) {x:PV} {ts:List TV} {lo' hi':Nat} (g:PG w x q ts lo' hi' (Bw lo' hi')) (h2:hi<=lo') (h3:lo'<=hi') (h4:hi'<=base) (hq:q+2*x.n<=29990) :
  Calls Tryz.prog 23 #[.pointer (some ⟨b,0,none⟩),x.v] w (BGs b base (q+2*x.n+1) lo hi' (l+2*x.n) (m+1) w):=by
 obtain⟨L,M,rfl,rfl,hs,hg⟩:=h.ex;have hl:=h.lq
 refine(hs.poly x ts g.rt g.len (fun p hp=>Nat.lt_of_lt_of_le (g.far p hp) h4) (by omega) (by omega) (by omega)).mono fun e w' hk=>?_
 have h5:=BG.step hg g.hg hl h.h1 h2 h3 h4 (q':=q+2*x.n+1) (by rw[Zb,g.len];simp;omega) hk;rw[Zb,g.len] at h5;exact h5
structure FG (w:World) (x:FV) (q lo hi:Nat):Prop where
 hg:HG w lo (Bw lo hi) [⟨x.t.a,x.t.n,x.t.c,q⟩,⟨x.l.a,x.l.n,x.l.c,q+1⟩] []
theorem FG.Q4 {base:Nat} {w w':World} {x:FV} {q lo hi:Nat} (h:FG w x q lo hi) (hk:Qw base w w') (hh:hi<=base):FG w' x q lo hi:=⟨h.hg.Q4 hk fun b hb=>Nat.lt_of_lt_of_le hb.2 hh⟩
theorem FG.below {w w':World} {x:FV} {q lo hi:Nat} (h:FG w x q lo hi) (hb:Below w.heap.size w w') (hh:hi<=w.heap.size):FG w' x q lo hi:=⟨h.hg.keep fun b hS=>hb.block b (Nat.lt_of_lt_of_le hS.2 hh)⟩
theorem TOwn.fg {w:World} {lo:Nat} {t:FV} (h:TOwn w lo t) {q:Nat} (hq:q+1<=30000):FG w t q lo w.heap.size:=⟨h.hg hq⟩
theorem fracL_eq (L:List HL) (q:Nat) (x:FV):fracL L q x.t.a x.t.n x.t.c x.l.a x.l.n x.l.c=L++[⟨x.t.a,x.t.n,x.t.c,q⟩,⟨x.l.a,x.l.n,x.l.c,q+1⟩]:=by
 unfold fracL;rw[List.append_assoc];rfl
theorem BG.frac {w:World} {b base q lo hi l m:Nat} (h:BG w b base q lo hi l m) {x:FV} {lo' hi':Nat} (g:FG w x q lo' hi') (h2:hi<=lo') (h3:lo'<=hi') (h4:hi'<=base) (hq:q+2<=29990) :
  Calls Tryz.prog 24 #[.pointer (some ⟨b,0,none⟩),x.v] w (BGs b base (q+2) lo hi' (l+2) m w):=by
 obtain⟨L,M,rfl,rfl,hs,hg⟩:=h.ex;have hl:=h.lq
 refine(hs.frac (by omega) (by omega) x.t.s x.t.a x.t.n x.t.c x.l.s x.l.a x.l.n x.l.c).mono fun e w' hk=>?_
 rw[fracL_eq] at hk;exact BG.step (M2:=[]) hg g.hg hl h.h1 h2 h3 h4 (q':=q+2) (by simp;omega) (by rw[List.append_nil];exact hk)
theorem BG.apart {w:World} {b base q lo hi l m:Nat} (h:BG w b base q lo hi l m) (h0:0<l) (h1:0<m) (hq:q<=30000) :
  Calls Tryz.prog 25 #[.pointer (some ⟨b,0,none⟩)] w fun e w'=>e=.returned (.bool true)/\Below lo w w':=by
 obtain⟨L,M,rfl,rfl,hs,hg⟩:=h.ex;have hl:=h.lq;exact hs.apartG hg h0 h1 (by omega) (by omega) (fun b hb=>⟨hb.1,Nat.lt_of_lt_of_le hb.2 h.h2⟩) (zm h.h1 h.h2)
theorem DP.pg {w:World} {lo:Nat} {x:PV} {P:List Tm} (h:DP w lo x P) (hl:∀ t∈P,LQ t.2 900000) (hn:P.length<=10000) {q:Nat} (hq:q+2*P.length<=30000):∃ ts,PG w x q ts lo w.heap.size (Bw lo w.heap.size):=by
 obtain⟨ts,h1,h2,h3,h4⟩:=DP.hg h hl hn hq;exact⟨ts,h1,h2,h4,fun b hb=>hb.2⟩
theorem Tw2.pg {w0 w:World} {lo:Nat} {y x:PV} (h:Tw2 w0 w lo y x) (hn:x.n<=10000) {q:Nat} (hq:q+2*x.n<=30000):∃ ts,PG w y q ts lo w.heap.size (Bw lo w.heap.size):=by
 obtain⟨ts,us,h1,h2,h3,h4⟩:=h;obtain⟨g1,g2,g3⟩:=TwP.hg h1 h4 (by omega) (q:=q) (by omega);exact⟨ts,g1,g2,g3,fun b hb=>hb.2⟩
structure GP (w:World) (x:PV) (q lo hi:Nat):Prop where
 ex:∃ ts,PG w x q ts lo hi (Bw lo hi)
 le:hi<=w.heap.size
 lh:lo<=hi
theorem GP.below {w w':World} {x:PV} {q lo hi:Nat} (h:GP w x q lo hi) (hb:Below w.heap.size w w'):GP w' x q lo hi:=by
 obtain⟨ts,g⟩:=h.ex;exact⟨⟨ts,g.below hb h.le⟩,zm h.le hb.size,h.lh⟩
theorem GP.Q4 {base:Nat} {w w':World} {x:PV} {q lo hi:Nat} (h:GP w x q lo hi) (hk:Qw base w w') (hh:hi<=base):GP w' x q lo hi:=by
 obtain⟨ts,g⟩:=h.ex;exact⟨⟨ts,g.Q4 hk hh⟩,zm h.le hk.bel.size,h.lh⟩
structure GF (w:World) (x:FV) (q lo hi:Nat):Prop where
 ex:FG w x q lo hi
 le:hi<=w.heap.size
 lh:lo<=hi
theorem GF.below {w w':World} {x:FV} {q lo hi:Nat} (h:GF w x q lo hi) (hb:Below w.heap.size w w'):GF w' x q lo hi:=⟨h.ex.below hb h.le,zm h.le hb.size,h.lh⟩
theorem GF.Q4 {base:Nat} {w w':World} {x:FV} {q lo hi:Nat} (h:GF w x q lo hi) (hk:Qw base w w') (hh:hi<=base):GF w' x q lo hi:=⟨h.ex.Q4 hk hh,zm h.le hk.bel.size,h.lh⟩
theorem DP.gp {w:World} {lo:Nat} {x:PV} {P:List Tm} (h:DP w lo x P) (hl:∀ t∈P,LQ t.2 900000) (hn:P.length<=10000) (hw:lo<=w.heap.size) {q:Nat} (hq:q+2*P.length<=30000):GP w x q lo w.heap.size:=⟨DP.pg h hl hn hq,zj,hw⟩
theorem Tw2.gp {w0 w:World} {lo:Nat} {y x:PV} (h:Tw2 w0 w lo y x) (hn:x.n<=10000) (hw:lo<=w.heap.size) {q:Nat} (hq:q+2*x.n<=30000):GP w y q lo w.heap.size:=⟨Tw2.pg h hn hq,zj,hw⟩
theorem TOwn.gf {w:World} {lo:Nat} {t:FV} (h:TOwn w lo t) (hw:lo<=w.heap.size) {q:Nat} (hq:q+1<=30000):GF w t q lo w.heap.size:=⟨h.fg hq,zj,hw⟩
theorem BG.polyP {w:World} {b base q lo hi l m:Nat} (h:BG w b base q lo hi l m) {x:PV} {lo' hi':Nat} (g:GP w x q lo' hi') (h2:hi<=lo') (h4:hi'<=base) (hq:q+2*x.n<=29990) :
  Calls Tryz.prog 23 #[.pointer (some ⟨b,0,none⟩),x.v] w (BGs b base (q+2*x.n+1) lo hi' (l+2*x.n) (m+1) w):=by
 obtain⟨ts,g1⟩:=g.ex;exact h.poly g1 h2 g.lh h4 hq
theorem BG.fracP {w:World} {b base q lo hi l m:Nat} (h:BG w b base q lo hi l m) {x:FV} {lo' hi':Nat} (g:GF w x q lo' hi') (h2:hi<=lo') (h4:hi'<=base) (hq:q+2<=29990) :
  Calls Tryz.prog 24 #[.pointer (some ⟨b,0,none⟩),x.v] w (BGs b base (q+2) lo hi' (l+2) m w):=h.frac g.ex h2 g.lh h4 hq
theorem BG.apartA {w:World} {b base q lo hi l m:Nat} (h:BG w b base q lo hi l m) (h1:0<m) (hq:q<=30000) :
  Calls Tryz.prog 25 #[.pointer (some ⟨b,0,none⟩)] w fun e w'=>e=.returned (.bool true)/\Below lo w w':=by
 by_cases h0:0<l
 ·exact h.apart h0 h1 hq
 ·classical
  obtain⟨L,M,rfl,rfl,hs,hg⟩:=h.ex;have hl:=h.lq;obtain rfl:L=[]:=List.length_eq_zero_iff.1 (by omega)
  have hT:∀ x:HL,∃ o,x∈M->J5 w lo x.a x.n x.c o:=fun x=>by
   by_cases hx:x∈M
   ·obtain⟨o,ho⟩:=(hg.row x hx).1;exact⟨o,fun _=>ho⟩
   ·exact⟨fun _=>.bool true,fun h=>absurd h hx⟩
  obtain⟨Ot,hT⟩:=Classical.axiomOfChoice hT
  exact hs.apart0 h1 (by omega) (fun x hx=>hg.nq x (List.mem_append_right _ hx)) Ot hT (fun x hx=>(hg.row x hx).2) (fun x hx p hp=>by
   have h9:=hg.at_ x (List.mem_append_right _ hx) p hp
   exact⟨h9.1,Nat.lt_of_lt_of_le h9.2 h.h2⟩) (zm h.h1 h.h2) hg.am
end Book
namespace Pol
open Go.RowKit Go.Sort Limb
theorem SA.lq {w:World} {x:PV} {P:List Tm} {ok:Bool} {n k e m:Nat} (h:SA w x P ok n k e) (hm:k<=m):∀ t∈P,LQ t.2 m:=fun t ht=>(h.b.lq zj t ht).up hm
theorem twin_sa {w:World} {x:PV} {P:List Tm} {ok:Bool} {n k e:Nat} (h:SA w x P ok n k e) (hk:k<=900000) :
  Calls Tryz.prog 12 #[x.v] w fun en w'=>∃ y:PV,en=.returned y.v/\y.n=x.n/\SA w' y P ok n k e/\Tw2 w w' w.heap.size y x/\Below w.heap.size w w':=by
 have hl:=h.le;have hb:=h.b;have hq:=h.lq hk
 rcases h.h with ⟨e1,hx⟩ | ⟨e1,hx,e2⟩
 ·exact(twin_k x P w hx hq hl).mono fun en w' ⟨y,g1,g2,g3,g4,g5⟩=>⟨y,g1,g2,⟨Or.inl ⟨e1,g3⟩,hb,by omega⟩,g4,g5⟩
 ·exact(twin_b x w hx hl).mono fun en w' ⟨y,g1,g2,g3,g4,g5⟩=>⟨y,g1,g2,⟨Or.inr ⟨e1,g3,e2⟩,hb,by omega⟩,g4,g5⟩
theorem check_sa {w:World} {x:PV} {P:List Tm} {ok:Bool} {n k e:Nat} (h:SA w x P ok n k e) (hk:k<=900000) :
  Calls Tryz.prog 53 #[x.v] w fun en w'=>en=.returned (.bool ok)/\Below w.heap.size w w':=by
 have hl:=h.le
 rcases h.h with ⟨rfl,hx⟩ | ⟨rfl,hx,-⟩
 ·exact Y6 hx (h.lq hk) (by omega)
 ·exact jer hx (by omega)
theorem jgq {w:World} {x:PV} {P:List Tm} {ok:Bool} {n k e:Nat} (h:SA w x P ok n k e) (hk:k<=900000) :
  Calls Tryz.prog 54 #[x.v] w fun en w'=>en=.returned (.bool ok)/\Below w.heap.size w w':=by
 have hl:=h.le
 rcases h.h with ⟨rfl,hx⟩ | ⟨rfl,hx,-⟩
 ·exact Km hx (h.lq hk) (by omega)
 ·exact jb7 hx (by omega)
theorem slope_no (c:Bool) (i:Int) (x:PV) (w:World) (CK:∀ V,Below w.heap.size w V->Calls Tryz.prog 53 #[x.v] V fun e w'=>e=.returned (.bool c)/\Below V.heap.size V w') (h:c=false\/i<0\/4<=i) :
  Calls Tryz.prog 28 #[x.v,.int .i64 i] w fun e w'=>e=.returned (.tuple #[.slice none 0 0,.int .i64 1])/\Below w.heap.size w w':=by
 obtain⟨V,hV⟩:∃ V,V=w.alloc (.cells #[.int .i64 i] 3):=⟨_,rfl⟩
 have hbV:Below w.heap.size w V:=by rw[hV];exact zk.alloc zj _
 have B1:=qh (show Bxs V w.heap.size 3 [.int .i64 i] by rw[hV];exact Bxs.new w 3 [.int .i64 i]);have CT:=qh (CK V hbV);have KG:=qh hbV;have HV:=qh hV;have HH:=qh h;obtain⟨xa,xn,xc⟩:=x;clear hV hbV CK h;change Calls Tryz.prog 28 #[.slice xa xn xc,.int .i64 i] w _;go_enter Tryz.func28,Tryz.ntmps28
 go_upto_region 1 with (fail)
 rw[show w.alloc (.cells #[.int .i64 i] 3)=V from HV.o.symm];go_wp2_with fail
 with_reducible refine CT.o.mono ?_
 rintro e w1 ⟨rfl,hb⟩;have KG:=qk KG hb;have B1:=qh (B1.o.bl hb);clear hb CT;have c0:=B1.o.ce 0;have cf:=B1.o.fz;have cl:=B1.o.lt
 rcases c with _ | _
 ·go_wp2_with fail
  go_ret2;exact⟨rfl,KG.o⟩
 ·by_cases h1:i<0
  ·go_wp2_with fail
   go_ret2;exact⟨rfl,KG.o⟩
  ·have h2:4<=i:=by
    rcases HH.o with h | h | h
    ·cases h
    ·exact absurd h h1
    ·exact h
   go_wp2_with fail
   go_ret2;exact⟨rfl,KG.o⟩
theorem jgr (c:Bool) (i:Int) (x:PV) (w:World) (CK:∀ V,Below w.heap.size w V->Calls Tryz.prog 54 #[x.v] V fun e w'=>e=.returned (.bool c)/\Below V.heap.size V w') (h:c=false\/i<0\/4<=i) :
  Calls Tryz.prog 30 #[x.v,.int .i64 i] w fun e w'=>e=.returned (.tuple #[.slice none 0 0,.int .i64 1])/\Below w.heap.size w w':=by
 have CT:=qh (CK w zk);have HH:=qh h;obtain⟨xa,xn,xc⟩:=x;clear CK h;change Calls Tryz.prog 30 #[.slice xa xn xc,.int .i64 i] w _;go_enter Tryz.func30,Tryz.ntmps30;go_wp2_with fail
 with_reducible refine CT.o.mono ?_
 rintro e w1 ⟨rfl,hb⟩;have KG:=qh hb;clear hb CT
 rcases c with _ | _
 ·go_wp2_with fail
  go_ret2;exact⟨rfl,KG.o⟩
 ·by_cases h1:i<0
  ·go_wp2_with fail
   go_ret2;exact⟨rfl,KG.o⟩
  ·have h2:3<i:=by
    rcases HH.o with h | h | h
    ·cases h
    ·exact absurd h h1
    ·omega
   have h3:i>3:=h2;go_wp2_with fail
   go_ret2;exact⟨rfl,KG.o⟩
theorem jdo {w:World} {x:PV} {P:List Tm} {ok:Bool} {n k E:Nat} (hx:SA w x P ok n k E) (hk:n*(k+4)<=400000) (hk4:k<=400000) (hn:n<=1000000) (hE:E<=65535) (i:Int) :
  ∃ (R:List Tm) (c:Int),(∀ t∈R,LQ t.2 400000)/\R.length<=n /\
   (∀ (W:World) (a:PV),SA W a P ok n k E->Calls Tryz.prog 28 #[a.v,.int .i64 i] W fun e w'=>∃ z:PV,e=.returned (.tuple #[z.v,.int .i64 c])/\DP w' W.heap.size z R/\Below W.heap.size W w') /\
   ∀ (W:World) (a:PV),SA W a P ok n k E->Calls Tryz.prog 30 #[a.v,.int .i64 i] W fun e w'=>∃ z:PV,e=.returned (.tuple #[z.v,.int .i64 c])/\EP w' W.heap.size z R/\Below W.heap.size W w':=by
 have hno:(ok=false\/i<0\/4<=i)->∃ (R:List Tm) (c:Int),(∀ t∈R,LQ t.2 400000)/\R.length<=n /\
   (∀ (W:World) (a:PV),SA W a P ok n k E->Calls Tryz.prog 28 #[a.v,.int .i64 i] W fun e w'=>∃ z:PV,e=.returned (.tuple #[z.v,.int .i64 c])/\DP w' W.heap.size z R/\Below W.heap.size W w') /\
   ∀ (W:World) (a:PV),SA W a P ok n k E->Calls Tryz.prog 30 #[a.v,.int .i64 i] W fun e w'=>∃ z:PV,e=.returned (.tuple #[z.v,.int .i64 c])/\EP w' W.heap.size z R/\Below W.heap.size W w':=fun h =>
  ⟨[],1,fun t ht=>(by cases ht),Nat.zero_le _,
   fun W a ha=>(slope_no ok i a W (fun V hb=>check_sa (ha.below hb) (by omega)) h).mono fun e w' ⟨h1,h2⟩=>⟨⟨none,0,0⟩,h1,DP.none _ _,h2⟩,
   fun W a ha=>(jgr ok i a W (fun V hb=>jgq (ha.below hb) (by omega)) h).mono fun e w' ⟨h1,h2⟩=>⟨⟨none,0,0⟩,h1,EP.nil,h2⟩⟩
 by_cases h0:ok=false
 ·exact hno (Or.inl h0)
 by_cases h1:i<0
 ·exact hno (Or.inr (Or.inl h1))
 by_cases h2:4<=i
 ·exact hno (Or.inr (Or.inr h2))
 obtain⟨j,rfl⟩:∃ j:Nat,i=(j:Int):=⟨i.toNat,by omega⟩
 obtain rfl:ok=true:=by cases ok with
  | true=>rfl
  | false=>exact absurd rfl h0
 have hj:j<4:=by omega
 have hK:∀ {W:World} {a:PV},SA W a P true n k E->KP W a P:=fun h=>by
  rcases h.h with ⟨-,h⟩ | ⟨h,-⟩
  ·exact h
  ·cases h
 have hb:=hx.b.slope j hE;have hl:P.length*(k+4)<=n*(k+4):=Nat.mul_le_mul_right _ hx.b.b.len
 exact⟨Zj P j,0,fun t ht=>(hb.b.lq t ht).up hk,hb.b.len,
  fun W a ha=>slope_k j hj a P k W (hK ha) hx.b.b.lq (zm hx.b.b.len hn) (by omega) (by omega),
  fun W a ha=>rslope_k j hj a P W (hK ha) (fun t ht=>(hx.b.b.lq t ht).up (by omega)) ha.le⟩
open Book
theorem la_ofK {w:World} {x0 x1 x2 x3:FV} {K:Nat} (hK:K<=900000) (h0:AQ w x0) (h1:AQ w x1) (h2:AQ w x2) (h3:AQ w x3) (b0:LF x0 K) (b1:LF x1 K) (b2:LF x2 K) (b3:LF x3 K):∃ l ok,LA w x0 x1 x2 x3 l ok K:=by
 obtain⟨o0,g0,k0⟩:=fb_of h0;obtain⟨o1,g1,k1⟩:=fb_of h1;obtain⟨o2,g2,k2⟩:=fb_of h2;obtain⟨o3,g3,k3⟩:=fb_of h3;by_cases hall:o0=true/\o1=true/\o2=true/\o3=true
 ·obtain⟨rfl,rfl,rfl,rfl⟩:=hall;obtain⟨q0,e0⟩:=k0 rfl;obtain⟨q1,e1⟩:=k1 rfl;obtain⟨q2,e2⟩:=k2 rfl;obtain⟨q3,e3⟩:=k3 rfl;exact⟨l4 q0 q1 q2 q3,true,Or.inl ⟨rfl,k4_of e0 e1 e2 e3,l4_lq (e0.lq b0) (e1.lq b1) (e2.lq b2) (e3.lq b3)⟩⟩
 ·refine⟨fun _=>0,false,Or.inr ⟨rfl,fun i=>if i=0 then o0 else if i=1 then o1 else if i=2 then o2 else o3,⟨g0,g1,g2,g3,b0.up hK,b1.up hK,b2.up hK,b3.up hK⟩,?_⟩⟩;by_cases a0:o0=true
  ·by_cases a1:o1=true
   ·by_cases a2:o2=true
    ·exact⟨3,by decide,by
      have:¬o3=true:=fun h=>hall ⟨a0,a1,a2,h⟩
      simpa using this⟩
    ·exact⟨2,by decide,by simpa using a2⟩
   ·exact⟨1,by decide,by simpa using a1⟩
  ·exact⟨0,by decide,by simpa using a0⟩
def Ko:FV:=⟨⟨false,none,0,0⟩,⟨false,none,0,0⟩⟩
def DO (w:World) (lo:Nat) (x:FV):Option Rat->Prop
 | some q=>DF w lo x q
 | none=>x=Ko
def EO (w:World) (lo:Nat) (x:FV):Option Rat->Prop
 | some q=>EF w lo x q
 | none=>x=Ko
def LO:Option Rat->Prop
 | some q=>LQ q 900000
 | none=>True
theorem DO.below {w w':World} {lo:Nat} {x:FV} {o:Option Rat} (h:DO w lo x o) (hb:Below w.heap.size w w'):DO w' lo x o:=by
 cases o with
 | some q=>exact DF.below h hb
 | none=>exact h
theorem EO.below {w w':World} {lo:Nat} {x:FV} {o:Option Rat} (h:EO w lo x o) (hb:Below w.heap.size w w'):EO w' lo x o:=by
 cases o with
 | some q=>exact EF.below h hb
 | none=>exact h
theorem jgs (w:World) (lo:Nat):TOwn w lo Ko :=
 ⟨⟨fun _=>0,⟨zj,Or.inl ⟨rfl,rfl,rfl⟩,fun i h=>absurd h (Nat.not_lt_zero _)⟩⟩,⟨fun _=>0,⟨zj,Or.inl ⟨rfl,rfl,rfl⟩,fun i h=>absurd h (Nat.not_lt_zero _)⟩⟩,(fun p q hp _=>by cases hp),by decide⟩
theorem DO.gf {w:World} {lo:Nat} {x:FV} {o:Option Rat} (h:DO w lo x o) (hl:LO o) (hw:lo<=w.heap.size) {q:Nat} (hq:q+1<=30000):GF w x q lo w.heap.size:=by
 cases o with
 | some r=>exact(DF.town h hl).gf hw hq
 | none=>rw[show x=Ko from h];exact(jgs _ _).gf hw hq
theorem jgt (w:World):Calls Tryz.prog 31 #[.agg #[.bool false,.slice none 0 0,.bool false,.slice none 0 0],.agg #[.bool false,.slice none 0 0,.bool false,.slice none 0 0]] w fun e w'=>e=.returned (.bool true)/\Below w.heap.size w w':=by
 have KG:=qh (Below.refl w.heap.size w);go_enter Tryz.func31,Tryz.ntmps31
 go_upto_region 1 with (fail)
 obtain⟨v3,hV⟩:∃ V,V=(w.alloc (.cells #[.bool false,.slice none 0 0,.bool false,.slice none 0 0] 28)).alloc (.cells #[.bool false,.slice none 0 0,.bool false,.slice none 0 0] 28):=⟨_,rfl⟩
 have hbV:Below w.heap.size w v3:=by rw[hV];exact((zk.alloc zj _).alloc (by go_size) _)
 have BX1:=qh (show Bxs v3 (w.heap.size) 28 [.bool false,.slice none 0 0,.bool false,.slice none 0 0] by have h:=(Bxs.new (w) 28 [.bool false,.slice none 0 0,.bool false,.slice none 0 0]).alloc (.cells #[.bool false,.slice none 0 0,.bool false,.slice none 0 0] 28);rw[hV];exact h);have BX2:=qh (show Bxs v3 (w.heap.size+1) 28 [.bool false,.slice none 0 0,.bool false,.slice none 0 0] by have h:=Bxs.new (w.alloc (.cells #[.bool false,.slice none 0 0,.bool false,.slice none 0 0] 28)) 28 [.bool false,.slice none 0 0,.bool false,.slice none 0 0];simp only[World.size_alloc] at h;rw[hV];exact h);rw[show(w.alloc (.cells #[.bool false,.slice none 0 0,.bool false,.slice none 0 0] 28)).alloc (.cells #[.bool false,.slice none 0 0,.bool false,.slice none 0 0] 28)=v3 from hV.symm];have KG:=qk KG hbV;clear hV hbV;have cBX10:=BX1.o.ce 0;have cBX11:=BX1.o.ce 1;have cBX12:=BX1.o.ce 2;have cBX13:=BX1.o.ce 3;have cBX1f:=BX1.o.fz;have cBX1l:=BX1.o.lt;have cBX20:=BX2.o.ce 0;have cBX21:=BX2.o.ce 1;have cBX22:=BX2.o.ce 2;have cBX23:=BX2.o.ce 3;have cBX2f:=BX2.o.fz;have cBX2l:=BX2.o.lt;go_wp2_with fail
 have CT:=qh (jag (kn0 v3) (Nat.zero_le _) (kn0 _) (Nat.zero_le _));rw[show decide ((0:Int)=0)=true from rfl] at CT;with_reducible refine CT.o.mono ?_
 rintro e w4 ⟨rfl,hb⟩;clear CT;clear cBX10 cBX11 cBX12 cBX13 cBX1f cBX1l;clear cBX20 cBX21 cBX22 cBX23 cBX2f cBX2l;have BX1:=qh (BX1.o.bl hb);have BX2:=qh (BX2.o.bl hb);have KG:=qk KG hb;clear hb;have cBX10:=BX1.o.ce 0;have cBX11:=BX1.o.ce 1;have cBX12:=BX1.o.ce 2;have cBX13:=BX1.o.ce 3;have cBX1f:=BX1.o.fz;have cBX1l:=BX1.o.lt;have cBX20:=BX2.o.ce 0;have cBX21:=BX2.o.ce 1;have cBX22:=BX2.o.ce 2;have cBX23:=BX2.o.ce 3;have cBX2f:=BX2.o.fz;have cBX2l:=BX2.o.lt;go_wp2_with fail
 have CT:=qh (jag (kn0 w4) (Nat.zero_le _) (kn0 _) (Nat.zero_le _));rw[show decide ((0:Int)=0)=true from rfl] at CT;with_reducible refine CT.o.mono ?_
 rintro e w5 ⟨rfl,hb⟩;clear CT;clear cBX10 cBX11 cBX12 cBX13 cBX1f cBX1l;clear cBX20 cBX21 cBX22 cBX23 cBX2f cBX2l;clear BX1;clear BX2;have KG:=qk KG hb;clear hb;go_wp2_with fail
 go_ret;exact⟨rfl,KG.o⟩
theorem DO.same {w:World} {lo lo2:Nat} {x y:FV} {o:Option Rat} (h:DO w lo x o) (k:EO w lo2 y o) (hl:LO o) :
  Calls Tryz.prog 31 #[x.v,y.v] w fun e w'=>e=.returned (.bool true)/\Below w.heap.size w w':=by
 cases o with
 | some q =>
  have hl2:LQ q 900000:=hl;have h2:=qsameFrD (DF.k h) ((DF.k h).len hl2 zj) (EF.k k) ((EF.k k).len hl2 zj)
  rwa [decide_eq_true rfl] at h2
 | none=>rw[show x=Ko from h,show y=Ko from k];exact jgt w
theorem both_at {w:World} {x:PV} {P:List Tm} {ok okl:Bool} {x0 x1 x2 x3:FV} {l:Nat->Rat} {n k E kl:Nat} (hx:SA w x P ok n k E) (hl:LA w x0 x1 x2 x3 l okl kl)
  (hn:n<=1000000) (hE:E<=65535) (hk:(n+1)*(k+4*(E*kl+1)+1)<=900000) (hkl:kl<=900000) (hk9:k<=900000) :
  ∃ (o:Option Rat) (c:Int),LO o /\
   (∀ (W:World) (a:PV),SA W a P ok n k E->LA W x0 x1 x2 x3 l okl kl->Calls Tryz.prog 27 #[a.v,.agg #[.bool x0.t.s,.slice x0.t.a x0.t.n x0.t.c,.bool x0.l.s,.slice x0.l.a x0.l.n x0.l.c,.bool x1.t.s,.slice x1.t.a x1.t.n x1.t.c,.bool x1.l.s,.slice x1.l.a x1.l.n x1.l.c,.bool x2.t.s,.slice x2.t.a x2.t.n x2.t.c,.bool x2.l.s,.slice x2.l.a x2.l.n x2.l.c,.bool x3.t.s,.slice x3.t.a x3.t.n x3.t.c,.bool x3.l.s,.slice x3.l.a x3.l.n x3.l.c]] W fun e w'=>∃ z:FV,e=.returned (.tuple #[z.v,.int .i64 c])/\DO w' W.heap.size z o/\Below W.heap.size W w') /\
   ∀ (W:World) (a:PV),SA W a P ok n k E->LA W x0 x1 x2 x3 l okl kl->Calls Tryz.prog 29 #[a.v,.agg #[.bool x0.t.s,.slice x0.t.a x0.t.n x0.t.c,.bool x0.l.s,.slice x0.l.a x0.l.n x0.l.c,.bool x1.t.s,.slice x1.t.a x1.t.n x1.t.c,.bool x1.l.s,.slice x1.l.a x1.l.n x1.l.c,.bool x2.t.s,.slice x2.t.a x2.t.n x2.t.c,.bool x2.l.s,.slice x2.l.a x2.l.n x2.l.c,.bool x3.t.s,.slice x3.t.a x3.t.n x3.t.c,.bool x3.l.s,.slice x3.l.a x3.l.n x3.l.c]] W fun e w'=>∃ z:FV,e=.returned (.tuple #[z.v,.int .i64 c])/\EO w' W.heap.size z o/\Below W.heap.size W w':=by
 have hb:=hx.b
 cases ok with
 | false =>
  have hB:∀ {W:World} {a:PV},SA W a P false n k E->BP W a:=fun h=>by
   rcases h.h with ⟨h,-⟩ | ⟨-,h,-⟩
   ·cases h
   ·exact h
  exact⟨none,1,trivial,fun W a ha _=>(at_bad a x0 x1 x2 x3 W (hB ha) (by have:=ha.le;omega)).mono fun e w' ⟨h1,h2⟩=>⟨Ko,h1,rfl,h2⟩,
   fun W a ha _=>(rat_bad a x0 x1 x2 x3 W (hB ha) (by have:=ha.le;omega)).mono fun e w' ⟨h1,h2⟩=>⟨Ko,h1,rfl,h2⟩⟩
 | true =>
  have hK:∀ {W:World} {a:PV},SA W a P true n k E->KP W a P:=fun h=>by
   rcases h.h with ⟨-,h⟩ | ⟨h,-⟩
   ·exact h
   ·cases h
  cases okl with
  | false =>
   have hL:∀ {W:World},LA W x0 x1 x2 x3 l false kl->∃ oks:Nat->Bool,B4 W x0 x1 x2 x3 oks/\∃ i,i<4/\oks i=false:=fun h=>by
    rcases h with ⟨h,-⟩ | ⟨-,h⟩
    ·cases h
    ·exact h
   refine⟨none,1,trivial,fun W a ha h4=>?_,fun W a ha h4=>?_⟩
   ·obtain⟨oks,g1,g2⟩:=hL h4
    exact(at_lbad a x0 x1 x2 x3 W P oks (hK ha) (hb.lq hk9) (by have:=ha.le;omega) g1 g2).mono fun e w' ⟨h1,h2⟩=>⟨Ko,h1,rfl,h2⟩
   ·obtain⟨oks,g1,g2⟩:=hL h4
    exact(rat_lbad a x0 x1 x2 x3 W P oks (hK ha) (hb.lq hk9) (by have:=ha.le;omega) g1 g2).mono fun e w' ⟨h1,h2⟩=>⟨Ko,h1,rfl,h2⟩
  | true =>
   have hL:∀ {W:World},LA W x0 x1 x2 x3 l true kl->K4 W x0 x1 x2 x3 l/\∀ i,LQ (l i) kl:=fun h=>by
    rcases h with ⟨-,h⟩ | ⟨h,-⟩
    ·exact h
    ·cases h
   have hlq:=(hL hl).2
   exact⟨some (ev P (atM l)),0,(hb.at hlq).up hk,
    fun W a ha h4=>(pat (hK ha) hb (hL h4).1 hlq hn hE hk hkl).mono fun e w' ⟨y,h1,h2,h3⟩=>⟨y,h1,h2,h3⟩,
    fun W a ha h4=>(rat_k a P x0 x1 x2 x3 l n k E kl W (hK ha) hb (hL h4).1 hlq hn hE hk hkl).mono fun e w' ⟨y,h1,h2,h3⟩=>⟨y,h1,h2,h3⟩⟩
end Pol
end Go.Proofs.YtgkkbkoiaccmfaaGreatDoor
