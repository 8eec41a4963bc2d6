/-
  The walk of Div of the document's answer for limbs, for two numbers that may be, the second one not 0.
-/
import Derived.Test.YthacfgmdihcffaaGreatDoorPzTG
set_option linter.unusedSimpArgs false
set_option linter.unusedVariables false
set_option maxHeartbeats 16000000
set_option maxRecDepth 100000
open Go.Proofs.Tryz
namespace Go.Proofs.YthacfgmdihcffaaGreatDoor
namespace Limb
open Go.RowKit Go.Sort Go.FreshH
def DivF (w:World) (x y:Int) (e:Ending) (w':World):Prop :=
 ∃ aq cq ar cr,e=.returned (.tuple #[Jv (decide (x/y<0)) aq (Ja (x/y).natAbs) cq,Jv (decide (x%y<0)) ar (Ja (x%y).natAbs) cr,.int .i64 0]) /\
  Own 128 w' w.heap.size aq (Ja (x/y).natAbs) cq (dgi (x/y).natAbs)/\Own 128 w' w.heap.size ar (Ja (x%y).natAbs) cr (dgi (x%y).natAbs)/\Bl w w'
theorem ZN.numr {g:World} {b:Nat} {a:Option Addr} {h f c:Nat} {o:Nat->Int} (d:ZN g b a h f c o):Own 128 g b a (Ja c) f (dgi c):=XZ d.own d.dig d.sum
open Classical in
theorem Va (h c:Int) (Y N:Option Addr) (c1 c2:Nat) (v:World) (h1:Rd v Y (Ja h.natAbs) (dgi h.natAbs)) (bn:Ja h.natAbs<=10000000) (bK:Ja h.natAbs<=c1) (h2:Rd v N (Ja c.natAbs) (dgi c.natAbs)) (bo:Ja c.natAbs<=10000000) (aZ:Ja c.natAbs<=c2) (hz:c≠0) :
  Cl 228 #[Jv (decide (h<0)) Y (Ja h.natAbs) c1,Jv (decide (c<0)) N (Ja c.natAbs) c2] v (DivF v h c):=by
 obtain⟨N1,az⟩:=gn (Ja h.natAbs);obtain⟨B,ah⟩:=gn (Ja c.natAbs);obtain⟨s1,aC⟩:=gn (decide (h<0));obtain⟨s2,G⟩:=gn (decide (c<0))
 have bT:0<B:=by rw[ah];exact XX.2 Zo
 have a7:=JY h;have a8:=JY c;have HZ:=qh hz;rw[<- az,<- aC] at a7;rw[<- ah,<- G] at a8;rw[<- az] at h1 bn bK ⊢;rw[<- ah] at h2 bo aZ ⊢;rw[<- aC,<- G];have aE:=qh (λ(g:World) (f:Bl v g)=>Xz s1 Y N1 c1 (dgi h.natAbs) g (h1.below f) Zo);have aF:=qh (λ(g:World) (f:Bl v g)=>Xz s2 N B c2 (dgi c.natAbs) g (h2.below f) Zo);rw[decide_eq_true a7] at aE;rw[decide_eq_true a8] at aF;have HR:=qh<|And.intro h1 h2;have H:=qh<|And.intro (And.intro az ah) (And.intro aC G);have B1:=((((Bx.new v 30 (.bool s1) (.slice Y N1 c1)).alloc (.cells #[.bool s2,.slice N B c2] 30)).alloc (.cells #[.bool false,.slice none 0 0] 30)).alloc (.cells #[.bool false,.slice none 0 0] 30));have B2:=(((Bx.Zu v (.cells #[.bool s1,.slice Y N1 c1] 30) 30 (.bool s2) (.slice N B c2)).alloc (.cells #[.bool false,.slice none 0 0] 30)).alloc (.cells #[.bool false,.slice none 0 0] 30));have B3:=((Bx.new3 v (.cells #[.bool s1,.slice Y N1 c1] 30) (.cells #[.bool s2,.slice N B c2] 30) 30 (.bool false) (.slice none 0 0)).alloc (.cells #[.bool false,.slice none 0 0] 30));have B4:=(Bx.new4 v (.cells #[.bool s1,.slice Y N1 c1] 30) (.cells #[.bool s2,.slice N B c2] 30) (.cells #[.bool false,.slice none 0 0] 30) 30 (.bool false) (.slice none 0 0));clear a7 a8 h1 h2 az ah aC G hz;go_enter func228,ntmps228
 go_upto_region 1 with (fail)
 obtain⟨bQ,hW⟩:=gn ((((v.alloc (.cells #[.bool s1,.slice Y N1 c1] 30)).alloc (.cells #[.bool s2,.slice N B c2] 30)).alloc (.cells #[.bool false,.slice none 0 0] 30)).alloc (.cells #[.bool false,.slice none 0 0] 30));have G1:=qh ((zk.alloc (by go_size) _ |>.alloc (by go_size) _ |>.alloc (by go_size) _ |>.alloc (by go_size) _):Bl v ((((v.alloc (.cells #[.bool s1,.slice Y N1 c1] 30)).alloc (.cells #[.bool s2,.slice N B c2] 30)).alloc (.cells #[.bool false,.slice none 0 0] 30)).alloc (.cells #[.bool false,.slice none 0 0] 30)))
 have bi:v.heap.size+1+1+1+1=bQ.heap.size:=by rw[hW];simp
 rw[<- hW] at B1 B2 B3 B4 G1;rw[<- hW];clear hW;have bb:=qh B1;have av:=qh B2;have bC:=qh B3;have bD:=qh B4;have ax:=qh bi;clear B1 B2 B3 B4 bi
 have fb:=λ(g:World) (f:Bl bQ g)=>And.intro (bb.o.bl f) (And.intro (av.o.bl f) (And.intro (bC.o.bl f) (bD.o.bl f)))
 have FB:=qh fb;clear fb;obtain⟨x,y,z,A⟩:=bb.o.all;obtain⟨q,r,t,u⟩:=av.o.all;go_wp2_with fail
 refine(aE.o _ G1.o).mono ?_;rintro e w1 ⟨rfl,aU⟩;have ar:=FB.o _ aU;have l:=qh aU;clear x y z A q r t u aU;obtain⟨q,r,t,u⟩:=ar.2.1.all;clear ar;go_wp2_with fail
 refine(aF.o _ (G1.o.trans (l.o.mono G1.o.size))).mono ?_;rintro e w2 ⟨rfl,bj⟩;have l:=qk l bj;have ar:=FB.o _ l.o;clear q r t u bj aE aF;obtain⟨x,y,z,A⟩:=ar.1.all;obtain⟨q,r,t,u⟩:=ar.2.1.all;clear ar;have bR:decide ((B:Int)=0)=false:=zo Zo
 have bS:((B:Int)==0)=false:=by simp;omega
 have aS:=G1.o.trans (l.o.mono G1.o.size);have GO:=qh<|goes_any h.natAbs c.natAbs Y N N1 B c1 c2 w2 (HR.o.1.below aS) (HR.o.2.below aS) H.o.1.1 H.o.1.2 bn bo (Zh HZ);clear aS;go_wp2_with fail
 refine GO.o.mono ?_;rintro e w3 ⟨o1,K1,Z,p1,o2,K2,d2,p2,rfl,bf,bg,bI,bk⟩;have bF:=qh l.o.size;have l:=qk l bk;have n:=qh bf;have p:=qh bg;have ar:=FB.o _ l.o;clear bf bg bI bk GO x y z A q r t u;obtain⟨x,y,z,A⟩:=ar.1.all;obtain⟨q,r,t,u⟩:=ar.2.1.all;clear ar;obtain⟨sq,a5⟩:=gn (decide (q0 h c<0));obtain⟨sr,bv⟩:=gn (decide (r0 h c<0));obtain⟨C,aT⟩:=gn (Ja (h.natAbs/c.natAbs));obtain⟨D,bh⟩:=gn (Ja (h.natAbs%c.natAbs));have CQ:=qh<|Xk (!(s1==s2)) sq o1 K1 Z _ w2.heap.size p1 w3 n.o.own n.o.dig (by have:=n.o.le;omega) n.o.sum (by rw[H.o.2.1,H.o.2.2,a5];exact jil h c);rw[<- aT] at CQ;have i:=qh<|And.intro (And.intro a5 bv) (And.intro aT bh);clear a5 bv aT bh;go_wp2_with fail
 refine CQ.o.mono ?_;rintro e w4 ⟨rfl,aA⟩;have l:=qk l aA;have n:=qh<|n.o.below aA;have p:=qh<|p.o.below aA;have ar:=FB.o _ l.o;clear aA CQ x y z A q r t u;obtain⟨x,y,z,A⟩:=ar.1.all;clear ar
 go_upto_region 7 with (fail)
 have bH:=qh l.o.size;obtain⟨w5,aD⟩:=gn (w4.alloc (.cells #[.bool sq,.slice o1 C Z] 30));have aB:=Go.bq aD (zk.alloc zj _);have w:=qh (show Bx w5 w4.heap.size 30 (.bool sq) (.slice o1 C Z) by rw[aD];exact Bx.new w4 _ _ _);rw[<- aD];have l:=qk l aB;have n:=qh<|n.o.below aB;have p:=qh<|p.o.below aB;obtain⟨bq,aW⟩:=gn w4.heap.size;have bc:=qh (show bQ.heap.size<=bq by rw[aW];exact bH.o);rw[<- aW] at w ⊢;clear aB aD aW x y z A;have ar:=FB.o _ l.o;obtain⟨x,y,z,A⟩:=ar.1.all;clear ar;have CR:=qh<|Xk s1 sr o2 K2 d2 _ w2.heap.size p2 w5 p.o.own p.o.dig (by have:=p.o.le;omega) p.o.sum (by rw[H.o.2.1,i.o.1.2];exact jim h c);rw[<- i.o.2.2] at CR;go_wp2_with fail
 refine CR.o.mono ?_;rintro e w6 ⟨rfl,ai⟩;have l:=qk l ai;have n:=qh<|n.o.below ai;have p:=qh<|p.o.below ai;have w:=qh<|w.o.bl ai;clear ai CR x y z A
 go_upto_region 8 with (fail)
 obtain⟨be,hV⟩:=gn (w6.alloc (.cells #[.bool sr,.slice o2 D d2] 30));have aj:=Go.bq hV (zk.alloc zj _);have ab:=qh (show Bx be w6.heap.size 30 (.bool sr) (.slice o2 D d2) by rw[hV];exact Bx.new w6 _ _ _);rw[<- hV];have l:=qk l aj;have HQ:=qh<|n.o.below aj;have af:=qh<|p.o.below aj;have bt:=w.o.lt;have w:=qh<|w.o.bl aj;obtain⟨br,aY⟩:=gn w6.heap.size
 have aX:bq<br:=by rw[aY];exact bt
 clear bt;rw[<- aY] at ab ⊢;have bE:=qh aX;clear aj hV aY aX n p;have j:=qh<|FB.o _ l.o;have m:=qh<|G1.o.trans (l.o.mono G1.o.size);obtain⟨x,y,z,A⟩:=w.o.all;obtain⟨q,r,t,u⟩:=ab.o.all;obtain⟨aJ,aK,aL,aM⟩:=j.o.2.2.1.all;obtain⟨aN,aO,aP,aQ⟩:=j.o.2.2.2.all;have bA:=ax.o;have bm:=bc.o;have bJ:=bE.o;have bV:¬bq=v.heap.size+1+1:=Zo;have bW:¬bq=v.heap.size+1+1+1:=Zo;have bX:¬br=v.heap.size+1+1:=Zo;have bY:¬br=v.heap.size+1+1+1:=Zo;have bZ:¬v.heap.size+1+1=bq:=Zo;have b0:¬v.heap.size+1+1+1=bq:=Zo;have b1:¬v.heap.size+1+1=br:=Zo;have b2:¬v.heap.size+1+1+1=br:=Zo;clear bA bm bJ;by_cases ac:r0 h c<0
 ·have aR:sr=true:=i.o.1.2.trans (decide_eq_true ac);have DS:=qh<|jfl HZ.o ac;subst aR;clear ac;have OF:=qh<|Vp 1 be Zo Zo;go_wp2_with fail
  refine OF.o.mono ?_;rintro e w7 ⟨ay,cy,rfl,F,aV⟩;rw[show(1:Int).natAbs=1 from rfl] at F;have I:=qh F;have aw:=qh aV;have av:=qh<|j.o.2.1.below aV j.o.2.1.lt;clear F aV OF x y z A q r t u aJ aK aL aM aN aO aP aQ;obtain⟨q,r,t,u⟩:=av.o.all;obtain⟨O,hQ⟩:=gn (h/c);obtain⟨a9,hR⟩:=gn (h%c);have J:=qh<|And.intro hQ hR
  have bs:Jp sq C (dgi (h.natAbs/c.natAbs))=q0 h c:=by rw[i.o.1.1,i.o.2.1,<- jd1,Jl]
  have bu:Jp true D (dgi (h.natAbs%c.natAbs))=r0 h c:=by rw[i.o.1.2,i.o.2.2,<- jd2,Jl]
  have M:Jp false (Ja 1) (dgi 1)=1:=Jl 1
  have bB:Jp s2 B (dgi c.natAbs)=c:=by rw[H.o.2.2,H.o.1.2,Jl]
  have K:=qh<|And.intro (And.intro bs bu) (And.intro M bB);clear hQ hR bs bu M bB
  cases G:s2 with
  | true =>
   have X:c<0:=by
    have aa:=H.o.2.2;rw[G] at aa
    first | exact of_decide_eq_true aa.symm | exact of_decide_eq_false aa.symm
   subst G
   have eQ:Jp sq C (dgi (h.natAbs/c.natAbs))+Jp false (Ja 1) (dgi 1)=O:=by
    rw[K.o.1.1,K.o.2.1,J.o.1,DS.o.1]
    first | rw[if_pos X] | rw[if_neg X]
    try omega
   have eR:Jp true D (dgi (h.natAbs%c.natAbs))-Jp true B (dgi c.natAbs)=a9:=by
    rw[K.o.1.2,K.o.2.2,J.o.2,DS.o.2];omega
   have a0:C<=10000000:=by have:=JP (Nat.div_le_self h.natAbs c.natAbs);rw[<- i.o.2.1,<- H.o.1.1] at this;omega
   have a3:D<=10000000:=by have:=JP (Nat.le_of_lt (Nat.mod_lt h.natAbs (show 0<c.natAbs by have:=HZ.o;omega)));rw[<- i.o.2.2,<- H.o.1.2] at this;omega
   have a4:Ja 1<=1:=Xg Ze
   have M:Rd be o1 C (dgi (h.natAbs/c.natAbs)):=by rw[i.o.2.1];exact HQ.o.numr.rd
   have ao:Rd be o2 D (dgi (h.natAbs%c.natAbs)):=by rw[i.o.2.2];exact af.o.numr.rd
   have am:C<=Z:=by rw[i.o.2.1];exact HQ.o.numr.le
   have an:D<=d2:=by rw[i.o.2.2];exact af.o.numr.le
   have ak:=I.o.le;obtain⟨ad,U⟩:=gn (w7.alloc (.cells #[.bool false,.slice ay (Ja 1) cy] 30));have d:=Go.bq U (aw.o.alloc aw.o.size _);have aH:=qh (show Bx ad w7.heap.size 30 (.bool false) (.slice ay (Ja 1) cy) by rw[U];exact Bx.new w7 _ _ _)
   have aq:Own 128 ad be.heap.size ay (Ja 1) cy (dgi 1):=by rw[U];exact I.o.JD _
   have ag:=qh U;have P:=qh (λ(g:World) (f:Bl ad g)=>XL sq o1 C Z (dgi (h.natAbs/c.natAbs)) false ay (Ja 1) cy (dgi 1) g ((M.below d).below f) Zo am (aq.rd.below f) Zo ak);have Q:=qh (λ(g:World) (f:Bl ad g)=>Kt true o2 D d2 (dgi (h.natAbs%c.natAbs)) true N B c2 (dgi c.natAbs) g ((ao.below d).below f) Zo an (HR.o.2.below ((m.o.trans (d.mono m.o.size)).trans (f.mono (zm m.o.size d.size)))) Zo aZ);rw[eQ] at P;rw[eR] at Q;have HS:=qh (λ(g:World) (f:Bl ad g)=>And.intro (And.intro ((w.o.bl d).below f (w.o.bl d).lt) ((ab.o.bl d).below f (ab.o.bl d).lt)) (And.intro (aH.o.bl f) ((j.o.2.1.below d j.o.2.1.lt).below f (j.o.2.1.below d j.o.2.1.lt).lt)));have aG:=qh (λ(g:World) (f:Bl ad g)=>And.intro ((j.o.2.2.1.below d j.o.2.2.1.lt).below f (j.o.2.2.1.below d j.o.2.2.1.lt).lt) ((j.o.2.2.2.below d j.o.2.2.2.lt).below f (j.o.2.2.2.below d j.o.2.2.2.lt).lt));have S:=qh d;clear eQ eR a0 a3 a4 M ao am an ak U d aq X
   go_upto_region 12 with (fail)
   rw[<- ag.o];clear ag q r t u
   refine Ji 5 (JI [(2,Sp.made (λE:Option Addr × Nat=>Jv (decide (O<0)) E.1 (Ja O.natAbs) E.2) (λE g=>Own 128 g ad.heap.size E.1 (Ja O.natAbs) E.2 (dgi O.natAbs)))]) (λg=>Bl ad g) Zk Zk
    (Jb (Sp.Jf λE v g aa f=>aa.below f) Jh) (λ_ _ aa f=>aa.trans (f.mono aa.size)) (zk.drew) ?_
   simp only[zx,zy,zv,zw]
   iterate 2
    refine rdw (λg k=>by obtain⟨x0,x1,x2,x3⟩:=(HS.o _ k).1.1.all;obtain⟨x0,x1,x2,x3⟩:=(HS.o _ k).2.1.all;go_simp;try rfl) ?_
   (refine Jc rfl rfl (λg a6=>?_) ?_;· (have k:=Has.world a6;go_simp;((refine(P.o g k).mono ?_;rintro e bP ⟨a,bG,rfl,ho,f⟩;exact⟨_,rfl,⟨⟨a,bG,rfl⟩,⟨a,bG,rfl,ho.mono k.size⟩⟩,f⟩))))
   rintro _ ⟨E,rfl⟩
   conv=>arg 10;simp only[Act.put,zq0,zq1,zq2]
   iterate 2
    refine rdw (λg k=>by obtain⟨x0,x1,x2,x3⟩:=(HS.o _ k).1.2.all;obtain⟨x0,x1,x2,x3⟩:=(HS.o _ k).2.2.all;go_simp;try rfl) ?_
   refine Jn (λw8 V hF=>?_);have aI:=qh<|JU (T:=128) (b:=ad.heap.size) (s:=decide (O<0)) (L:=Ja O.natAbs) (o:=dgi O.natAbs) (x:=E) (hF 2);have A2:=qh<|Q.o w8 V;have R:=qh V;clear hF V P Q;go_wp2_with fail
   refine A2.o.mono ?_;rintro e w9 ⟨y9,c9,rfl,F,W⟩;have ae:=qh<|R.o.trans (W.mono R.o.size);have au:=qh<|aI.o.below W;have I:=qh F;have ba:=aG.o _ ae.o;have HM:=qh ba;clear F W A2;obtain⟨aJ,aK,aL,aM⟩:=ba.1.all;obtain⟨aN,aO,aP,aQ⟩:=ba.2.all;clear ba;go_wp2_with fail
   have bL:=R.o.size;have bM:=S.o.size;have bN:=l.o.size;have bO:=ax.o;have k3:=((HM.o.1.set (.bool (decide (O<0))) (.slice E.1 (Ja O.natAbs) E.2)).other (a:=⟨v.heap.size+1+1+1,0,none⟩) Zd (.bool (decide (a9<0)))).other (a:=⟨v.heap.size+1+1+1,1,none⟩) Zd (.slice y9 (Ja a9.natAbs) c9);have k4:=((HM.o.2.other (a:=⟨v.heap.size+1+1,0,none⟩) Zd (.bool (decide (O<0)))).other (a:=⟨v.heap.size+1+1,1,none⟩) Zd (.slice E.1 (Ja O.natAbs) E.2)).set (.bool (decide (a9<0))) (.slice y9 (Ja a9.natAbs) c9);refine bodyPost_ret (Zg rfl _ _ _ _ _ _ _ _ _ _ _ rfl k3 rfl k4 underlying30 rfl Zk Zk) rfl ?_;unfold DivF;rw[<- J.o.1,<- J.o.2];refine⟨E.1,E.2,y9,c9,rfl,?_,?_,?_⟩
   ·exact((((au.o.oz).oz).oz).oz).mono Zo
   ·exact((((I.o.oz).oz).oz).oz).mono Zo
   ·have aa:=(m.o.trans (S.o.mono m.o.size)).trans (ae.o.mono (zm m.o.size S.o.size))
    exact(((aa.sc).sc).sc).sc
  | false =>
   have X:¬c<0:=by
    have aa:=H.o.2.2;rw[G] at aa
    first | exact of_decide_eq_true aa.symm | exact of_decide_eq_false aa.symm
   subst G
   have eQ:Jp sq C (dgi (h.natAbs/c.natAbs))-Jp false (Ja 1) (dgi 1)=O:=by
    rw[K.o.1.1,K.o.2.1,J.o.1,DS.o.1]
    first | rw[if_pos X] | rw[if_neg X]
    try omega
   have eR:Jp true D (dgi (h.natAbs%c.natAbs))+Jp false B (dgi c.natAbs)=a9:=by
    rw[K.o.1.2,K.o.2.2,J.o.2,DS.o.2];omega
   have a0:C<=10000000:=by have:=JP (Nat.div_le_self h.natAbs c.natAbs);rw[<- i.o.2.1,<- H.o.1.1] at this;omega
   have a3:D<=10000000:=by have:=JP (Nat.le_of_lt (Nat.mod_lt h.natAbs (show 0<c.natAbs by have:=HZ.o;omega)));rw[<- i.o.2.2,<- H.o.1.2] at this;omega
   have a4:Ja 1<=1:=Xg Ze
   have M:Rd be o1 C (dgi (h.natAbs/c.natAbs)):=by rw[i.o.2.1];exact HQ.o.numr.rd
   have ao:Rd be o2 D (dgi (h.natAbs%c.natAbs)):=by rw[i.o.2.2];exact af.o.numr.rd
   have am:C<=Z:=by rw[i.o.2.1];exact HQ.o.numr.le
   have an:D<=d2:=by rw[i.o.2.2];exact af.o.numr.le
   have ak:=I.o.le;obtain⟨ad,U⟩:=gn (w7.alloc (.cells #[.bool false,.slice ay (Ja 1) cy] 30));have d:=Go.bq U (aw.o.alloc aw.o.size _);have aH:=qh (show Bx ad w7.heap.size 30 (.bool false) (.slice ay (Ja 1) cy) by rw[U];exact Bx.new w7 _ _ _)
   have aq:Own 128 ad be.heap.size ay (Ja 1) cy (dgi 1):=by rw[U];exact I.o.JD _
   have ag:=qh U;have P:=qh (λ(g:World) (f:Bl ad g)=>Kt sq o1 C Z (dgi (h.natAbs/c.natAbs)) false ay (Ja 1) cy (dgi 1) g ((M.below d).below f) Zo am (aq.rd.below f) Zo ak);have Q:=qh (λ(g:World) (f:Bl ad g)=>XL true o2 D d2 (dgi (h.natAbs%c.natAbs)) false N B c2 (dgi c.natAbs) g ((ao.below d).below f) Zo an (HR.o.2.below ((m.o.trans (d.mono m.o.size)).trans (f.mono (zm m.o.size d.size)))) Zo aZ);rw[eQ] at P;rw[eR] at Q;have HS:=qh (λ(g:World) (f:Bl ad g)=>And.intro (And.intro ((w.o.bl d).below f (w.o.bl d).lt) ((ab.o.bl d).below f (ab.o.bl d).lt)) (And.intro (aH.o.bl f) ((j.o.2.1.below d j.o.2.1.lt).below f (j.o.2.1.below d j.o.2.1.lt).lt)));have aG:=qh (λ(g:World) (f:Bl ad g)=>And.intro ((j.o.2.2.1.below d j.o.2.2.1.lt).below f (j.o.2.2.1.below d j.o.2.2.1.lt).lt) ((j.o.2.2.2.below d j.o.2.2.2.lt).below f (j.o.2.2.2.below d j.o.2.2.2.lt).lt));have S:=qh d;clear eQ eR a0 a3 a4 M ao am an ak U d aq X
   go_upto_region 13 with (fail)
   rw[<- ag.o];clear ag q r t u
   refine Ji 5 (JI [(2,Sp.made (λE:Option Addr × Nat=>Jv (decide (O<0)) E.1 (Ja O.natAbs) E.2) (λE g=>Own 128 g ad.heap.size E.1 (Ja O.natAbs) E.2 (dgi O.natAbs)))]) (λg=>Bl ad g) Zk Zk
    (Jb (Sp.Jf λE v g aa f=>aa.below f) Jh) (λ_ _ aa f=>aa.trans (f.mono aa.size)) (zk.drew) ?_
   simp only[zx,zy,zv,zw]
   iterate 2
    refine rdw (λg k=>by obtain⟨x0,x1,x2,x3⟩:=(HS.o _ k).1.1.all;obtain⟨x0,x1,x2,x3⟩:=(HS.o _ k).2.1.all;go_simp;try rfl) ?_
   (refine Jc rfl rfl (λg a6=>?_) ?_;· (have k:=Has.world a6;go_simp;((refine(P.o g k).mono ?_;rintro e bP ⟨a,bG,rfl,ho,f⟩;exact⟨_,rfl,⟨⟨a,bG,rfl⟩,⟨a,bG,rfl,ho.mono k.size⟩⟩,f⟩))))
   rintro _ ⟨E,rfl⟩
   conv=>arg 10;simp only[Act.put,zq0,zq1,zq2]
   iterate 2
    refine rdw (λg k=>by obtain⟨x0,x1,x2,x3⟩:=(HS.o _ k).1.2.all;obtain⟨x0,x1,x2,x3⟩:=(HS.o _ k).2.2.all;go_simp;try rfl) ?_
   refine Jn (λw8 V hF=>?_);have aI:=qh<|JU (T:=128) (b:=ad.heap.size) (s:=decide (O<0)) (L:=Ja O.natAbs) (o:=dgi O.natAbs) (x:=E) (hF 2);have A2:=qh<|Q.o w8 V;have R:=qh V;clear hF V P Q;go_wp2_with fail
   refine A2.o.mono ?_;rintro e w9 ⟨y9,c9,rfl,F,W⟩;have ae:=qh<|R.o.trans (W.mono R.o.size);have au:=qh<|aI.o.below W;have I:=qh F;have ba:=aG.o _ ae.o;have HM:=qh ba;clear F W A2;obtain⟨aJ,aK,aL,aM⟩:=ba.1.all;obtain⟨aN,aO,aP,aQ⟩:=ba.2.all;clear ba;go_wp2_with fail
   have bL:=R.o.size;have bM:=S.o.size;have bN:=l.o.size;have bO:=ax.o;have k3:=((HM.o.1.set (.bool (decide (O<0))) (.slice E.1 (Ja O.natAbs) E.2)).other (a:=⟨v.heap.size+1+1+1,0,none⟩) Zd (.bool (decide (a9<0)))).other (a:=⟨v.heap.size+1+1+1,1,none⟩) Zd (.slice y9 (Ja a9.natAbs) c9);have k4:=((HM.o.2.other (a:=⟨v.heap.size+1+1,0,none⟩) Zd (.bool (decide (O<0)))).other (a:=⟨v.heap.size+1+1,1,none⟩) Zd (.slice E.1 (Ja O.natAbs) E.2)).set (.bool (decide (a9<0))) (.slice y9 (Ja a9.natAbs) c9);refine bodyPost_ret (Zg rfl _ _ _ _ _ _ _ _ _ _ _ rfl k3 rfl k4 underlying30 rfl Zk Zk) rfl ?_;unfold DivF;rw[<- J.o.1,<- J.o.2];refine⟨E.1,E.2,y9,c9,rfl,?_,?_,?_⟩
   ·exact((((au.o.oz).oz).oz).oz).mono Zo
   ·exact((((I.o.oz).oz).oz).oz).mono Zo
   ·have aa:=(m.o.trans (S.o.mono m.o.size)).trans (ae.o.mono (zm m.o.size S.o.size));exact(((aa.sc).sc).sc).sc
 ·have aR:sr=false:=i.o.1.2.trans (zo ac);have DP:=qh<|jbw HZ.o ac;subst aR;clear ac
  go_upto_region 9 with (fail)
  go_region;go_wp2_with fail
  have bA:=ax.o;have bU:=bF.o;have bm:=bc.o
  have e1:(h/c).natAbs=h.natAbs/c.natAbs:=by rw[DP.o.1,jd1]
  have e2:(h%c).natAbs=h.natAbs%c.natAbs:=by rw[DP.o.2,jd2]
  have k3:=((j.o.2.2.1.set (.bool sq) (.slice o1 C Z)).other (a:=⟨v.heap.size+1+1+1,0,none⟩) Zd (.bool false)).other (a:=⟨v.heap.size+1+1+1,1,none⟩) Zd (.slice o2 D d2);have k4:=((j.o.2.2.2.other (a:=⟨v.heap.size+1+1,0,none⟩) Zd (.bool sq)).other (a:=⟨v.heap.size+1+1,1,none⟩) Zd (.slice o1 C Z)).set (.bool false) (.slice o2 D d2);refine bodyPost_ret (Zg rfl _ _ _ _ _ _ _ _ _ _ _ rfl k3 rfl k4 underlying30 rfl Zk Zk) rfl ⟨o1,Z,o2,d2,?_,?_,?_,?_⟩
  ·rw[e1,e2,<- i.o.2.1,<- i.o.2.2,DP.o.1,DP.o.2,<- i.o.1.1,<- i.o.1.2];rfl
  ·rw[e1];exact((((((HQ.o.numr.oz).oz).oz).oz)).below zk.drew).mono Zo
  ·rw[e2];exact((((((af.o.numr.oz).oz).oz).oz)).below zk.drew).mono Zo
  ·exact((((m.o.sc).sc).sc).sc).drew
end Limb
end Go.Proofs.YthacfgmdihcffaaGreatDoor
