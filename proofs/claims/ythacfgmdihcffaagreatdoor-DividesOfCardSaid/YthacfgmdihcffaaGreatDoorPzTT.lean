/-
  Sums that stand twice in what is divided by: the second ones take nothing.
-/
import Derived.Test.YthacfgmdihcffaaGreatDoorPzTS
set_option linter.unusedSimpArgs false
set_option linter.unusedVariables false
set_option maxHeartbeats 16000000
set_option maxRecDepth 100000
open Go.Proofs.Tryz
namespace Go.Proofs.YthacfgmdihcffaaGreatDoor
namespace Pol
open Go.RowKit Go.Sort Limb
variable {w w' w0:World} {lo n:Nat} {o o1 o2 p:Nat->Int}
theorem jct {b:Nat} {a:TypeId} {g:List Value} {row:TypeId->Bool} (f:Bxs w b a g) (c:∀ (b:Nat) (h:Array Value) (a:TypeId),w.heap[b]?=some (.cells h a (0,0))->row a=true->w'.heap[b]?=w.heap[b]?) (d:row a=true):Bxs w' b a g:=(c b _ a f d).trans f
def lenV:Value->Nat
 | .slice _ n _=>n
 | _=>0
theorem KP.cons {a:Option Addr} {t:Nat} {A:List Tm} (z:KP w ⟨a,n,t⟩ A) (K:0<n):∃ (q:TV) (J:Rat) (b o:Nat) (s:List Tm),a=some ⟨b,o,none⟩/\A=(q.m,J) :: s/\RE w b o 0 q/\KF w q.c J/\KP w ⟨if t=1 then some ⟨b,o,none⟩ else some ⟨b,o+8,none⟩,n-1,t-1⟩ s:=by
 obtain⟨G,j,c,d,g⟩:=z.ex;have c:G.length=n:=c
 match G,j,c,d,g with
 | [],_,c,_,_=>simp at c;omega
 | e :: r,j,c,d,g =>
  obtain⟨b,o,B,k⟩:=(show RT w a ((e :: r).map Prod.fst) from j).ex (by simp);have I:n<=t:=z.le;have h:Canon A:=z.canon;have i:=z.small;rw[<- g] at h i;have m:(e :: r).length=n:=c;rw[List.length_cons] at m;refine⟨e.1,e.2,b,o,r.map tm,B,g.symm,⟨block_lt_of_cell (k 0 e.1 rfl 0 _ rfl),λy v l=>k 0 e.1 rfl y v l⟩,d e (List.mem_cons_self ..),⟨r,⟨λx=>⟨b,o+8,?_,λF q D y v l=>?_⟩⟩,?_,λf C=>d f (List.mem_cons_of_mem _ C),rfl⟩,?_,h.tail,λq E=>i q (List.mem_cons_of_mem _ E)⟩
  ·refine if_neg λH=>x ?_
   have:r.length=0:=Zo;rw[List.length_eq_zero_iff.1 this];rfl
  ·have u:=k (F+1) q (by simpa using D) y v l;rw[show o+(F+1)*8+y=o+8+F*8+y by omega] at u;exact u
  ·show r.length=n-1;omega
  ·show n-1<=t-1;omega
theorem jlc {g h:List Tm} (c:∀ b∈g,b.1.Small) (d:∀ b∈h,b.1.Small):∀ b∈Qv g h,b.1.Small:=λb f=>by
 rcases Vd f with ⟨v,a,e⟩ | ⟨v,a,e⟩
 ·rw[<- e];exact c v a
 ·rw[<- e];exact d v a
theorem key_lt0 {a b:Mo} (c:a.Small) (d:b.Small) (f:a.lt b):Mono.Js (JN 0 a) (JN 0 b) = -1:=Mono.JK ((U3 c d).1 f)
theorem key_gt0 {a b:Mo} (c:a.Small) (d:b.Small) (f:b.lt a):Mono.Js (JN 0 a) (JN 0 b)=1:=Mono.JS ((U3 d c).1 f)
theorem XL (x y:PV) (bC bk:List Tm) (w:World) (hx:AP w x bC) (hy:AP w y bk) (hp:∀ u∈bC,LQ u.2 400000) (hq:∀ u∈bk,LQ u.2 400000) (bM:x.n<=400000000) (bO:y.n<=400000000) :
  Cl 95 #[x.v,y.v] w λe w'=>∃ z:PV,e=.returned z.v/\EP w' w.heap.size z (Qv bC bk)/\Bl w w':=by
 obtain⟨⟨x1,n1,c1⟩,ba,bL,bD⟩:=ja8 hx (λu ht=>(hp u ht).up Zo) Zo;obtain⟨⟨y1,n2,c2⟩,bb,bN,bE⟩:=ja8 hy (λu ht=>(hq u ht).up Zo) Zo;obtain⟨xa,F,V⟩:=x;obtain⟨ya,C,O⟩:=y;have CX:=qh<|bD w zk;have bo:=qh bE;have HX:=qh ba;have HY:=qh bb;have bP:=qh hp;have bs:=qh hq;have bu:=qh (show ∀ u∈bC,u.1.Small from ba.small);have bv:=qh (show ∀ u∈bk,u.1.Small from bb.small);have bS:=qh<|show n1<=400000000 from zm bL bM;have bT:=qh<|show n2<=400000000 from zm bN bO;obtain⟨nn,bI⟩:=gn (n1+n2);have bU:=qh bI;have az:=qh (show nn<=800000000 by have:=bS.o;have:=bT.o;omega);clear hx hy hp hq bM bO ba bb bL bN bD bE bI;change Cl 95 #[.slice xa F V,.slice ya C O] w _;go_enter func95,ntmps95;go_wp2_with fail
 with_reducible refine CX.o.mono ?_
 rintro e w1 ⟨he,a⟩;obtain rfl:e=.returned (.slice x1 n1 c1):=he;have CY:=qh<|bo.o w1 a;have A:=qh a;clear a CX bo;go_wp2_with fail
 with_reducible refine CY.o.mono ?_
 rintro e cc ⟨he,a⟩;obtain rfl:e=.returned (.slice y1 n2 c2):=he;have A:=qk A a;have bR:=qh A.o.size;clear a CY;go_wp2;go_loopw [0,1,5] (λp W o wr=>∃ (P' Y:List Tm) (x y z:PV) (ax:List TE),p=x.v/\W=y.v/\o=z.v/\KP w x P'/\KP w y Y/\(∀ u∈P',u∈bC)/\(∀ u∈Y,u∈bk)/\ER wr cc.heap.size z.v ax/\ax.map tm++Qv P' Y=Qv bC bk/\ax.length+x.n+y.n<=nn/\Bl cc wr) (λp W _ _=>lenV p+lenV W)
 case atStart=>exact⟨bC,bk,⟨x1,n1,c1⟩,⟨y1,n2,c2⟩,⟨none,0,0⟩,[],rfl,rfl,rfl,HX.o,HY.o,λ_ f=>f,λ_ f=>f,ER.nil,rfl,by have:=bU.o;show 0+n1+n2<=nn;omega,zk⟩
 case round =>
  obtain⟨P',Y,⟨xa,F,V⟩,⟨ya,C,O⟩,⟨oa,on,oc⟩,ax,b0,b1,U,a5,a6,bG,bH,bF,a3,bJ,a4⟩:=hrel;obtain rfl:_=Value.slice xa F V:=b0;obtain rfl:_=Value.slice ya C O:=b1;obtain rfl:_=Value.slice oa on oc:=U;have ae:=qh a5;have P:=qh a6;have ao:=qh bG;have ak:=qh bH;have B:=qh bF;have X:=qh a3;have R:=qh<|show ax.length+F+C<=nn from bJ;have D:=qh<|show Bt cc wr from⟨a4⟩;have A:=qk A a4;have bV:=qh<|show F=P'.length from a5.len;have bB:=qh<|show C=Y.length from a6.len;clear a5 a6 bG bH bF a3 bJ a4;by_cases aF:F=0
  ·have bA:=qh<|show P'=[] from List.length_eq_zero_iff.1 (by rw[<- bV.o];exact aF);have a9:¬((F:Int)>0):=Zo;have b2:¬((0:Int)<(F:Int)):=a9;have b3:(F:Int)=0:=Zo;by_cases ag:C=0
   ·have aG:¬((C:Int)>0):=Zo;have b4:¬((0:Int)<(C:Int)):=aG;have aZ:=qh<|show Y=[] from List.length_eq_zero_iff.1 (by rw[<- bB.o];exact ag);clear aF ag;go_wp2;go_ret;refine⟨⟨oa,on,oc⟩,rfl,⟨⟨ax,B.o.mono bR.o,?_⟩,JL _ _,jlc bu.o bv.o⟩,A.o⟩;have f:=X.o;rw[bA.o,aZ.o,jkp Canon.nil,List.append_nil] at f;exact f
   ·have I:=qh<|Nat.pos_of_ne_zero ag;obtain⟨E,r,qb,qo,Q2,rfl,aq,S,L,aE⟩:=P.o.cons I.o;have aG:(C:Int)>0:=Zh I;have b4:(0:Int)<(C:Int):=aG;have b5:(1:Int)<=(C:Int):=Zh I
    have b6:(C:Int)<=(O:Int):=by have f:C<=O:=P.o.le;omega
    have b7:1<=C:=I.o;have b8:C<=O:=P.o.le;have b9:0<C:=I.o;have J:=qh aq;have aN:=qh S;have aA:=qh aE;have E2:=qh<|S.below A.o;have NG:=qh<|L.below A.o;have aJ:=qh<|show(E.m,r)∈bk from ak.o _ (by rw[aq];exact List.mem_cons_self ..);have av:=qh<|show LQ r 400000 from bs.o _ aJ.o;have ay:=qh<|show LQ r 900000 from av.o.up Zo;have aI:=qh<|show LF E.c 900000 from L.len ay.o zj;have aK:=qh L;have an:=qh (show Qv P' Y=(E.m,r) :: Qv P' Q2 by rw[bA.o,J.o];exact merge_lt (J.o▸P.o.canon) λ_ f=>(by cases f));clear aF ag aq S L aE
    go_upto_region 21 with (fail)
    have af:=qh D.o.b.size
    go_upto_region 21 with (fail)
    refine FS.Jd 12 [] (FS.JI [(5,FS.Sp.made (λx:FV=>x.v) (λx w'=>EF w' wr.heap.size x r) FV.blk),(11,FS.Sp.made (λb:Nat=>Value.slice (some ⟨b,0,none⟩) 1 1) (λb w'=>Zb w' wr.heap.size b E.m r) (λ_ _=>False))])
     (λw'=>Bl wr w') Zk Zk Zk
     (FS.Jb (FS.Sp.Jf _ (λ_ _ _ f _ hk=>f.kept hk) (FS.JG Zk)) (FS.Jb (FS.Sp.Qf _ jcs (λ_ _ _ f hs=>f.rows hs) Zk (FS.JG Zk)) (FS.Jh))) (λ_ _ f a=>f.trans (a.mono f.size)) (zk.drew) ?_
    simp only[zu,zi,ze,zx,zy,zv,zw]
    iterate 5
     refine FS.rdw (λw' d=>by obtain⟨g,h,i,j,k,l,q,s⟩:=(E2.o.below d).eight;simp only[Nat.zero_mul,Nat.add_zero] at g h i j k l q s;go_simp;try rfl) ?_
    refine FS.Jc rfl rfl rfl (λw' t=>?_) ?_
    ·have d:=t.world;refine FS.Jm (FS.PM (λx:FV=>x.v) (λx w'=>EF w' wr.heap.size x r) FV.blk w'.heap.size) ?_ (λ_ _ f=>f.post (λ_ _=>FV.inj));go_simp;have Q:=(show Cl 38 #[.agg #[.bool E.c.t.s,.slice E.c.t.a E.c.t.n E.c.t.c,.bool E.c.l.s,.slice E.c.l.a E.c.l.n E.c.l.c]] w' _ from ja9 (c:=E.c) (NG.o.below d).any aI.o ay.o);refine Q.mono ?_;rintro e ar ⟨za,rfl,U,a⟩;exact⟨_,rfl,⟨za,rfl,U.mono d.size,U.QV⟩,a⟩
    rintro _ ⟨y5,rfl⟩
    conv=>arg 10;simp only[Act.put,zq0,zq1,zq2]
    iterate 5
     refine FS.rdw (λw' d=>by obtain⟨g,h,i,j,k,l,q,s⟩:=(E2.o.below d).eight;simp only[Nat.zero_mul,Nat.add_zero] at g h i j k l q s;go_simp;try rfl) ?_
    refine FS.Jc rfl rfl rfl (λw' t=>?_) ?_
    ·have d:=t.world;refine FS.Jm (FS.PM (λb:Nat=>Value.slice (some ⟨b,0,none⟩) 1 1) (λb w'=>Zb w' wr.heap.size b E.m r) (λ_ _=>False) w'.heap.size) ?_ (λ_ _ f=>f.post (λ_ _ f=>by cases f;rfl));go_simp;have f5:=FS.JQ (val:=(λx:FV=>x.v)) (Φ:=λx w'=>EF w' wr.heap.size x r) (λ_ _=>FV.inj) (t.jdz 10 5 Zk Zk);exact⟨⟨w'.heap.size,rfl,⟨⟨y5,Bxs.new w' _ (TV.cells ⟨y5,E.m⟩),f5.alloc _⟩⟩,λ_ f=>False.elim f⟩,zk.alloc zj _⟩
    rintro _ ⟨bc,rfl⟩
    conv=>arg 10;simp only[Act.put,zq0,zq1,zq2]
    refine FS.Jn (λcg a hF=>?_);obtain⟨⟨aQ,hB,hE⟩⟩:=FS.JQ (val:=(λb:Nat=>Value.slice (some ⟨b,0,none⟩) 1 1)) (Φ:=λb w'=>Zb w' wr.heap.size b E.m r) (λ_ _ f=>by cases f;rfl) (hF.all 11);have be:=qh hB;have bh:=qh hE;clear hB hE hF;have NG:=qh<|NG.o.below a;have B:=qh<|B.o.below a;have D:=qh<|D.o.below a;have A:=qk A a;clear a;go_wp2_with (first | (at_builtin;refine QK (t:=⟨aQ,E.m⟩) rfl _ _ rfl rfl B.o (Zi R az) D.o.b.size rfl be.o (bh.o.mono af.o) rfl ?_))
    intro z9 w9 G K;obtain⟨ah,aj,ai⟩:=z9;have ac:=qh G;have ad:=qh K;clear G K;go_wp2;go_roundw
    case rel =>
     refine⟨P',Q2,⟨xa,F,V⟩,⟨if O=1 then some ⟨qb,qo,none⟩ else some ⟨qb,qo+8,none⟩,C-1,O-1⟩,⟨ah,aj,ai⟩,ax++[(⟨aQ,E.m⟩,r)],rfl,rfl,rfl,ae.o,aA.o,ao.o,λv Z=>ak.o v (by rw[J.o];exact List.mem_cons_of_mem _ Z),ac.o,?_,?_,D.o.b.trans ad.o⟩
     ·rw[List.map_append,List.append_assoc,<- X.o];refine congrArg _ ?_;rw[an.o];rfl
     ·rw[List.length_append,List.length_singleton];have:=R.o;have:=I.o;show ax.length+1+F+(C-1)<=nn;omega
    case measure=>simp[lenV];have:=I.o;omega
  ·have N:=qh<|Nat.pos_of_ne_zero aF;obtain⟨u,W,pb,po,P2,rfl,a7,S,L,bK⟩:=ae.o.cons N.o;have a9:(F:Int)>0:=Zh N;have b2:(0:Int)<(F:Int):=a9;have b3:¬((F:Int)=0):=Zo;have cl:(1:Int)<=(F:Int):=Zh N
   have cm:(F:Int)<=(V:Int):=by have f:F<=V:=ae.o.le;omega
   have cn:1<=F:=N.o;have co:F<=V:=ae.o.le;have cp:0<F:=N.o;have M:=qh a7;have aM:=qh S;have aL:=qh bK;have E1:=qh<|S.below A.o;have NF:=qh<|L.below A.o;have bt:=qh<|show(u.m,W)∈bC from ao.o _ (by rw[a7];exact List.mem_cons_self ..);have aW:=qh<|show LQ W 400000 from bP.o _ bt.o;have aV:=qh<|show LQ W 900000 from aW.o.up Zo;have aU:=qh<|show LF u.c 900000 from L.len aV.o zj;have aB:=qh<|show u.m.Small from bu.o _ bt.o;have aX:=qh L;clear aF a7 S L bK;by_cases ag:C=0
   ·have aG:(C:Int)=0:=Zo;have aZ:=qh<|show Y=[] from List.length_eq_zero_iff.1 (by rw[<- bB.o];exact ag);have an:=qh (show Qv P' Y=(u.m,W) :: Qv P2 Y by rw[aZ.o,M.o];exact jf3 (M.o▸ae.o.canon) λ_ f=>(by cases f));clear ag
    go_upto_region 18 with (fail)
    have af:=qh D.o.b.size
    go_upto_region 18 with (fail)
    refine FS.Jd 12 [] (FS.JI [(5,FS.Sp.made (λx:FV=>x.v) (λx w'=>EF w' wr.heap.size x W) FV.blk),(11,FS.Sp.made (λb:Nat=>Value.slice (some ⟨b,0,none⟩) 1 1) (λb w'=>Zb w' wr.heap.size b u.m W) (λ_ _=>False))])
     (λw'=>Bl wr w') Zk Zk Zk
     (FS.Jb (FS.Sp.Jf _ (λ_ _ _ f _ hk=>f.kept hk) (FS.JG Zk)) (FS.Jb (FS.Sp.Qf _ jcs (λ_ _ _ f hs=>f.rows hs) Zk (FS.JG Zk)) (FS.Jh))) (λ_ _ f a=>f.trans (a.mono f.size)) (zk.drew) ?_
    simp only[zu,zi,ze,zx,zy,zv,zw]
    iterate 5
     refine FS.rdw (λw' d=>by obtain⟨g,h,i,j,k,l,q,s⟩:=(E1.o.below d).eight;simp only[Nat.zero_mul,Nat.add_zero] at g h i j k l q s;go_simp;try rfl) ?_
    refine FS.Jc rfl rfl rfl (λw' t=>?_) ?_
    ·have d:=t.world;refine FS.Jm (FS.PM (λx:FV=>x.v) (λx w'=>EF w' wr.heap.size x W) FV.blk w'.heap.size) ?_ (λ_ _ f=>f.post (λ_ _=>FV.inj));go_simp;have Q:=(show Cl 38 #[.agg #[.bool u.c.t.s,.slice u.c.t.a u.c.t.n u.c.t.c,.bool u.c.l.s,.slice u.c.l.a u.c.l.n u.c.l.c]] w' _ from ja9 (c:=u.c) (NF.o.below d).any aU.o aV.o);refine Q.mono ?_;rintro e ar ⟨za,rfl,U,a⟩;exact⟨_,rfl,⟨za,rfl,U.mono d.size,U.QV⟩,a⟩
    rintro _ ⟨y5,rfl⟩
    conv=>arg 10;simp only[Act.put,zq0,zq1,zq2]
    iterate 5
     refine FS.rdw (λw' d=>by obtain⟨g,h,i,j,k,l,q,s⟩:=(E1.o.below d).eight;simp only[Nat.zero_mul,Nat.add_zero] at g h i j k l q s;go_simp;try rfl) ?_
    refine FS.Jc rfl rfl rfl (λw' t=>?_) ?_
    ·have d:=t.world;refine FS.Jm (FS.PM (λb:Nat=>Value.slice (some ⟨b,0,none⟩) 1 1) (λb w'=>Zb w' wr.heap.size b u.m W) (λ_ _=>False) w'.heap.size) ?_ (λ_ _ f=>f.post (λ_ _ f=>by cases f;rfl));go_simp;have f5:=FS.JQ (val:=(λx:FV=>x.v)) (Φ:=λx w'=>EF w' wr.heap.size x W) (λ_ _=>FV.inj) (t.jdz 10 5 Zk Zk);exact⟨⟨w'.heap.size,rfl,⟨⟨y5,Bxs.new w' _ (TV.cells ⟨y5,u.m⟩),f5.alloc _⟩⟩,λ_ f=>False.elim f⟩,zk.alloc zj _⟩
    rintro _ ⟨bc,rfl⟩
    conv=>arg 10;simp only[Act.put,zq0,zq1,zq2]
    refine FS.Jn (λch a hF=>?_);obtain⟨⟨aR,hB,hE⟩⟩:=FS.JQ (val:=(λb:Nat=>Value.slice (some ⟨b,0,none⟩) 1 1)) (Φ:=λb w'=>Zb w' wr.heap.size b u.m W) (λ_ _ f=>by cases f;rfl) (hF.all 11);have bf:=qh hB;have bi:=qh hE;clear hB hE hF;have NF:=qh<|NF.o.below a;have B:=qh<|B.o.below a;have D:=qh<|D.o.below a;have A:=qk A a;clear a;go_wp2_with (first | (at_builtin;refine QK (t:=⟨aR,u.m⟩) rfl _ _ rfl rfl B.o (Zi R az) D.o.b.size rfl bf.o (bi.o.mono af.o) rfl ?_))
    intro z9 w9 G K;obtain⟨ah,aj,ai⟩:=z9;have ac:=qh G;have ad:=qh K;clear G K;go_wp2;go_roundw
    case rel =>
     refine⟨P2,Y,⟨if V=1 then some ⟨pb,po,none⟩ else some ⟨pb,po+8,none⟩,F-1,V-1⟩,⟨ya,C,O⟩,⟨ah,aj,ai⟩,ax++[(⟨aR,u.m⟩,W)],rfl,rfl,rfl,aL.o,P.o,λv Z=>ao.o v (by rw[M.o];exact List.mem_cons_of_mem _ Z),ak.o,ac.o,?_,?_,D.o.b.trans ad.o⟩
     ·rw[List.map_append,List.append_assoc,<- X.o];refine congrArg _ ?_;rw[an.o];rfl
     ·rw[List.length_append,List.length_singleton];have:=R.o;have:=N.o;show ax.length+1+(F-1)+C<=nn;omega
    case measure=>simp[lenV];have:=N.o;omega
   ·have I:=qh<|Nat.pos_of_ne_zero ag;obtain⟨E,r,qb,qo,Q2,rfl,aq,S,L,aE⟩:=P.o.cons I.o;have aG:¬((C:Int)=0):=Zh I;have b5:(1:Int)<=(C:Int):=Zh I
    have b6:(C:Int)<=(O:Int):=by have f:C<=O:=P.o.le;omega
    have b7:1<=C:=I.o;have b8:C<=O:=P.o.le;have b9:0<C:=I.o;have J:=qh aq;have aN:=qh S;have aA:=qh aE;have E2:=qh<|S.below A.o;have NG:=qh<|L.below A.o;have aJ:=qh<|show(E.m,r)∈bk from ak.o _ (by rw[aq];exact List.mem_cons_self ..);have av:=qh<|show LQ r 400000 from bs.o _ aJ.o;have ay:=qh<|show LQ r 900000 from av.o.up Zo;have aI:=qh<|show LF E.c 900000 from L.len ay.o zj;have aK:=qh L;have aC:=qh<|show E.m.Small from bv.o _ aJ.o;clear ag aq S L aE
    rcases Mo.jd4 u.m E.m with hc | hc | hc
    ·have HC:=qh<|key_lt0 aB.o aC.o hc;have an:=qh (show Qv P' Y=(E.m,r) :: Qv P' Q2 by rw[J.o,M.o];exact merge_lt (J.o▸P.o.canon) (ji8 (M.o▸ae.o.canon) hc));clear hc
     go_upto_region 10 with (fail)
     go_upto_region 10 with (fail)
     refine FS.Jd 9 [] (FS.JI [(8,FS.Sp.know (.int .i64 (-1)))])
      (λw'=>Bl wr w') Zk Zk Zk
      (FS.Jb (FS.Sp.Jk _ _) (FS.Jh)) (λ_ _ f a=>f.trans (a.mono f.size)) (zk.drew) ?_
     simp only[zu,zi,ze,zx,zy,zv,zw]
     iterate 8
      refine FS.rdw (λw' d=>by obtain⟨g,h,i,j,k,l,q,s⟩:=(E1.o.below d).eight;simp only[Nat.zero_mul,Nat.add_zero] at g h i j k l q s;obtain⟨g,h,i,j,k,l,q,s⟩:=(E2.o.below d).eight;simp only[Nat.zero_mul,Nat.add_zero] at g h i j k l q s;go_simp;try rfl) ?_
     refine FS.Jc rfl rfl rfl (λw' t=>?_) ?_
     ·have d:=t.world;refine FS.Jm (FS.PK (.int .i64 (-1))) ?_ (λ_ _ f=>f.post);go_simp;have Q:=(show Cl 37 #[.int .u8 0,.agg #[.int .u16 u.m.x,.int .u16 u.m.y,.int .u16 u.m.z,.int .u16 u.m.t],.agg #[.int .u16 E.m.x,.int .u16 E.m.y,.int .u16 E.m.z,.int .u16 E.m.t]] w' _ from jed 0 u.m E.m w' aB.o aC.o);rw[show Mono.Js (JN 0 u.m) (JN 0 E.m)=(-1) from HC.o] at Q;refine Q.mono ?_;rintro e ar ⟨rfl,a⟩;exact⟨_,rfl,rfl,a⟩
     rintro _ rfl
     conv=>arg 10;simp only[Act.put,zq0,zq1,zq2]
     refine FS.Jn (λab a hF=>?_);clear hF;have B:=qh<|B.o.below a;have D:=qh<|D.o.below a;have A:=qk A a;clear a;have E1:=qh<|aM.o.below A.o;have E2:=qh<|aN.o.below A.o;have NF:=qh<|aX.o.below A.o;have NG:=qh<|aK.o.below A.o
     go_upto_region 21 with (fail)
     have af:=qh D.o.b.size
     go_upto_region 21 with (fail)
     refine FS.Jd 12 [] (FS.JI [(5,FS.Sp.made (λx:FV=>x.v) (λx w'=>EF w' ab.heap.size x r) FV.blk),(11,FS.Sp.made (λb:Nat=>Value.slice (some ⟨b,0,none⟩) 1 1) (λb w'=>Zb w' ab.heap.size b E.m r) (λ_ _=>False))])
      (λw'=>Bl ab w') Zk Zk Zk
      (FS.Jb (FS.Sp.Jf _ (λ_ _ _ f _ hk=>f.kept hk) (FS.JG Zk)) (FS.Jb (FS.Sp.Qf _ jcs (λ_ _ _ f hs=>f.rows hs) Zk (FS.JG Zk)) (FS.Jh))) (λ_ _ f a=>f.trans (a.mono f.size)) (zk.drew) ?_
     simp only[zu,zi,ze,zx,zy,zv,zw]
     iterate 5
      refine FS.rdw (λw' d=>by obtain⟨g,h,i,j,k,l,q,s⟩:=(E2.o.below d).eight;simp only[Nat.zero_mul,Nat.add_zero] at g h i j k l q s;go_simp;try rfl) ?_
     refine FS.Jc rfl rfl rfl (λw' t=>?_) ?_
     ·have d:=t.world;refine FS.Jm (FS.PM (λx:FV=>x.v) (λx w'=>EF w' ab.heap.size x r) FV.blk w'.heap.size) ?_ (λ_ _ f=>f.post (λ_ _=>FV.inj));go_simp;have Q:=(show Cl 38 #[.agg #[.bool E.c.t.s,.slice E.c.t.a E.c.t.n E.c.t.c,.bool E.c.l.s,.slice E.c.l.a E.c.l.n E.c.l.c]] w' _ from ja9 (c:=E.c) (NG.o.below d).any aI.o ay.o);refine Q.mono ?_;rintro e ar ⟨za,rfl,U,a⟩;exact⟨_,rfl,⟨za,rfl,U.mono d.size,U.QV⟩,a⟩
     rintro _ ⟨y5,rfl⟩
     conv=>arg 10;simp only[Act.put,zq0,zq1,zq2]
     iterate 5
      refine FS.rdw (λw' d=>by obtain⟨g,h,i,j,k,l,q,s⟩:=(E2.o.below d).eight;simp only[Nat.zero_mul,Nat.add_zero] at g h i j k l q s;go_simp;try rfl) ?_
     refine FS.Jc rfl rfl rfl (λw' t=>?_) ?_
     ·have d:=t.world;refine FS.Jm (FS.PM (λb:Nat=>Value.slice (some ⟨b,0,none⟩) 1 1) (λb w'=>Zb w' ab.heap.size b E.m r) (λ_ _=>False) w'.heap.size) ?_ (λ_ _ f=>f.post (λ_ _ f=>by cases f;rfl));go_simp;have f5:=FS.JQ (val:=(λx:FV=>x.v)) (Φ:=λx w'=>EF w' ab.heap.size x r) (λ_ _=>FV.inj) (t.jdz 10 5 Zk Zk);exact⟨⟨w'.heap.size,rfl,⟨⟨y5,Bxs.new w' _ (TV.cells ⟨y5,E.m⟩),f5.alloc _⟩⟩,λ_ f=>False.elim f⟩,zk.alloc zj _⟩
     rintro _ ⟨bc,rfl⟩
     conv=>arg 10;simp only[Act.put,zq0,zq1,zq2]
     refine FS.Jn (λci a hF=>?_);obtain⟨⟨aS,hB,hE⟩⟩:=FS.JQ (val:=(λb:Nat=>Value.slice (some ⟨b,0,none⟩) 1 1)) (Φ:=λb w'=>Zb w' ab.heap.size b E.m r) (λ_ _ f=>by cases f;rfl) (hF.all 11);have bg:=qh hB;have bj:=qh hE;clear hB hE hF;have NG:=qh<|NG.o.below a;have B:=qh<|B.o.below a;have D:=qh<|D.o.below a;have A:=qk A a;clear a;go_wp2_with (first | (at_builtin;refine QK (t:=⟨aS,E.m⟩) rfl _ _ rfl rfl B.o (Zi R az) D.o.b.size rfl bg.o (bj.o.mono af.o) rfl ?_))
     intro z9 w9 G K;obtain⟨ah,aj,ai⟩:=z9;have ac:=qh G;have ad:=qh K;clear G K;go_wp2;go_roundw
     case rel =>
      refine⟨P',Q2,⟨some ⟨pb,po,none⟩,F,V⟩,⟨if O=1 then some ⟨qb,qo,none⟩ else some ⟨qb,qo+8,none⟩,C-1,O-1⟩,⟨ah,aj,ai⟩,ax++[(⟨aS,E.m⟩,r)],rfl,rfl,rfl,ae.o,aA.o,ao.o,λv Z=>ak.o v (by rw[J.o];exact List.mem_cons_of_mem _ Z),ac.o,?_,?_,D.o.b.trans ad.o⟩
      ·rw[List.map_append,List.append_assoc,<- X.o];refine congrArg _ ?_;rw[an.o];rfl
      ·rw[List.length_append,List.length_singleton];have:=R.o;have:=I.o;show ax.length+1+F+(C-1)<=nn;omega
     case measure=>simp[lenV];have:=I.o;omega
    ·have HC:=qh (show Mono.Js (JN 0 u.m) (JN 0 E.m)=0 by rw[hc];exact Mono.J7 rfl);have bn:=qh hc;clear hc
     go_upto_region 10 with (fail)
     go_upto_region 10 with (fail)
     refine FS.Jd 9 [] (FS.JI [(8,FS.Sp.know (.int .i64 0))])
      (λw'=>Bl wr w') Zk Zk Zk
      (FS.Jb (FS.Sp.Jk _ _) (FS.Jh)) (λ_ _ f a=>f.trans (a.mono f.size)) (zk.drew) ?_
     simp only[zu,zi,ze,zx,zy,zv,zw]
     iterate 8
      refine FS.rdw (λw' d=>by obtain⟨g,h,i,j,k,l,q,s⟩:=(E1.o.below d).eight;simp only[Nat.zero_mul,Nat.add_zero] at g h i j k l q s;obtain⟨g,h,i,j,k,l,q,s⟩:=(E2.o.below d).eight;simp only[Nat.zero_mul,Nat.add_zero] at g h i j k l q s;go_simp;try rfl) ?_
     refine FS.Jc rfl rfl rfl (λw' t=>?_) ?_
     ·have d:=t.world;refine FS.Jm (FS.PK (.int .i64 0)) ?_ (λ_ _ f=>f.post);go_simp;have Q:=(show Cl 37 #[.int .u8 0,.agg #[.int .u16 u.m.x,.int .u16 u.m.y,.int .u16 u.m.z,.int .u16 u.m.t],.agg #[.int .u16 E.m.x,.int .u16 E.m.y,.int .u16 E.m.z,.int .u16 E.m.t]] w' _ from jed 0 u.m E.m w' aB.o aC.o);rw[show Mono.Js (JN 0 u.m) (JN 0 E.m)=0 from HC.o] at Q;refine Q.mono ?_;rintro e ar ⟨rfl,a⟩;exact⟨_,rfl,rfl,a⟩
     rintro _ rfl
     conv=>arg 10;simp only[Act.put,zq0,zq1,zq2]
     refine FS.Jn (λT a hF=>?_);clear hF;have B:=qh<|B.o.below a;have D:=qh<|D.o.below a;have A:=qk A a;clear a;have E1:=qh<|aM.o.below A.o;have E2:=qh<|aN.o.below A.o;have NF:=qh<|aX.o.below A.o;have NG:=qh<|aK.o.below A.o
     go_upto_region 12 with (fail)
     have af:=qh D.o.b.size
     go_upto_region 12 with (fail)
     refine FS.Jd 10 [] (FS.JI [(8,FS.Sp.made (λx:FV=>x.v) (λx w'=>EF w' T.heap.size x (W+r)) FV.blk),(9,FS.Sp.box 32 4 T.heap.size)])
      (λw'=>Bl T w') Zk Zk Zk
      (FS.Jb (FS.Sp.Jf _ (λ_ _ _ f _ hk=>f.kept hk) (FS.JG Zk)) (FS.Jb (FS.Sp.XQ _ _ _ _) (FS.Jh))) (λ_ _ f a=>f.trans (a.mono f.size)) (zk.drew) ?_
     simp only[zu,zi,ze,zx,zy,zv,zw]
     iterate 8
      refine FS.rdw (λw' d=>by obtain⟨g,h,i,j,k,l,q,s⟩:=(E1.o.below d).eight;simp only[Nat.zero_mul,Nat.add_zero] at g h i j k l q s;obtain⟨g,h,i,j,k,l,q,s⟩:=(E2.o.below d).eight;simp only[Nat.zero_mul,Nat.add_zero] at g h i j k l q s;go_simp;try rfl) ?_
     refine FS.Jc rfl rfl rfl (λw' t=>?_) ?_
     ·have d:=t.world;refine FS.Jm (FS.PM (λx:FV=>x.v) (λx w'=>EF w' T.heap.size x (W+r)) FV.blk w'.heap.size) ?_ (λ_ _ f=>f.post (λ_ _=>FV.inj));go_simp;have Q:=(show Cl 156 #[.agg #[.bool u.c.t.s,.slice u.c.t.a u.c.t.n u.c.t.c,.bool u.c.l.s,.slice u.c.l.a u.c.l.n u.c.l.c],.agg #[.bool E.c.t.s,.slice E.c.t.a E.c.t.n E.c.t.c,.bool E.c.l.s,.slice E.c.l.a E.c.l.n E.c.l.c]] w' _ from raddV (x:=u.c) (y:=E.c) (NF.o.below d).any aU.o (NG.o.below d).any aI.o);refine Q.mono ?_;rintro e ar ⟨za,rfl,U,a⟩;exact⟨_,rfl,⟨za,rfl,U.mono d.size,U.QV⟩,a⟩
     rintro _ ⟨H,rfl⟩
     conv=>arg 10;simp only[Act.put,zq0,zq1,zq2]
     refine FS.Jc rfl rfl rfl (λw' t=>?_) ?_
     ·have d:=t.world;refine FS.Jm (FS.PB 32 4 T.heap.size w'.heap.size) ?_ (λ_ _ f=>f.post);go_simp;exact⟨FS.PB.new _ rfl d.size,zk.alloc zj _⟩
     rintro _ ⟨y9,rfl⟩
     conv=>arg 10;simp only[Act.put,zq0,zq1,zq2]
     refine FS.Jn (λaP a hF=>?_);have aw:=qh<|show EF aP T.heap.size H (W+r) from(FS.JQ (val:=(λx:FV=>x.v)) (Φ:=λx w'=>EF w' T.heap.size x (W+r)) (λ_ _=>FV.inj) (hF.all 8));have HX:=qh<|FS.Yd (hF.all 9);have bm:=qh a;clear hF a;obtain⟨c0,c1,c2,c3,hB⟩:=shp4 HX.o.1;have am:=qh hB;clear hB;obtain⟨m0,m1,m2,m3,mf,ml⟩:=am.o.d4
     go_upto_region 13 with (fail)
     obtain⟨aO,hV⟩:=gn ((((aP.setCell ⟨y9,0,none⟩ (.bool H.t.s)).setCell ⟨y9,1,none⟩ (.slice H.t.a H.t.n H.t.c)).setCell ⟨y9,2,none⟩ (.bool H.l.s)).setCell ⟨y9,3,none⟩ (.slice H.l.a H.l.n H.l.c));have aD:=bq hV ((((bm.o.setCell HX.o.2 _).setCell HX.o.2 _).setCell HX.o.2 _).setCell HX.o.2 _);have aT:=qh<|bw hV ((((am.o.put 0 _).put 1 _).put 2 _).put 3 _);have aw:=qh (show EF aO T.heap.size H (W+r) by rw[hV];exact((((aw.o.Jt am.o Ze 0 _).Jt (am.o.put 0 _) Ze 1 _).Jt ((am.o.put 0 _).put 1 _) Ze 2 _).Jt (((am.o.put 0 _).put 1 _).put 2 _) Ze 3 _));rw[<- hV];clear m0 m1 m2 m3 mf ml HX bm am;have NF:=qh<|NF.o.below aD;have B:=qh<|B.o.below aD;have D:=qh<|D.o.below aD;have A:=qk A aD;clear hV aD;have NS:=qh<|aw.o.mono af.o;have B7:=aT;have bQ:=qh<|show LF H 900000 from NS.o.k.len (LQ.add (m:=900000) aW.o av.o Zo) zj;have CS:=qh<|show Cl 150 #[.agg #[.bool H.t.s,.slice H.t.a H.t.n H.t.c,.bool H.l.s,.slice H.l.a H.l.n H.l.c]] aO _ from V8 (x:=H) NS.o.k.any bQ.o;obtain⟨sg,a8⟩:=gn (Js (W+r).num 0);rw[<- a8] at CS;have br:=qh (show(sg != 0)=decide (W+r≠0) by rw[a8];exact sg_ne);clear a8;obtain⟨bW,bX,bY,bZ⟩:=B7.o.c4;go_wp2_with fail
     with_reducible refine CS.o.mono ?_
     rintro e w8 ⟨rfl,a⟩;have B:=qh<|B.o.below a;have NS:=qh<|NS.o.below a;have D:=qh<|D.o.below a;have B7:=qh<|B7.o.bl a;have A:=qk A a;have E1:=qh<|aM.o.below A.o;clear a CS bW bX bY bZ;by_cases au:W+r=0
     ·have g0:(sg != 0)=false:=by rw[br.o];exact zo λf=>f au
      have g1:sg=0:=by simpa using g0
      have aY:=qh au;clear au;go_wp2;go_roundw
      case rel =>
       refine⟨P2,Q2,⟨if V=1 then some ⟨pb,po,none⟩ else some ⟨pb,po+8,none⟩,F-1,V-1⟩,⟨if O=1 then some ⟨qb,qo,none⟩ else some ⟨qb,qo+8,none⟩,C-1,O-1⟩,⟨oa,on,oc⟩,ax,rfl,rfl,rfl,aL.o,aA.o,λv Z=>ao.o v (by rw[M.o];exact List.mem_cons_of_mem _ Z),λv Z=>ak.o v (by rw[J.o];exact List.mem_cons_of_mem _ Z),B.o,?_,?_,D.o.b⟩
       ·rw[<- X.o,M.o,J.o,jkq (show u.m=E.m from bn.o) aY.o]
       ·have:=R.o;have:=N.o;show ax.length+(F-1)+(C-1)<=nn;omega
      case measure=>simp[lenV];have:=N.o;omega
     ·have g0:(sg != 0)=true:=by rw[br.o];exact decide_eq_true au
      have g1:¬(sg=0):=by simpa using g0
      have aY:=qh au;clear au
      go_upto_region 14 with (fail)
      go_upto_region 14 with (fail)
      refine FS.Jd 8 [] (FS.JI [(7,FS.Sp.made (λb:Nat=>Value.slice (some ⟨b,0,none⟩) 1 1) (λb w'=>Bxs w' b 37 (cTv H u.m)) (λ_ _=>False))])
       (λw'=>Bl w8 w') Zk Zk Zk
       (FS.Jb (FS.Sp.Qf _ (λcq=>cq==37) (λ_ _ _ f hs=>jct f hs rfl) Zk (FS.JG Zk)) (FS.Jh)) (λ_ _ f a=>f.trans (a.mono f.size)) (zk.drew) ?_
      simp only[zu,zi,ze,zx,zy,zv,zw]
      iterate 7
       refine FS.rdw (λw' d=>by obtain⟨g,h,i,j,cj,ck⟩:=(B7.o.bl d).d4;obtain⟨g,h,i,j,k,l,q,s⟩:=(E1.o.below d).eight;simp only[Nat.zero_mul,Nat.add_zero] at g h i j k l q s;go_simp;try rfl) ?_
      refine FS.Jc rfl rfl rfl (λw' t=>?_) ?_
      ·have d:=t.world;refine FS.Jm (FS.PM (λb:Nat=>Value.slice (some ⟨b,0,none⟩) 1 1) (λb w'=>Bxs w' b 37 (cTv H u.m)) (λ_ _=>False) w'.heap.size) ?_ (λ_ _ f=>f.post (λ_ _ f=>by cases f;rfl));go_simp;exact⟨⟨w'.heap.size,rfl,Bxs.new w' _ _,λ_ f=>False.elim f⟩,zk.alloc zj _⟩
      rintro _ ⟨y7,rfl⟩
      conv=>arg 10;simp only[Act.put,zq0,zq1,zq2]
      refine FS.Jn (λcb a hF=>?_);have a1:=qh<|FS.JQ (val:=(λb:Nat=>Value.slice (some ⟨b,0,none⟩) 1 1)) (Φ:=λb w'=>Bxs w' b 37 (cTv H u.m)) (λ_ _ f=>by cases f;rfl) (hF.all 7);clear hF;have NS:=qh<|NS.o.below a;have B:=qh<|B.o.below a;have D:=qh<|D.o.below a;have A:=qk A a;clear a;go_wp2_with (first | (at_builtin;refine QK (t:=⟨H,u.m⟩) rfl _ _ rfl rfl B.o (Zi R az) D.o.b.size rfl a1.o NS.o rfl ?_))
      intro z9 w9 G K;obtain⟨ah,aj,ai⟩:=z9;have ac:=qh G;have ad:=qh K;clear G K;go_wp2;go_roundw
      case rel =>
       refine⟨P2,Q2,⟨if V=1 then some ⟨pb,po,none⟩ else some ⟨pb,po+8,none⟩,F-1,V-1⟩,⟨if O=1 then some ⟨qb,qo,none⟩ else some ⟨qb,qo+8,none⟩,C-1,O-1⟩,⟨ah,aj,ai⟩,ax++[(⟨H,u.m⟩,W+r)],rfl,rfl,rfl,aL.o,aA.o,λv Z=>ao.o v (by rw[M.o];exact List.mem_cons_of_mem _ Z),λv Z=>ak.o v (by rw[J.o];exact List.mem_cons_of_mem _ Z),ac.o,?_,?_,D.o.b.trans ad.o⟩
       ·rw[List.map_append,List.append_assoc,<- X.o,M.o,J.o,merge_eq (M.o▸ae.o.canon) (J.o▸P.o.canon) (show u.m=E.m from bn.o) aY.o];rfl
       ·rw[List.length_append,List.length_singleton];have:=R.o;have:=N.o;have:=I.o;show ax.length+1+(F-1)+(C-1)<=nn;omega
      case measure=>simp[lenV];have:=N.o;omega
    ·have HC:=qh<|key_gt0 aB.o aC.o hc;have an:=qh (show Qv P' Y=(u.m,W) :: Qv P2 Y by rw[J.o,M.o];exact jf3 (M.o▸ae.o.canon) (ji8 (J.o▸P.o.canon) hc));clear hc
     go_upto_region 10 with (fail)
     go_upto_region 10 with (fail)
     refine FS.Jd 9 [] (FS.JI [(8,FS.Sp.know (.int .i64 1))])
      (λw'=>Bl wr w') Zk Zk Zk
      (FS.Jb (FS.Sp.Jk _ _) (FS.Jh)) (λ_ _ f a=>f.trans (a.mono f.size)) (zk.drew) ?_
     simp only[zu,zi,ze,zx,zy,zv,zw]
     iterate 8
      refine FS.rdw (λw' d=>by obtain⟨g,h,i,j,k,l,q,s⟩:=(E1.o.below d).eight;simp only[Nat.zero_mul,Nat.add_zero] at g h i j k l q s;obtain⟨g,h,i,j,k,l,q,s⟩:=(E2.o.below d).eight;simp only[Nat.zero_mul,Nat.add_zero] at g h i j k l q s;go_simp;try rfl) ?_
     refine FS.Jc rfl rfl rfl (λw' t=>?_) ?_
     ·have d:=t.world;refine FS.Jm (FS.PK (.int .i64 1)) ?_ (λ_ _ f=>f.post);go_simp;have Q:=(show Cl 37 #[.int .u8 0,.agg #[.int .u16 u.m.x,.int .u16 u.m.y,.int .u16 u.m.z,.int .u16 u.m.t],.agg #[.int .u16 E.m.x,.int .u16 E.m.y,.int .u16 E.m.z,.int .u16 E.m.t]] w' _ from jed 0 u.m E.m w' aB.o aC.o);rw[show Mono.Js (JN 0 u.m) (JN 0 E.m)=1 from HC.o] at Q;refine Q.mono ?_;rintro e ar ⟨rfl,a⟩;exact⟨_,rfl,rfl,a⟩
     rintro _ rfl
     conv=>arg 10;simp only[Act.put,zq0,zq1,zq2]
     refine FS.Jn (λaa a hF=>?_);clear hF;have B:=qh<|B.o.below a;have D:=qh<|D.o.below a;have A:=qk A a;clear a;have E1:=qh<|aM.o.below A.o;have E2:=qh<|aN.o.below A.o;have NF:=qh<|aX.o.below A.o;have NG:=qh<|aK.o.below A.o
     go_upto_region 18 with (fail)
     have af:=qh D.o.b.size
     go_upto_region 18 with (fail)
     refine FS.Jd 12 [] (FS.JI [(5,FS.Sp.made (λx:FV=>x.v) (λx w'=>EF w' aa.heap.size x W) FV.blk),(11,FS.Sp.made (λb:Nat=>Value.slice (some ⟨b,0,none⟩) 1 1) (λb w'=>Zb w' aa.heap.size b u.m W) (λ_ _=>False))])
      (λw'=>Bl aa w') Zk Zk Zk
      (FS.Jb (FS.Sp.Jf _ (λ_ _ _ f _ hk=>f.kept hk) (FS.JG Zk)) (FS.Jb (FS.Sp.Qf _ jcs (λ_ _ _ f hs=>f.rows hs) Zk (FS.JG Zk)) (FS.Jh))) (λ_ _ f a=>f.trans (a.mono f.size)) (zk.drew) ?_
     simp only[zu,zi,ze,zx,zy,zv,zw]
     iterate 5
      refine FS.rdw (λw' d=>by obtain⟨g,h,i,j,k,l,q,s⟩:=(E1.o.below d).eight;simp only[Nat.zero_mul,Nat.add_zero] at g h i j k l q s;go_simp;try rfl) ?_
     refine FS.Jc rfl rfl rfl (λw' t=>?_) ?_
     ·have d:=t.world;refine FS.Jm (FS.PM (λx:FV=>x.v) (λx w'=>EF w' aa.heap.size x W) FV.blk w'.heap.size) ?_ (λ_ _ f=>f.post (λ_ _=>FV.inj));go_simp;have Q:=(show Cl 38 #[.agg #[.bool u.c.t.s,.slice u.c.t.a u.c.t.n u.c.t.c,.bool u.c.l.s,.slice u.c.l.a u.c.l.n u.c.l.c]] w' _ from ja9 (c:=u.c) (NF.o.below d).any aU.o aV.o);refine Q.mono ?_;rintro e ar ⟨za,rfl,U,a⟩;exact⟨_,rfl,⟨za,rfl,U.mono d.size,U.QV⟩,a⟩
     rintro _ ⟨y5,rfl⟩
     conv=>arg 10;simp only[Act.put,zq0,zq1,zq2]
     iterate 5
      refine FS.rdw (λw' d=>by obtain⟨g,h,i,j,k,l,q,s⟩:=(E1.o.below d).eight;simp only[Nat.zero_mul,Nat.add_zero] at g h i j k l q s;go_simp;try rfl) ?_
     refine FS.Jc rfl rfl rfl (λw' t=>?_) ?_
     ·have d:=t.world;refine FS.Jm (FS.PM (λb:Nat=>Value.slice (some ⟨b,0,none⟩) 1 1) (λb w'=>Zb w' aa.heap.size b u.m W) (λ_ _=>False) w'.heap.size) ?_ (λ_ _ f=>f.post (λ_ _ f=>by cases f;rfl));go_simp;have f5:=FS.JQ (val:=(λx:FV=>x.v)) (Φ:=λx w'=>EF w' aa.heap.size x W) (λ_ _=>FV.inj) (t.jdz 10 5 Zk Zk);exact⟨⟨w'.heap.size,rfl,⟨⟨y5,Bxs.new w' _ (TV.cells ⟨y5,u.m⟩),f5.alloc _⟩⟩,λ_ f=>False.elim f⟩,zk.alloc zj _⟩
     rintro _ ⟨bc,rfl⟩
     conv=>arg 10;simp only[Act.put,zq0,zq1,zq2]
     refine FS.Jn (λca a hF=>?_);obtain⟨⟨aH,hB,hE⟩⟩:=FS.JQ (val:=(λb:Nat=>Value.slice (some ⟨b,0,none⟩) 1 1)) (Φ:=λb w'=>Zb w' aa.heap.size b u.m W) (λ_ _ f=>by cases f;rfl) (hF.all 11);have a0:=qh hB;have a2:=qh hE;clear hB hE hF;have B:=qh<|B.o.below a;have D:=qh<|D.o.below a;clear a;go_wp2_with (first | (at_builtin;refine QK (t:=⟨aH,u.m⟩) rfl _ _ rfl rfl B.o (Zi R az) D.o.b.size rfl a0.o (a2.o.mono af.o) rfl ?_))
     intro z9 w9 G K;obtain⟨ah,aj,ai⟩:=z9;have ac:=qh G;have ad:=qh K;clear G K;go_wp2;go_roundw
     case rel =>
      refine⟨P2,Y,⟨if V=1 then some ⟨pb,po,none⟩ else some ⟨pb,po+8,none⟩,F-1,V-1⟩,⟨some ⟨qb,qo,none⟩,C,O⟩,⟨ah,aj,ai⟩,ax++[(⟨aH,u.m⟩,W)],rfl,rfl,rfl,aL.o,P.o,λv Z=>ao.o v (by rw[M.o];exact List.mem_cons_of_mem _ Z),ak.o,ac.o,?_,?_,D.o.b.trans ad.o⟩
      ·rw[List.map_append,List.append_assoc,<- X.o];refine congrArg _ ?_;rw[an.o];rfl
      ·rw[List.length_append,List.length_singleton];have:=R.o;have:=N.o;show ax.length+1+(F-1)+C<=nn;omega
     case measure=>simp[lenV];have:=N.o;omega
theorem TwN.at_ {h a:NV} (l:TwN w lo h a o):∃ g,h=⟨a.s,some ⟨g,0,none⟩,a.n,a.n+1⟩/\Rd w (some ⟨g,0,none⟩) (a.n+1) (tw o a.n):=by
 obtain⟨k,m,j,i⟩:=h;obtain⟨b,c,d,f⟩:=l;change k=a.s at b;change j=a.n at c;change i=a.n+1 at d;subst b c d;obtain⟨g,rfl⟩:=f.QF Zo;exact⟨g,rfl,f.rd⟩
theorem jld (r a:FV) (l:Nat) (b c:Nat->Int) (d:World) (u:TwF d l r a b c) (j:Rd d a.t.a a.t.n b) (v:a.t.n<=100000000) (k:Rd d a.l.a a.l.n c) (x:a.l.n<=100000000) :
  Cl 115 #[r.v,a.v] d λe w'=>e=.returned (.bool true)/\Bl d w':=by
 obtain⟨h,f,m⟩:=u.top.at_;obtain⟨i,g,q⟩:=u.low.at_;obtain⟨t,s⟩:=r;change t=_ at f;change s=_ at g;subst f g;exact jc1 a.t.s h a.t.a a.t.n a.t.c b a.l.s i a.l.a a.l.n a.l.c c d m j Zo q k Zo
theorem jc6 (j c:TV) (S:Nat) (J K:Nat->Int) (k:World) (M:TwF k S j.c c.c J K) (N:Rd k c.c.t.a c.c.t.n J) (Q:c.c.t.n<=100000000) (O:Rd k c.c.l.a c.c.l.n K) (R:c.c.l.n<=100000000) (P:j.m=c.m):Cl 42 #[TV.v j,TV.v c] k λe w'=>e=.returned (.bool true)/\Bl k w':=by
 obtain⟨U,d⟩:=gn ((k.alloc (.cells (cTv j.c j.m).toArray 37)).alloc (.cells (cTv c.c c.m).toArray 37));have b:=bq d ((zk.alloc zj _).alloc (by go_size) _);have l:=qh<|bz d ((Bxs.new k 37 (cTv j.c j.m)).alloc _)
 have m:=qh (show Bxs U (k.heap.size+1) 37 (cTv c.c c.m) by
  have M:=Bxs.new (k.alloc (.cells (cTv j.c j.m).toArray 37)) 37 (cTv c.c c.m);rw[World.size_alloc] at M;rw[d]
  exact M)
 have I:=qh b;have L:=qh<|jld j.c c.c S J K U (M.below b) (N.below b) Q (O.below b) R;have T:=qh d;obtain⟨a,⟨g,h,i,f⟩⟩:=j;obtain⟨uc,V⟩:=c;change (⟨g,h,i,f⟩:Mo)=V at P;subst P;change Cl 42 #[.agg #[.bool a.t.s,.slice a.t.a a.t.n a.t.c,.bool a.l.s,.slice a.l.a a.l.n a.l.c,.int .u16 g,.int .u16 h,.int .u16 i,.int .u16 f],.agg #[.bool uc.t.s,.slice uc.t.a uc.t.n uc.t.c,.bool uc.l.s,.slice uc.l.a uc.l.n uc.l.c,.int .u16 g,.int .u16 h,.int .u16 i,.int .u16 f]] k _;clear d b M N O;go_enter func42,ntmps42
 go_upto_region 1 with (fail)
 rw[show(k.alloc (.cells #[.bool a.t.s,.slice a.t.a a.t.n a.t.c,.bool a.l.s,.slice a.l.a a.l.n a.l.c,.int .u16 g,.int .u16 h,.int .u16 i,.int .u16 f] 37)).alloc (.cells #[.bool uc.t.s,.slice uc.t.a uc.t.n uc.t.c,.bool uc.l.s,.slice uc.l.a uc.l.n uc.l.c,.int .u16 g,.int .u16 h,.int .u16 i,.int .u16 f] 37)=U from T.o.symm];obtain⟨r,s,t,u,v,x,y,z⟩:=l.o.c8;obtain⟨A,B,C,D,E,F,G,H⟩:=m.o.c8;go_wp2_with fail
 with_reducible refine L.o.mono ?_
 rintro e W ⟨rfl,q⟩;have I:=qk I q;have l:=qh<|l.o.bl q;have m:=qh<|m.o.bl q;clear q L r s t u v x y z A B C D E F G H;obtain⟨r,s,t,u,v,x,y,z⟩:=l.o.c8;obtain⟨A,B,C,D,E,F,G,H⟩:=m.o.c8;go_wp2;go_ret;exact⟨rfl,I.o⟩
theorem jc7 (ak P:PV) (t g:List TV) (lo:Nat) (v O:World) (l:TwP v O lo ak t g) (L:Bl v O) (hy:RT v P.a g) (f:g.length=P.n) (hn:P.n<=1000000) (B:∀ u∈g,u.c.t.n<=100000000/\u.c.l.n<=100000000) :
  Cl 16 #[ak.v,P.v] O λe w'=>e=.returned (.bool true)/\Bl O w':=by
 have D:ak.n=P.n:=l.n.trans f;obtain⟨M,a,i⟩:=ak;obtain⟨ya,n,yc⟩:=P;change a=n at D;subst D;obtain⟨Y,Z,s,q,C⟩:=OT.slice l.row
 have A:(t++[Ua]).length=a+1:=by
  rw[List.length_append,l.len,show g.length=a from f];rfl
 rw[A] at s q;change Value.slice M (a+1) i=.slice Y (a+1) Z at s
 obtain⟨rfl,rfl⟩:M=Y/\i=Z:=by injection s with e1 e2 e3;exact⟨e1,e3⟩
 clear s;have x:=qh<|show a<=1000000 from hn;have NU:=qh<|show g.length=a from f;have r:=qh<|show t.length=a from l.len.trans f;have EA:=qh l.each;have T:=qh B;have W:=qh L;have X:=qh<|C.one (by simp);have RY:=qh<|RT.below (show RT v ya g from hy) L;have F:¬i<=a:=Zo;have G:¬(i:Int)<=(a:Int):=Zo;have H:a+1<=i:=q;have I:(a:Int)+1<=(i:Int):=Zo;have J:IntKind.i64.wrap ((a:Int)+1)=(a:Int)+1:=IntWalk.i64_in _ (Zh x);have ar:=qh<|And.intro F (And.intro G (And.intro H (And.intro I J)));change Cl 16 #[.slice M a i,.slice ya a yc] O _;clear l L hy f hn B C q A H I J;obtain⟨pb,po,rfl,hp⟩:=X.o;have Q:=qh hp;clear hp X;go_enter func16,ntmps16;go_wp2_with fail
 clear F G;go_loopw [5] (λam wr=>∃ h:Nat,h<=a/\am=.int .i64 h/\Bl O wr) (λam _=>a-(intOf am).toNat)
 case atStart =>
  exact⟨0,Nat.zero_le _,rfl,zk⟩
 case round =>
  obtain⟨h,hj,rfl,y⟩:=hrel;have HJ:=qh hj;have b:=qh y;clear hj y;by_cases d:h<a
  ·have m:=qh d;obtain⟨aj,K⟩:∃ aj,t[h]?=some aj:=⟨_,List.getElem?_eq_getElem (by rw[r.o];exact d)⟩;obtain⟨u,k⟩:∃ u,g[h]?=some u:=⟨_,List.getElem?_eq_getElem (by rw[NU.o];exact d)⟩;obtain⟨qb,qo,rfl,z⟩:=(RY.o.below b.o).one (λN=>by rw[N] at k;simp at k);have E:=qh<|(Q.o h aj (by rw[List.getElem?_append_left (by rw[r.o];exact d)];exact K)).below b.o;have E2:=qh<|z h u k;obtain⟨hm,o1,o2,r1,r2,hf⟩:=EA.o h aj u K k;obtain⟨s1,s2⟩:=T.o u (List.mem_of_getElem? k);have HM:=qh hm;have HF:=qh<|hf.below b.o;have R:=qh<|(r1.below W.o).below b.o;have S:=qh<|(r2.below W.o).below b.o;have U:=qh s1;have V:=qh s2;have ek:IntKind.i64.wrap ((h:Int)+1)=(h:Int)+1:=IntWalk.i64_in _ (Zi m x);clear z K k hm r1 r2 hf s1 s2
   go_upto_region 6 with (fail)
   refine FS.Jd 9 [] (FS.JI [(8,FS.Sp.know (.bool true))])
    (λw'=>Bl wr w') Zk Zk Zk
    (FS.Jb (FS.Sp.Jk _ _) (FS.Jh)) (λ_ _ N j=>N.trans (j.mono N.size)) (zk.drew) ?_
   simp only[zu,zi,ze,zx,zy,zv,zw]
   iterate 8
    refine FS.rdw (λw' c=>by obtain⟨aa,ab,ac,ad,ae,af,ag,ah⟩:=(E.o.below c).eight;obtain⟨aa,ab,ac,ad,ae,af,ag,ah⟩:=(E2.o.below c).eight;go_simp;try rfl) ?_
   refine FS.Jc rfl rfl rfl (λw' ai=>?_) ?_
   ·have c:=ai.world;refine FS.Jm (FS.PK (.bool true)) ?_ (λ_ _ N=>N.post);go_simp;have CT:=jc6 aj u lo o1 o2 w' (HF.o.below c) (R.o.below c) U.o (S.o.below c) V.o HM.o;refine CT.mono ?_;rintro e aq ⟨rfl,j⟩;exact⟨_,rfl,rfl,j⟩
   rintro _ rfl
   conv=>arg 10;simp only[Act.put,zq0,zq1,zq2]
   refine FS.Jn (λan j hF=>?_);clear hF;have b:=qk b j;clear j;go_wp2;go_roundw
   case rel =>
    exact⟨h+1,Zh m,rfl,b.o⟩
   case measure=>simp[intOf];have:=m.o;omega
  ·have ao:¬((h:Int)<(a:Int)):=Zo;obtain rfl:h=a:=Zh HJ;obtain⟨F,G,H,I,J⟩:=ar.o;have E:=qh<|(Q.o h Ua (by rw[List.getElem?_append_right (by rw[r.o];exact zj),r.o,Nat.sub_self];rfl)).below b.o;obtain⟨h0,h1,h2,h3,h4,h5,h6,h7⟩:=E.o.eight;have HA:=qh<|b.o.alloc b.o.size (.cells (TV.cells Ua).toArray 37);clear d;go_wp2;go_ret;exact⟨rfl,HA.o⟩
theorem jdy {a:Option Addr} (q:Rd w a n o) (m:Rd w a n p):∀ f,f<n->o f=p f:=λf h=>by
 obtain⟨b,off,i,j⟩:=q.cells Zo;obtain⟨l,k,d,g⟩:=m.cells Zo;rw[i] at d
 cases d
 have c:=j f h;rw[g f h] at c
 injection c with c
 injection c with _ c
 exact c.symm
theorem TwN.rd {f b:NV} (g:TwN w lo f b o) (c:Rd w0 b.a b.n o) (d:Rd w0 b.a b.n p):Rd w f.a f.n p:=by
 rw[g.n]
 exact(g.own.rd.le (Nat.le_succ _)).congr λh a=>by
  unfold tw;rw[if_pos a];exact jdy c d h a
theorem TwN.le {a c:NV} (b:TwN w lo a c o):a.n<=a.c:=by rw[b.n,b.c];exact Nat.le_succ _
theorem TwF.k {h c:FV} {g:Rat} (b:TwF w lo h c o1 o2) (d:Rd w0 c.t.a c.t.n o1) (f:Rd w0 c.l.a c.l.n o2) (a:KF w0 c g):KF w h g :=
 ⟨⟨b.top.s.trans a.t.s,b.top.n.trans a.t.n,b.top.rd d a.t.rd,b.top.le⟩,⟨b.low.s.trans a.l.s,b.low.n.trans a.l.n,b.low.rd f a.l.rd,b.low.le⟩⟩
theorem TwF.b {l b:FV} (a:TwF w lo l b o1 o2) (g:Rd w0 b.t.a b.t.n o1) (h:Rd w0 b.l.a b.l.n o2) (i:BF w0 b):BF w l:=by
 obtain⟨j,k,c,d,f⟩:=i.ex;exact⟨⟨j,k,a.top.rd g c,a.low.rd h d,by rw[a.top.s,a.top.n,a.low.s,a.low.n];exact f⟩,a.top.le,a.low.le⟩
theorem TwF.a {m b:FV} {l:Rat} (a:TwF w lo m b o1 o2) (g:Rd w0 b.t.a b.t.n o1) (h:Rd w0 b.l.a b.l.n o2) (i:AF w0 b l):AF w m l:=by
 obtain⟨j,k,c,d,f⟩:=i.ex;exact⟨⟨j,k,a.top.rd g c,a.low.rd h d,by rw[a.top.s,a.top.n,a.low.s,a.low.n];exact f⟩,a.top.le,a.low.le⟩
theorem TwP.rt {d:PV} {a i:List TV} (k:TwP w0 w lo d a i):RT w d.a a/\a.length=d.n/\d.n<=d.c:=by
 have h:=k.n;have r:=k.len;obtain⟨q,c,j⟩:=d;change c=i.length at h;obtain⟨t,u,e,v,m⟩:=OT.slice k.row;change Value.slice q (c+1) j=_ at e
 injection e with e1 e2 e3
 subst e1 e3;refine⟨⟨λs=>?_⟩,by show a.length=c;omega,by show c<=j;omega⟩;obtain⟨b,off,l,f⟩:=m.ex (by simp);exact⟨b,off,l,λx y g=>f x y (by rw[List.getElem?_append_left (List.getElem?_eq_some_iff.1 g).1];exact g)⟩
def Tw2 (w0 w:World) (lo:Nat) (y x:PV):Prop:=∃ ts us,TwP w0 w lo y ts us/\RT w0 x.a us/\us.length=x.n/\∀ u∈us,u.c.t.n<=100000000/\u.c.l.n<=100000000
theorem TwP.below {h:PV} {c d:List TV} (a:TwP w0 w lo h c d) (b:Bl w w'):TwP w0 w' lo h c d:=⟨OT.below a.row b,a.n,a.len,λi j k f g=>(a.each i j k f g).below b,a.ap⟩
theorem Tw2.below {h g:PV} (i:Tw2 w0 w lo h g) (c:Bl w w'):Tw2 w0 w' lo h g:=by
 obtain⟨d,f,a,b⟩:=i;exact⟨d,f,a.below c,b⟩
theorem Tw2.left {k a:PV} (l:Tw2 w0 w lo k a) (h:Bl w0 w) (g:a.n<=1000000) :
  Cl 16 #[k.v,a.v] w λe w'=>e=.returned (.bool true)/\Bl w w':=by
 obtain⟨i,j,b,c,d,f⟩:=l;exact jc7 k a i j lo w0 w b h c d g f
theorem U9 {c d:Type} {h:List c} {i:List d} {f:Nat} {a:c} {b:d} (g:(h.zip i)[f]?=some (a,b)):h[f]?=some a/\i[f]?=some b:=by
 rw[List.getElem?_zip_eq_some] at g;exact g
theorem twin_k (t:PV) (E:List Tm) (s:World) (H:KP s t E) (L:∀ j∈E,LQ j.2 900000) (O:t.n<=1000000) :
  Cl 7 #[t.v] s λe w'=>∃ u:PV,e=.returned u.v/\u.n=t.n/\KP w' u E/\Tw2 s w' s.heap.size u t/\Bl s w':=by
 obtain⟨k,x,y,h,z⟩:=H.ex
 have B:∀ D∈k.map Prod.fst,D.c.t.n<=100000000/\D.c.l.n<=100000000:=λD i=>by
  obtain⟨e,a,rfl⟩:=List.mem_map.1 i;have:=(h e a).len (L (e.1.m,e.2) (by rw[<- z];exact List.mem_map.2 ⟨e,a,rfl⟩)) zj;exact⟨by have:=this.1;omega,by have:=this.2;omega⟩
 refine(YM t (k.map Prod.fst) s x (by rw[List.length_map,y]) O λD i=>?_).mono λe w' ⟨u,f,a,N,g,J⟩=>?_
 ·obtain⟨m,q⟩:=B D i;obtain⟨e,a,rfl⟩:=List.mem_map.1 i;exact⟨_,_,(h e a).t.rd,(h e a).l.rd,m,q⟩
 ·obtain⟨Q,R,S⟩:=g.rt
  have d:f.length=(k.map Prod.snd).length:=by rw[g.len,List.length_map,List.length_map]
  refine⟨u,a,N,⟨⟨f.zip (k.map Prod.snd),?_,?_,λe a=>?_,?_⟩,S,H.canon,H.small⟩,⟨f,_,g,x,by rw[List.length_map,y],B⟩,J⟩
  ·rw[List.map_fst_zip Zo];exact Q
  ·rw[List.length_zip,<- d,Nat.min_self,R]
  ·obtain⟨r,K⟩:=List.mem_iff_getElem?.1 a;obtain⟨j,T⟩:=e;obtain⟨P,C⟩:=U9 K;rw[List.getElem?_map] at C;obtain⟨b,c,rfl⟩:=Option.map_eq_some_iff.1 C;obtain⟨-,o1,o2,m,q,G⟩:=g.each r j b.1 P (by rw[List.getElem?_map,c];rfl);exact G.k m q (h b (List.mem_of_getElem? c))
  ·rw[<- z]
   refine List.ext_getElem? λr=>?_
   rw[List.getElem?_map,List.getElem?_map]
   cases c:k[r]? with
   | none =>
    have I:=List.getElem?_eq_none_iff.1 c
    rw[List.getElem?_eq_none (l:=f.zip (k.map Prod.snd)) (by rw[List.length_zip,d,List.length_map,Nat.min_self];exact I)]
   | some b =>
    have A:=(List.getElem?_eq_some_iff.1 c).1;obtain⟨j,v⟩:∃ j,f[r]?=some j:=⟨_,List.getElem?_eq_getElem (by rw[d,List.length_map];exact A)⟩
    have F:(f.zip (k.map Prod.snd))[r]?=some (j,b.2):=by
     rw[List.getElem?_zip_eq_some];exact⟨v,by rw[List.getElem?_map,c];rfl⟩
    obtain⟨M,-⟩:=g.each r j b.1 v (by rw[List.getElem?_map,c];rfl);rw[F];show some (j.m,b.2)=some (b.1.m,b.2);rw[M]
theorem Vx:∀ {L M:List TO},L.length=M.length->(∀ (g:Nat) (e f:TO),L[g]?=some e->M[g]?=some f->e.1.m=f.1.m/\e.2=f.2)->vals L=vals M
 | [],[],_,_=>rfl
 | [],_ :: _,h,_=>by simp at h
 | _ :: _,[],h,_=>by simp at h
 | (a,p) :: l,(b,q) :: m,h,hh=>by
  obtain⟨c,d⟩:=hh 0 _ _ rfl rfl;have c:a.m=b.m:=c;have d:p=q:=d;subst d
  have:=Vx (L:=l) (M:=m) (by simpa using h) λg e f i j=>hh (g+1) e f i j
  unfold vals;rw[this];clear h hh this
  cases p with
  | none=>rfl
  | some q =>
   cases vals m with
   | none=>rfl
   | some l =>
    show some ((a.m,q) :: l)=some ((b.m,q) :: l);rw[c]
theorem twin_b (v:PV) (t:World) (X:BP t v) (Q:v.n<=1000000) :
  Cl 7 #[v.v] t λe w'=>∃ x:PV,e=.returned x.v/\x.n=v.n/\BP w' x/\Tw2 t w' t.heap.size x v/\Bl t w':=by
 obtain⟨l,⟨A,B,Y,C,K,D⟩,F⟩:=X
 have G:∀ I∈l.map Prod.fst,I.c.t.n<=100000000/\I.c.l.n<=100000000:=λI s=>by
  obtain⟨e,c,rfl⟩:=List.mem_map.1 s;have:=D e c;exact⟨by have:=this.1;omega,by have:=this.2;omega⟩
 refine(YM v (l.map Prod.fst) t A (by rw[List.length_map,B]) Q λI s=>?_).mono λe w' ⟨x,j,c,P,r,L⟩=>?_
 ·obtain⟨b,d⟩:=G I s;obtain⟨e,c,rfl⟩:=List.mem_map.1 s;have g:=C e c;unfold TO.ok at g;split at g
  ·exact⟨_,_,g.t.rd,g.l.rd,b,d⟩
  ·obtain⟨o1,o2,S,u,-⟩:=g.ex;exact⟨o1,o2,S,u,b,d⟩
 ·obtain⟨T,U,V⟩:=r.rt
  have q:j.length=(l.map Prod.snd).length:=by rw[r.len,List.length_map,List.length_map]
  have get:∀ (k:Nat) (e:TO),(j.zip (l.map Prod.snd))[k]?=some e->∃ a o1 o2,l[k]?=some a/\e.2=a.2/\e.1.m=a.1.m/\Rd t a.1.c.t.a a.1.c.t.n o1/\Rd t a.1.c.l.a a.1.c.l.n o2/\TwF w' t.heap.size e.1.c a.1.c o1 o2:=λk e h=>by
   obtain⟨W,J⟩:=e;obtain⟨R,H⟩:=U9 h;rw[List.getElem?_map] at H;obtain⟨a,y,rfl⟩:=Option.map_eq_some_iff.1 H;obtain⟨O,o1,o2,b,d,i⟩:=r.each k W a.1 R (by rw[List.getElem?_map,y];rfl);exact⟨a,o1,o2,y,rfl,O,b,d,i⟩
  refine⟨x,c,P,⟨j.zip (l.map Prod.snd),⟨?_,?_,V,λe c=>?_,λe c=>?_,λe c=>?_⟩,?_⟩,⟨j,_,r,A,by rw[List.length_map,B],G⟩,L⟩
  ·rw[List.map_fst_zip Zo];exact T
  ·rw[List.length_zip,<- q,Nat.min_self,U]
  ·obtain⟨k,h⟩:=List.mem_iff_getElem?.1 c;obtain⟨a,o1,o2,b,d,-,i,z,m⟩:=get k e h;have g:=C a (List.mem_of_getElem? b);obtain⟨W,J⟩:=e;obtain⟨Z,u⟩:=a;have d:J=u:=d;subst d;unfold TO.ok at g ⊢
   cases J with
   | some J=>exact m.k i z g
   | none=>exact m.b i z g
  ·obtain⟨k,h⟩:=List.mem_iff_getElem?.1 c;obtain⟨a,o1,o2,b,-,d,-⟩:=get k e h;rw[d];exact K a (List.mem_of_getElem? b)
  ·obtain⟨k,h⟩:=List.mem_iff_getElem?.1 c;obtain⟨a,o1,o2,b,-,-,-,-,m⟩:=get k e h;have E:=D a (List.mem_of_getElem? b);exact⟨by rw[m.top.n];exact E.1,by rw[m.low.n];exact E.2⟩
  ·rw[show okP (j.zip (l.map Prod.snd))=okP l by
    unfold okP
    rw[Vx (L:=j.zip (l.map Prod.snd)) (M:=l) (by rw[List.length_zip,q,Nat.min_self,List.length_map]) λk e f c N=>by
     obtain⟨a,-,-,b,d,i,-⟩:=get k e c;rw[N] at b;obtain rfl:=Option.some.inj b
     exact⟨i,d⟩]]
   exact F
theorem jaa (x:PV) (af:List Tm) (y:FV) (c:Mo) (r:Rat) (w:World) (hx:KP w x af) (hq:∀ g∈af,LQ g.2 900000) (ao:x.n<=1000000) (hy:KF w y r) (aq:LF y 900000) (hu:c.Small) (hz:r≠0) :
  Cl 97 #[x.v,TV.v ⟨y,c⟩] w λe w'=>(∃ z:PV,e=.returned (.tuple #[z.v,.int .i64 0])/\(∀ g∈af,(g.1.mul c).Small)/\EP w' w.heap.size z (Ql af [(c,r)])/\Bl w w') \/
   (e=.returned (.tuple #[.slice none 0 0,.int .i64 3])/\(∃ g∈af,¬(g.1.mul c).Small)/\Bl w w'):=by
 obtain⟨za,s,zc⟩:=x;obtain⟨aP,hV⟩:=gn (w.alloc (.cells (cTv y c).toArray 37));have Z:=bq hV (zk.alloc zj _);have D:=qh<|al hV;have FZ:=qh hx;have HQ:=qh hq;have aD:=qh aq;have aK:=qh hu;have aL:=qh hz;have X:=qh<|hy.below Z;have l:=qh Z;have HV:=qh hV;have aj:=qh<|show s<=1000000 from ao;have aH:=qh<|show s=af.length from hx.len;clear hV Z hx hy aq hu hz ao hq;change Cl 97 #[.slice za s zc,.agg #[.bool y.t.s,.slice y.t.a y.t.n y.t.c,.bool y.l.s,.slice y.l.a y.l.n y.l.c,.int .u16 c.x,.int .u16 c.y,.int .u16 c.z,.int .u16 c.t]] w _;go_enter func97,ntmps97
 go_upto_region 1 with (fail)
 rw[<- HV.o];have aE:=qh l.o.size;go_wp2;go_loopw [6,7] (λo aR wr=>∃ (k:Nat) (z:PV) (aw:List TE),o=z.v/\aR=.int .i64 k/\k<=s/\ER wr aP.heap.size z.v aw/\aw.map tm=(af.take k).map (λg=>(g.1.mul c,g.2*r))/\(∀ g∈af.take k,(g.1.mul c).Small)/\Bl aP wr) (λ_ aR _=>s-(intOf aR).toNat)
 case atStart=>exact⟨0,⟨none,0,0⟩,[],rfl,rfl,Nat.zero_le _,ER.nil,rfl,λg j=>(by cases j),zk⟩
 case round =>
  obtain⟨k,⟨oa,on,oc⟩,aw,ho,rfl,an,am,T,C,H⟩:=hrel;obtain rfl:_=Value.slice oa on oc:=ho;have aA:=qh an;have q:=qh am;have HL:=qh T;have ai:=qh C;have M:=qh<|show Bt aP wr from⟨H⟩;have D:=qh<|D.o.bl H;have X:=qh<|X.o.below H;have l:=qk l H;have aG:=qh (show aw.length<=s by have j:=congrArg List.length T;rw[List.length_map,List.length_map,List.length_take] at j;omega);clear an am T C H;by_cases ab:k<s
  ·have O:=qh ab;have aQ:(k:Int)<(s:Int):=Zo;obtain⟨g,ar,pb,po,rfl,ac,P,Q⟩:=FZ.o.get O.o;have E1:=qh<|ac.below l.o;have NF:=qh<|P.below l.o;have W:=qh Q;have aB:=qh<|show LF g.c 900000 from P.len (HQ.o _ (List.mem_of_getElem? Q)) zj;have aJ:=qh<|show g.m.Small from FZ.o.small _ (List.mem_of_getElem? Q);have aI:=qh ac;have aF:=qh P;clear ab ac P Q;by_cases U:(g.m.mul c).Small
   ·have F:=qh U;clear U
    go_upto_region 5 with (fail)
    refine FS.Jd 13 [(12,11)] (FS.JI [(7,FS.Sp.know (.tuple #[.agg #[.int .u16 (g.m.mul c).x,.int .u16 (g.m.mul c).y,.int .u16 (g.m.mul c).z,.int .u16 (g.m.mul c).t],.int .i64 0])),(11,FS.Sp.box 35 4 wr.heap.size)])
     (λw'=>Bl wr w') Zk Zk Zk
     (FS.Jb (FS.Sp.Jk _ _) (FS.Jb (FS.Sp.XQ _ _ _ _) (FS.Jh))) (λ_ _ j h=>j.trans (h.mono j.size)) (zk.drew) ?_
    simp only[zu,zi,ze,zx,zy,zv,zw]
    iterate 7
     refine FS.rdw (λw' d=>by obtain⟨t,u,A,B,I,J,K,L⟩:=(E1.o.below d).eight;obtain⟨t,u,A,B,I,J,K,L,ad,ae⟩:=(D.o.bl d).d8;go_simp;try rfl) ?_
    refine FS.Jc rfl rfl rfl (λw' f=>?_) ?_
    ·have d:=f.world;refine FS.Jm (FS.PK (.tuple #[.agg #[.int .u16 (g.m.mul c).x,.int .u16 (g.m.mul c).y,.int .u16 (g.m.mul c).z,.int .u16 (g.m.mul c).t],.int .i64 0])) ?_ (λ_ _ j=>j.post);go_simp;have V:=(show Cl 157 #[.agg #[.int .u16 g.m.x,.int .u16 g.m.y,.int .u16 g.m.z,.int .u16 g.m.t],.agg #[.int .u16 c.x,.int .u16 c.y,.int .u16 c.z,.int .u16 c.t]] w' _ from jla g.m c w' F.o);refine V.mono ?_;rintro e au ⟨rfl,h⟩;exact⟨_,rfl,rfl,h⟩
    rintro _ rfl
    conv=>arg 10;simp only[Act.put,zq0,zq1,zq2]
    iterate 3
     refine FS.rd0 ?_
    refine FS.Jc rfl rfl rfl (λw' f=>?_) ?_
    ·have d:=f.world;refine FS.Jm (FS.PB 35 4 wr.heap.size w'.heap.size) ?_ (λ_ _ j=>j.post);go_simp;exact⟨FS.PB.new _ rfl d.size,zk.alloc zj _⟩
    rintro _ ⟨R,rfl⟩
    conv=>arg 10;simp only[Act.put,zq0,zq1,zq2]
    refine FS.ZF rfl rfl 11 rfl rfl rfl rfl (λ_=>Iff.rfl) (λw' f=>?_) ?_
    ·have d:=f.world;have Y:=FS.Yd (f.fact 11 Zk);obtain⟨c0,c1,c2,c3,G⟩:=shp4 Y.1;obtain⟨m0,m1,m2,m3,mf,ml⟩:=G.d4;refine FS.ZG ?_ (ja5 d Y.2 G (.int .u16 (g.m.mul c).x) (.int .u16 (g.m.mul c).y) (.int .u16 (g.m.mul c).z) (.int .u16 (g.m.mul c).t));clear f;go_simp
     try rfl
    conv=>arg 10;simp only[Act.put,zq0,zq1,zq2]
    refine FS.Jn (λi h hF=>?_);have N:=qh<|show Bxs i R 35 [.int .u16 (g.m.mul c).x,.int .u16 (g.m.mul c).y,.int .u16 (g.m.mul c).z,.int .u16 (g.m.mul c).t] from X0 (hF.all 12);clear hF;have X:=qh<|X.o.below h;have q:=qh<|q.o.below h;have M:=qh<|M.o.below h;have D:=qh<|D.o.bl h;have l:=qk l h;clear h
    go_upto_region 8 with (fail)
    have E1:=qh<|aI.o.below l.o;have NF:=qh<|aF.o.below l.o;have aC:=qh M.o.b.size
    go_upto_region 8 with (fail)
    refine FS.Jd 12 [] (FS.JI [(8,FS.Sp.made (λx:FV=>x.v) (λx w'=>EF w' i.heap.size x (ar*r)) FV.blk),(11,FS.Sp.made (λb:Nat=>Value.slice (some ⟨b,0,none⟩) 1 1) (λb w'=>Zb w' i.heap.size b (g.m.mul c) (ar*r)) (λ_ _=>False))])
     (λw'=>Bl i w') Zk Zk Zk
     (FS.Jb (FS.Sp.Jf _ (λ_ _ _ j _ hk=>j.kept hk) (FS.JG Zk)) (FS.Jb (FS.Sp.Qf _ jcs (λ_ _ _ j U=>j.rows U) Zk (FS.JG Zk)) (FS.Jh))) (λ_ _ j h=>j.trans (h.mono j.size)) (zk.drew) ?_
    simp only[zu,zi,ze,zx,zy,zv,zw]
    iterate 8
     refine FS.rdw (λw' d=>by obtain⟨t,u,A,B,I,J,K,L⟩:=(E1.o.below d).eight;obtain⟨t,u,A,B,I,J,K,L,ad,ae⟩:=(D.o.bl d).d8;go_simp;try rfl) ?_
    refine FS.Jc rfl rfl rfl (λw' f=>?_) ?_
    ·have d:=f.world;refine FS.Jm (FS.PM (λx:FV=>x.v) (λx w'=>EF w' i.heap.size x (ar*r)) FV.blk w'.heap.size) ?_ (λ_ _ j=>j.post (λ_ _=>FV.inj));go_simp;have V:=(show Cl 152 #[.agg #[.bool g.c.t.s,.slice g.c.t.a g.c.t.n g.c.t.c,.bool g.c.l.s,.slice g.c.l.a g.c.l.n g.c.l.c],.agg #[.bool y.t.s,.slice y.t.a y.t.n y.t.c,.bool y.l.s,.slice y.l.a y.l.n y.l.c]] w' _ from rmulV (x:=g.c) (y:=y) (NF.o.below d).any aB.o (X.o.below d).any aD.o);refine V.mono ?_;rintro e au ⟨za,rfl,ho,h⟩;exact⟨_,rfl,⟨za,rfl,ho.mono d.size,ho.QV⟩,h⟩
    rintro _ ⟨y8,rfl⟩
    conv=>arg 10;simp only[Act.put,zq0,zq1,zq2]
    iterate 2
     refine FS.rdw (λw' d=>by obtain⟨t,u,A,B,ad,ae⟩:=(N.o.bl d).d4;go_simp;try rfl) ?_
    refine FS.Jc rfl rfl rfl (λw' f=>?_) ?_
    ·have d:=f.world;refine FS.Jm (FS.PM (λb:Nat=>Value.slice (some ⟨b,0,none⟩) 1 1) (λb w'=>Zb w' i.heap.size b (g.m.mul c) (ar*r)) (λ_ _=>False) w'.heap.size) ?_ (λ_ _ j=>j.post (λ_ _ j=>by cases j;rfl));go_simp;have f8:=FS.JQ (val:=(λx:FV=>x.v)) (Φ:=λx w'=>EF w' i.heap.size x (ar*r)) (λ_ _=>FV.inj) (f.jdz 10 8 Zk Zk);exact⟨⟨w'.heap.size,rfl,⟨⟨y8,Bxs.new w' _ (TV.cells ⟨y8,(g.m.mul c)⟩),f8.alloc _⟩⟩,λ_ j=>False.elim j⟩,zk.alloc zj _⟩
    rintro _ ⟨R,rfl⟩
    conv=>arg 10;simp only[Act.put,zq0,zq1,zq2]
    refine FS.Jn (λaS h hF=>?_);obtain⟨⟨S,G,hE⟩⟩:=FS.JQ (val:=(λb:Nat=>Value.slice (some ⟨b,0,none⟩) 1 1)) (Φ:=λb w'=>Zb w' i.heap.size b (g.m.mul c) (ar*r)) (λ_ _ j=>by cases j;rfl) (hF.all 11);have ag:=qh G;have ah:=qh hE;clear G hE hF;have q:=qh<|q.o.below h;have M:=qh<|M.o.below h;have D:=qh<|D.o.bl h;have l:=qk l h;clear h;go_wp2_with (first | (at_builtin;refine QK (t:=⟨S,(g.m.mul c)⟩) rfl _ _ rfl rfl q.o (Zi aG aj) M.o.b.size rfl ag.o (ah.o.mono aC.o) rfl ?_))
    intro z9 w9 aa ak;obtain⟨aM,aO,aN⟩:=z9;have ax:=qh aa;have ay:=qh ak;clear aa ak;have aT:IntKind.i64.wrap ((k:Int)+1)=(k:Int)+1:=IntWalk.i64_in _ (Zi O aj);go_wp2;go_roundw
    case rel =>
     refine⟨k+1,⟨aM,aO,aN⟩,aw++[(⟨S,g.m.mul c⟩,ar*r)],rfl,rfl,O.o,ax.o,?_,λv E=>?_,M.o.b.trans ay.o⟩
     ·rw[List.map_append,HL.o,List.take_add_one,W.o,List.map_append];rfl
     ·rw[List.take_add_one,W.o] at E
      rcases List.mem_append.1 E with E | E
      ·exact ai.o v E
      ·obtain rfl:v=(g.m,ar):=by simpa using E
       exact F.o
    case measure=>simp[intOf];have:=O.o;omega
   ·have F:=qh U;clear U
    go_upto_region 5 with (fail)
    refine FS.Jd 13 [(12,11)] (FS.JI [(7,FS.Sp.know (.tuple #[.agg #[.int .u16 0,.int .u16 0,.int .u16 0,.int .u16 0],.int .i64 3])),(11,FS.Sp.box 35 4 wr.heap.size)])
     (λw'=>Bl wr w') Zk Zk Zk
     (FS.Jb (FS.Sp.Jk _ _) (FS.Jb (FS.Sp.XQ _ _ _ _) (FS.Jh))) (λ_ _ j h=>j.trans (h.mono j.size)) (zk.drew) ?_
    simp only[zu,zi,ze,zx,zy,zv,zw]
    iterate 7
     refine FS.rdw (λw' d=>by obtain⟨t,u,A,B,I,J,K,L⟩:=(E1.o.below d).eight;obtain⟨t,u,A,B,I,J,K,L,ad,ae⟩:=(D.o.bl d).d8;go_simp;try rfl) ?_
    refine FS.Jc rfl rfl rfl (λw' f=>?_) ?_
    ·have d:=f.world;refine FS.Jm (FS.PK (.tuple #[.agg #[.int .u16 0,.int .u16 0,.int .u16 0,.int .u16 0],.int .i64 3])) ?_ (λ_ _ j=>j.post);go_simp;have V:=(show Cl 157 #[.agg #[.int .u16 g.m.x,.int .u16 g.m.y,.int .u16 g.m.z,.int .u16 g.m.t],.agg #[.int .u16 c.x,.int .u16 c.y,.int .u16 c.z,.int .u16 c.t]] w' _ from jhz g.m c w' aJ.o aK.o F.o);refine V.mono ?_;rintro e au ⟨rfl,h⟩;exact⟨_,rfl,rfl,h⟩
    rintro _ rfl
    conv=>arg 10;simp only[Act.put,zq0,zq1,zq2]
    iterate 3
     refine FS.rd0 ?_
    refine FS.Jc rfl rfl rfl (λw' f=>?_) ?_
    ·have d:=f.world;refine FS.Jm (FS.PB 35 4 wr.heap.size w'.heap.size) ?_ (λ_ _ j=>j.post);go_simp;exact⟨FS.PB.new _ rfl d.size,zk.alloc zj _⟩
    rintro _ ⟨R,rfl⟩
    conv=>arg 10;simp only[Act.put,zq0,zq1,zq2]
    refine FS.ZF rfl rfl 11 rfl rfl rfl rfl (λ_=>Iff.rfl) (λw' f=>?_) ?_
    ·have d:=f.world;have Y:=FS.Yd (f.fact 11 Zk);obtain⟨c0,c1,c2,c3,G⟩:=shp4 Y.1;obtain⟨m0,m1,m2,m3,mf,ml⟩:=G.d4;refine FS.ZG ?_ (ja5 d Y.2 G (.int .u16 0) (.int .u16 0) (.int .u16 0) (.int .u16 0));clear f;go_simp
     try rfl
    conv=>arg 10;simp only[Act.put,zq0,zq1,zq2]
    refine FS.Jn (λi h hF=>?_);have N:=qh<|show Bxs i R 35 [.int .u16 0,.int .u16 0,.int .u16 0,.int .u16 0] from X0 (hF.all 12);clear hF;have q:=qh<|q.o.below h;have l:=qk l h;clear h;go_wp2;go_ret2;exact Or.inr ⟨rfl,⟨_,List.mem_of_getElem? W.o,F.o⟩,l.o⟩
  ·have az:=qh (show k=s by have:=aA.o;omega);have aU:¬((k:Int)<(s:Int)):=Zo;clear ab;go_wp2;go_ret2;have av:af.take k=af:=List.take_of_length_le (by rw[az.o,aH.o];exact zj);have T:=HL.o;have C:=ai.o;rw[av] at T C;have hm:=jkr (m:=c) FZ.o.canon aL.o;refine Or.inl ⟨⟨oa,on,oc⟩,rfl,λa b j=>C (a,b) j,⟨⟨aw,q.o.mono aE.o,by rw[T,hm]⟩,Qh _ _,λv E=>?_⟩,l.o⟩;rw[hm] at E;obtain⟨aV,hu,rfl⟩:=List.mem_map.1 E;exact C aV hu
theorem jle (j:PV) (f:List Tm) (k:FV) (a:Mo) (b:Rat) (d:World) (u:KP d j f) (q:∀ i∈f,LQ i.2 900000) (g:j.n<=1000000) (v:KF d k b) (h:LF k 900000) (t:a.Small) (x:b≠0) (r:∀ i∈f,(i.1.mul a).Small) :
  Cl 97 #[j.v,TV.v ⟨k,a⟩] d λe w'=>∃ z:PV,e=.returned (.tuple #[z.v,.int .i64 0])/\EP w' d.heap.size z (Ql f [(a,b)])/\Bl d w' :=
 (jaa j f k a b d u q g v h t x).mono λe w' y=>by
  rcases y with ⟨z,l,-,c,m⟩ | ⟨-,⟨i,s,c⟩,-⟩
  ·exact⟨z,l,c,m⟩
  ·exact absurd (r i s) c
theorem jlf (i:PV) (h:List Tm) (j:FV) (a:Mo) (b:Rat) (g:World) (s:KP g i h) (m:∀ v∈h,LQ v.2 900000) (d:i.n<=1000000) (t:KF g j b) (f:LF j 900000) (r:a.Small) (u:b≠0) (q:¬ ∀ v∈h,(v.1.mul a).Small) :
  Cl 97 #[i.v,TV.v ⟨j,a⟩] g λe w'=>e=.returned (.tuple #[.slice none 0 0,.int .i64 3])/\Bl g w' :=
 (jaa i h j a b g s m d t f r u).mono λe w' x=>by
  rcases x with ⟨z,c,k,-,-⟩ | ⟨c,-,l⟩
  ·exact absurd k q
  ·exact⟨c,l⟩
theorem infoPo:(prog.info? 23).map (λa=>(a.zero,a.size,a.bytes))=some (some (.slice none 0 0),1,24):=by kernel_rfl
abbrev OW (w:World) (lo:Nat) (v:Value) (Zs:List PV):Prop:=w.ownsRow lo 23 1 v Zs.length (Zs.map PV.v)
theorem OW.below {v:Value} {a:List PV} (j:OW w lo v a) (g:Bl w w'):OW w' lo v a:=by
 refine⟨j.1,j.2.imp id ?_⟩;rintro⟨i,b,c,h,d,hg,f⟩;exact⟨i,b,c,h,d,(g.block i (lt_of_block hg)).trans hg,f⟩
theorem OW.own {v:Value} {f:List PV} (i:OW w lo v f) {k:Nat} (a:some k=v.ownBlock):lo<=k/\∃ b,w.heap[k]?=some (.cells b 23 (0,0)):=by
 rcases i.2 with ⟨c,_⟩ | ⟨h,g,b,c,d,hg,_⟩
 ·rw[c] at a;cases a
 ·rw[c] at a;have a:some k=some h:=a
  cases a
  exact⟨d,b,hg⟩
theorem OW.cells {v:Value} {c:List PV} (x:OW w lo v c):∃ a q,v=.slice a c.length q/\c.length<=q/\∀ k z,c[k]?=some z->∃ g,a=some ⟨g,0,none⟩/\w.cell? ⟨g,k,none⟩=some z.v:=by
 rcases x.2 with ⟨h,l⟩ | ⟨g,i,r,h,u,_,hg,y,s,f⟩
 ·have m:c=[]:=List.length_eq_zero_iff.1 l;subst m;exact⟨none,0,h,zj,λk b d=>by simp at d⟩
 ·refine⟨some ⟨g,0,none⟩,i,h,Zo,λk z d=>⟨g,rfl,?_⟩⟩;have t:=(List.getElem?_eq_some_iff.1 d).1;rw[cell_of_row _ _ _ _ _ _ ‹_›]
  have j:(c.map PV.v)[k]?=some z.v:=by rw[List.getElem?_map,d];rfl
  rw[<- f,List.getElem?_take,if_pos Zo,Array.getElem?_toList] at j;exact j
structure EQ (w:World) (lo lo2:Nat) (v:Value) (Rs:List (List Tm)):Prop where
 ex:∃ Zs:List PV,OW w lo2 v Zs/\Zs.length=Rs.length/\∀ (i:Nat) (z:PV) (R:List Tm),Zs[i]?=some z->Rs[i]?=some R->EP w lo z R
theorem EQ.nil (d:World) (b a:Nat):EQ d b a (.slice none 0 0) []:=⟨[],World.ownsRow_nil _ _ _ _,rfl,λg z f c=>by simp at c⟩
theorem EQ.slice {c:Nat} {v:Value} {b:List (List Tm)} (i:EQ w lo c v b):∃ a d,v=.slice a b.length d:=by
 obtain⟨h,f,g,-⟩:=i.ex;obtain⟨a,d,e,-⟩:=f.cells;exact⟨a,d,by rw[e,g]⟩
theorem YE {b:Mo->Int} {a:List Dv} {c:DS}:∀ {n m:Nat},n<=m->(Ya b a n c).p=[]->Ya b a m c=Ya b a n c
 | n,0,h,_=>by rw[show n=0 from Zo]
 | n,m+1,h,h0=>by
  by_cases e:n=m+1
  ·rw[e]
  ·have d:=YE (m:=m) Zo h0;show jef b a (Ya b a m c)=_;rw[d];unfold jef leadF;rw[h0];rfl
theorem jlg {b:Mo->Int} {a:List Dv} {c:DS} {h:Nat} (f:(Ya b a n c).p=[]) (g:(Ya b a h c).p=[]):Ya b a n c=Ya b a h c:=by
 rcases Nat.le_total n h with d | d
 ·exact(YE d f).symm
 ·exact YE d g
end Pol
end Go.Proofs.YthacfgmdihcffaaGreatDoor
