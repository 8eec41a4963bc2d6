/-
  A Book of lists and of rows of terms: Term, Poly, Polys.
-/
import Derived.Test.YthacfgmdihcffaaGreatDoorPzTO
import Derived.SizedLaws
set_option linter.unusedSimpArgs false
set_option linter.unusedVariables false
set_option maxHeartbeats 16000000
set_option maxRecDepth 100000
open Go.Proofs.Tryz
namespace Go.Proofs.YthacfgmdihcffaaGreatDoor
namespace Pol
open Go.RowKit Go.Sort Limb
variable {w w':World} {K b i k1 k2 lo lo' off:Nat} {P Q:List Tm} {t x:FV} {o o1 o2:Nat->Int}
theorem jht (c:TV) (ah:Rat) (j:World) (M:AF j c.c ah) (S:LF c.c 900000) (N:Nat) (ai:FV) (r:Rat) (O:Bxs j N 32 (cFv ai)) (L:AF j ai r) (R:LF ai 900000):Cl 187 #[TV.v c,.pointer (some ⟨N,0,none⟩)] j λen w'=>∃ ay:FV,en=.returned (TV.v ⟨ay,c.m⟩)/\DF w' j.heap.size ay (ah*r)/\Bl j w':=by
 have W:=qh<|M.len S;have G:=qh S;obtain⟨J,s⟩:=gn ((j.alloc (.cells (cTv c.c c.m).toArray 37)).alloc (.cells zTv.toArray 37));have g:=bq s ((zk.alloc zj _).alloc (by go_size) _);have E:=qh<|bz s ((Bxs.new j 37 (cTv c.c c.m)).alloc _)
 have n:=qh (show Bxs J (j.heap.size+1) 37 zTv by
  have u:=Bxs.new (j.alloc (.cells (cTv c.c c.m).toArray 37)) 37 zTv;rw[World.size_alloc] at u;rw[s]
  exact u)
 have H:=qh g;obtain⟨A1,p⟩:=gn j.heap.size;obtain⟨D,q⟩:=gn (j.heap.size+1);have U:=qh (show j.heap.size<=D by omega);have V:=qh<|show j.heap.size<=J.heap.size from g.size;have NF:=qh<|M.below g;have Y:=qh<|L.len R;have F:=qh R;have NC:=qh<|L.below g;have BC:=qh<|O.below g O.lt;clear O L R M S;change Cl 187 #[.agg #[.bool c.c.t.s,.slice c.c.t.a c.c.t.n c.c.t.c,.bool c.c.l.s,.slice c.c.l.a c.c.l.n c.c.l.c,.int .u16 c.m.x,.int .u16 c.m.y,.int .u16 c.m.z,.int .u16 c.m.t],.pointer (some ⟨N,0,none⟩)] j _;go_enter func187,ntmps187
 go_upto_region 1 with (fail)
 rw[<- s,<- q,<- p];rw[<- p] at E;rw[<- q] at n;clear s g p q;obtain⟨d,h⟩:=gn (ah*r:Rat);have m:=qh h;have X:=qh (show LQ d 1800002 by rw[h];exact LQ.mul (W.o.up (by decide:_<=900001)) (Y.o.up (by decide:_<=900001)) Ze);clear h
 go_upto_region 1 with (fail)
 refine FS.Jd 7 [] (FS.JI [(3,FS.Sp.made (λx:FV=>x.v) (λx w'=>DF w' J.heap.size x d) FV.blk)])
  (λw'=>Bl J w') Zk Zk Zk
  (FS.Jb (FS.Sp.Jf _ (λ_ _ _ u _ hk=>u.kept hk) (FS.JG Zk)) (FS.Jh)) (λ_ _ u k=>u.trans (k.mono u.size)) (zk.drew) ?_
 simp only[zu,zi,ze,zx,zy,zv,zw]
 iterate 3
  refine FS.rdw (λw' f=>by obtain⟨v,y,z,A,aa,ab,ad,ae,B,C⟩:=(E.o.bl f).d8;obtain⟨v,y,z,A,B,C⟩:=(BC.o.bl f).d4;go_simp;try rfl) ?_
 refine FS.Jc rfl rfl rfl (λw' ag=>?_) ?_
 ·have f:=ag.world;refine FS.Jm (FS.PM (λx:FV=>x.v) (λx w'=>DF w' J.heap.size x d) FV.blk w'.heap.size) ?_ (λ_ _ u=>u.post (λ_ _=>FV.inj));go_simp;have T:=qmul (NF.o.below f) (LF.up G.o (by decide:_<=900000)) (NC.o.below f) (LF.up F.o (by decide:_<=900000));rw[<- m.o] at T;refine T.mono ?_;rintro e ax ⟨za,rfl,Z,k⟩;exact⟨_,rfl,⟨za,rfl,Z.mono f.size,Z.QV⟩,k⟩
 rintro _ ⟨a,rfl⟩
 conv=>arg 10;simp only[Act.put,zq0,zq1,zq2]
 iterate 3
  refine FS.rdw (λw' f=>by obtain⟨v,y,z,A,aa,ab,ad,ae,B,C⟩:=(E.o.bl f).d8;go_simp;try rfl) ?_
 refine FS.Jn (λl k hF=>?_);have I:=qh<|show DF l J.heap.size a d from(FS.JQ (val:=(λx:FV=>x.v)) (Φ:=λx w'=>DF w' J.heap.size x d) (λ_ _=>FV.inj) (hF.all 3));clear hF;have n:=qh<|n.o.bl k;have H:=qk H k;clear k;have HD:=qh (show DF (Xr l D (.bool a.t.s) (.slice a.t.a a.t.n a.t.c) (.bool a.l.s) (.slice a.l.a a.l.n a.l.c) (.int .u16 c.m.x) (.int .u16 c.m.y) (.int .u16 c.m.z) (.int .u16 c.m.t)) j.heap.size a (ah*r) from by rw[show(ah*r)=d from m.o.symm];exact jdw (I.o.mono V.o) n.o Ze ..);have HB:=qh<|show Bl j (Xr l D (.bool a.t.s) (.slice a.t.a a.t.n a.t.c) (.bool a.l.s) (.slice a.l.a a.l.n a.l.c) (.int .u16 c.m.x) (.int .u16 c.m.y) (.int .u16 c.m.z) (.int .u16 c.m.t)) from J5 H.o U.o ..;obtain⟨aj,ak,am,an,ao,aq,ar,au,av,aw⟩:=n.o.d8;go_wp2;refine bodyPost_ret (Je rfl _ _ _ _ _ _ _ rfl (J9 n.o ..) underlying37 rfl Zk) rfl ⟨a,rfl,HD.o,HB.o⟩
theorem jky (W:PV) (L:List Tm) (f:FV) (r:Rat) (k n E:Nat) (j:World) (S:AP j W L) (A:PB L n k 65535) (s:W.n<=1000000) (N:AF j f r) (U:LF f 900000) (R:LQ r E) (B:k<=900000) (q:n*(k+E+1)<=900000) :
  Cl 148 #[W.v,f.v] j λe w'=>∃ X:PV,e=.returned X.v/\DP w' j.heap.size X (Qt r L)/\Bl j w':=by
 have l:=qh<|Bxs.new j 32 (cFv f);obtain⟨ab,m⟩:=gn (j.alloc (.cells (cFv f).toArray 32));have g:=bq m (zk.alloc zj _);have l:=qh<|bz m l.o;have J:=qh<|XM (S.below g) (λt C=>(A.lq t C).up B) Zo;have v:=qh A;have Y:=qh<|N.below g;have LC:=qh U;have HR:=qh R;have Z:=qh B;have H:=qh q;have h:=qh g;have HV:=qh m;obtain⟨xa,F,xc⟩:=W;have I:=qh<|show F<=1000000 from s;clear m g S A N U R B q s;change Cl 148 #[.slice xa F xc,.agg #[.bool f.t.s,.slice f.t.a f.t.n f.t.c,.bool f.l.s,.slice f.l.a f.l.n f.l.c]] j _;go_enter func148,ntmps148;go_wp2_with fail
 rw[<- HV.o];with_reducible refine J.o.mono ?_
 rintro e w1 ⟨z,rfl,D,u,c⟩;obtain⟨aa,y,hK,a⟩:=D.rowA (λt C=>(v.o.lq t C).up Z.o)
 have hl:aa.length=L.length:=by rw[<- a,List.length_map]
 have hP:=v.o.len
 have M:=qh (with_any 187 #[.pointer (some ⟨j.heap.size,0,none⟩)] z aa (λe=>(e.1.m,e.2*r)) (k+E) w1 y (by
   have:=y.len;have h5:z.n<=F:=u;have:=I.o
   omega) (zm (Nat.mul_le_mul_right _ Zo) H.o) (λ_ _=>Zk)
  (λe p V d ha O=>jht e.1 e.2 V ha O j.heap.size f r ((l.o.bl c).below d (Nat.lt_of_lt_of_le l.o.lt c.size)) ((Y.o.below c).below d) LC.o)
  (λe p=>D.small (tm e) (by rw[<- a];exact List.mem_map_of_mem p)) (λe p=>((v.o.lq (tm e) (by rw[<- a];exact List.mem_map_of_mem p)).ls.mul HR.o.ls).lq zj zj))
 have HL:=qh a;have h:=qk h c;clear D u c y hK a hl hP J;go_wp2_with fail
 with_reducible refine M.o.mono ?_
 rintro e V ⟨X,rfl,T,d⟩;have HY:=qh T;have G:=qh d;clear T d M;go_wp2;go_ret;refine⟨X,rfl,?_,h.o.trans (G.o.mono h.o.size)⟩
 have e1:Qt r L=nf (aa.map λe=>(e.1.m,e.2*r)):=by
  unfold Qt JZ;rw[<- HL.o,List.map_map];rfl
 rw[e1];exact HY.o.mono h.o.size
theorem TV.one (d:TV):∀ c∈d.cells,c.oneCell'=true:=by
 intro c a;simp only[TV.cells,List.mem_cons,List.mem_nil_iff,or_false] at a
 rcases a with rfl | rfl | rfl | rfl | rfl | rfl | rfl | rfl <;> rfl
theorem flat_inv (c:List TV) (a:Nat) (v:Value) (g:(c.flatMap TV.cells)[a]?=some v):∃ i k t,a=i*8+k/\c[i]?=some t/\t.cells[k]?=some v:=by
 have f:=(List.getElem?_eq_some_iff.1 g).1;rw[Y1] at f;have d:a/8<c.length:=Zo;refine⟨a/8,a%8,c[a/8],Zo,List.getElem?_eq_getElem d,?_⟩;rw[<- flat_get c (a/8) (a%8) _ (List.getElem?_eq_getElem d) (Nat.mod_lt _ Zo),show a/8*8+a%8=a by omega];exact g
theorem app_run (m:World) (j:Nat) (v:Value) (h c:List TV) (a:Option Addr) (n R E:Nat) (G:OT m j v h) (A:RT m a c) (g:c.length=n) (U:h.length+c.length<=4000000) (y:j<=m.heap.size) :
  ∃ l w',(Builtin.append_ #[23,23] E #[v,.slice a n R]).run prog m=.ok l w'/\OT w' j l (h++c)/\m.grownBy w' v.ownBlock:=by
 obtain⟨O,r,B,C,D⟩:=info_parts info8
 cases a with
 | none =>
  have L:c=[]:=by
   by_cases d:c=[]
   ·exact d
   ·obtain⟨b,off,p,-⟩:=A.ex d
    cases p
  subst L;obtain rfl:0=n:=g;refine⟨v,m,?_,by rw[List.append_nil];exact G,rfl,rfl,rfl,zj,λ_ _ _=>rfl⟩
  rcases G.2 with ⟨rfl,d⟩ | ⟨V,S,T,rfl,_,_,z,_⟩
  ·simp[Builtin.append_,run_underlying (P:=prog) underlying23,sizeOf,typeInfo,r,Builtin.lenOf,Builtin.firstCells]
  ·simp[Builtin.append_,run_underlying (P:=prog) underlying23,sizeOf,typeInfo,r,Builtin.lenOf,Builtin.firstCells,z,storeCells]
 | some ad =>
  have hcell:∀ F s,(c.flatMap TV.cells)[F]?=some s->m.cell? (ad.add F)=some s:=λF s J=>by
   obtain⟨i,k,t,rfl,f,q⟩:=flat_inv c F s J;obtain⟨b,off,H,I⟩:=A.ex (λd=>by rw[d] at f;cases f);obtain rfl:=Option.some.inj H;have u:=I i t f k s q;rw[Nat.add_assoc] at u;rw[show(⟨b,off,none⟩:Addr).add (i*8+k)=⟨b,off+(i*8+k),none⟩ by simp[Addr.add]];exact u
  obtain⟨l,w',p,f,q,-⟩:=run_append_own (P:=prog) m j 23 E 37 O _ 8 72 underlying23 r B C D rfl Ze v h.length (h.flatMap TV.cells) G ad n R (c.flatMap TV.cells)
   (by rw[Y1,g]) hcell (λs N=>by obtain⟨t,_,M⟩:=List.mem_flatMap.1 N;exact TV.one t s M) (by rw[<- g];unfold maxLen;omega) (by rw[<- g];omega) y
  refine⟨l,w',p,?_,q⟩;show w'.ownsRow _ _ _ _ _ _;rw[List.flatMap_append,List.length_append,g];exact f
theorem jkz (n:Nat) (c:World) (s:n<=4000000):Cl 185 #[.slice none 0 0,.int .i64 n] c λe w'=>∃ v,e=.returned v/\OT w' c.heap.size v []/\Bl c w':=by
 obtain⟨p,m,f,g,h⟩:=info_parts info8;by_cases k:n=0
 ·subst k;refine(Any8.slices_Grow_room (P:=prog) (ρ:=Tryz.growT_ren) Tryz.growT none 0 0 0 c zj Ze Ze Ze).mono ?_;rintro e w' ⟨rfl,rfl⟩;exact⟨_,rfl,World.ownsRow_nil _ _ _ _,zk⟩
 ·refine(Any8.slices_Grow_grow (P:=prog) (ρ:=Tryz.growT_ren) Tryz.growT p _ m f (by rw[g];decide) none 0 0 n [] c zj Zo (by rw[h];omega) Zo (by rw[Nat.zero_mul];rfl) (λ_=>rfl) (λa q=>by cases q)).mono ?_;rintro e w' ⟨rfl,rfl⟩;obtain⟨j,d⟩:=gn (grownCap c (0+n) 0 37)
  have r:0+n<=j:=by rw[d];exact grownCap_ge _ _ _ _
  have l:j<=maxLen:=by rw[d];exact grownCap_le_maxLen _ _ _ _ (by unfold maxLen;omega)
  refine⟨_,rfl,?_,(zk.drew).alloc zj _⟩;change World.ownsRow (c.drew.alloc (.cells _ 37)) c.drew.heap.size 37 8 (.slice (some ⟨c.drew.heap.size,0,none⟩) 0 (grownCap c (0+n) 0 37)) 0 [];rw[<- d];refine World.ownsRow_made c.drew _ j zj l ?_;change (_++Builtin.zeroCells _ (grownCap c (0+n) 0 37-(0+n))).size=_;rw[<- d];simp only[Array.size_append,size_zeroCells,Value.cells];simp;omega
theorem conc_any (O:Nat) (a:List (PV × List TV)) (D:World) (hc:∀ i e,a[i]?=some e->D.cell? ⟨O,i,none⟩=some e.1.v) (hr:∀ e∈a,RT D e.1.a e.2/\e.2.length=e.1.n)
  (N:(a.flatMap Prod.snd).length<=4000000) (L:a.length<=1000) :
  Cl 147 #[.slice (some ⟨O,0,none⟩) a.length a.length] D λe w'=>∃ v,e=.returned v/\OT w' D.heap.size v (a.flatMap Prod.snd)/\Bl D w':=by
 obtain⟨y,J⟩:=gn a.length;rw[<- J] at L ⊢;have A:=qh hc;have V:=qh hr;have HS:=qh N;have T:=qh L;have H:=qh J
 have I:=qh (show ∀ f,((a.take f).flatMap Prod.snd).length<=4000000 from λf=>by
  refine zm ?_ N;have ab:=congrArg (λae=>(ae.flatMap Prod.snd).length) (List.take_append_drop f a);simp only[List.flatMap_append,List.length_append] at ab
  omega)
 have B:=qh (show ∀ (i:Nat) e,a[i]?=some e->(a.take (i+1)).flatMap Prod.snd=(a.take i).flatMap Prod.snd++e.2 from λi e c=>by
  rw[List.take_add_one,c]
  simp)
 clear hc hr N L J;go_enter func147,ntmps147;go_wp2;go_loopw [3,11] (λac i wr=>∃ f:Nat,f<=y/\i=.int .i64 f/\ac=.int .i64 (((a.take f).flatMap Prod.snd).length:Nat)/\Bl D wr) (λ_ i _=>y-(intOf i).toNat)
 case atStart =>
  exact⟨0,Nat.zero_le _,rfl,rfl,zk⟩
 case round =>
  obtain⟨f,hj,rfl,rfl,h⟩:=hrel;have HJ:=qh hj;have d:=qh h;clear hj h;obtain⟨z,C⟩:=gn (((a.take f).flatMap Prod.snd).length);rw[<- C];have Y:=qh C;have Z:=qh (show z<=4000000 by rw[C];exact I.o f);clear C;by_cases s:f<y
  ·have n:=qh s;obtain⟨⟨⟨xa,k,xc⟩,u⟩,c⟩:∃ e,a[f]?=some e:=⟨_,List.getElem?_eq_getElem (by rw[<- H.o];exact s)⟩;have G:=qh c;have c0:=(d.o.cell (p:=⟨O,f,none⟩) (block_lt_of_cell (A.o f _ c))).trans (A.o f _ c);have g:u.length=k:=(V.o _ (List.mem_of_getElem? c)).2;have l:=I.o (f+1);rw[B.o f _ c,List.length_append] at l;have W:=qh (show z+k<=4000000 by rw[Y.o];change _+u.length<=_ at l;omega);have ek:IntKind.i64.wrap ((f:Int)+1)=(f:Int)+1:=IntWalk.i64_in _ (Zi n T);have ez:IntKind.i64.wrap ((z:Int)+(k:Int))=(z:Int)+(k:Int):=IntWalk.i64_in _ (Zh W);have e0:¬((z:Int)+(k:Int)<0):=Zo;have X:=qh g;clear c g l;go_wp2;go_roundw
   case rel =>
    refine⟨f+1,Zh n,rfl,?_,d.o⟩;rw[B.o f _ G.o,List.length_append,<- Y.o];show Value.int IntKind.i64 ((z:Int)+(k:Int))=.int .i64 ((z+u.length:Nat):Int);rw[X.o];rfl
   case measure=>simp[intOf];have:=n.o;omega
  ·have ad:=qh (show f=y by have:=HJ.o;omega);have E:¬((f:Int)<(y:Int)):=Zo;have R:=qh<|jkz z wr Z.o;clear s;go_wp2_with fail
   with_reducible refine R.o.mono ?_
   rintro e w1 ⟨v,rfl,j,hb⟩;have q:=qh<|OT.mono j d.o.size;have d:=qk d hb;clear j hb R E;go_wp2;go_loopw [6,27] (λac i wr=>∃ f:Nat,f<=y/\i=.int .i64 f/\OT wr D.heap.size ac ((a.take f).flatMap Prod.snd)/\Bl D wr) (λ_ i _=>y-(intOf i).toNat)
   case atStart =>
    exact⟨0,Nat.zero_le _,rfl,q.o,d.o⟩
   case round =>
    obtain⟨i,hi,rfl,j,h⟩:=hrel;have HI:=qh hi;have q:=qh j;have d:=qh h;clear hi j h;by_cases r:i<y
    ·have m:=qh r;obtain⟨⟨⟨xa,k,xc⟩,u⟩,c⟩:∃ e,a[i]?=some e:=⟨_,List.getElem?_eq_getElem (by rw[<- H.o];exact r)⟩;have G:=qh c;have c0:=(d.o.cell (p:=⟨O,i,none⟩) (block_lt_of_cell (A.o i _ c))).trans (A.o i _ c);have g:=V.o _ (List.mem_of_getElem? c);have l:=I.o (i+1);rw[B.o i _ c,List.length_append] at l;obtain⟨s',w2,M,j,F⟩:=app_run _ D.heap.size _ ((a.take i).flatMap Prod.snd) u xa k xc 23 q.o (g.1.below d.o) g.2 l d.o.size;have U:=qh j;have aa:=qh<|d.o.grown F d.o.size (λO hg=>(World.ownsRow.lt q.o O hg).1);have ek:IntKind.i64.wrap ((i:Int)+1)=(i:Int)+1:=IntWalk.i64_in _ (Zi m T);clear c g l j F;go_wp2_with (first | (at_builtin;refine wpList_append_run rfl _ _ 23 rfl _ _ rfl rfl _ _ M ?_))
     go_roundw
     case rel =>
      refine⟨i+1,Zh m,rfl,?_,aa.o⟩;rw[B.o i _ G.o];exact U.o
     case measure=>simp[intOf];have:=m.o;omega
    ·have S:=qh (show i=y by have:=HI.o;omega);have E:¬((i:Int)<(y:Int)):=Zo;clear r;go_wp2;go_ret;refine⟨_,rfl,?_,d.o⟩;have ab:=q.o;rw[S.o,H.o,List.take_length] at ab;exact ab
theorem of_at {j:World} {h:PV} (d:AP w h P) (f:Bl w j) (k:∀ t∈P,LQ t.2 900000) (g:h.n<=1000000000):Cl 30 #[h.v] j λe w'=>∃ l:PV,e=.returned l.v/\KP w l P/\l.n<=h.n/\Bl j w':=by
 rcases d with d | ⟨d,rfl⟩
 ·exact(of_k (d.below f) k g).mono λe w' ⟨a,c⟩=>⟨h,a,d,zj,c⟩
 ·exact(of_b (d.below f) g).mono λe w' ⟨a,c⟩=>⟨⟨none,0,0⟩,a,KP.nil _ _ _,Nat.zero_le _,c⟩
theorem AP.canon {c:PV} (a:AP w c P):Canon P:=a.elim (λa=>a.canon) (λa=>by rw[a.2];exact Canon.nil)
theorem AP.small {d:PV} (a:AP w d P):∀ t∈P,t.1.Small:=a.elim (λa=>a.small) (λa=>by rw[a.2];exact λt c=>by cases c)
theorem pair_get {c:Type} {h j:c} {d:c->Prop} (f:d h) (g:d j):∀ e∈[h,j],d e:=λe a=>by
 rcases List.mem_cons.1 a with rfl | a
 ·exact f
 ·rw[List.mem_singleton.1 a];exact g
theorem Y8 (h bu:PV) (P Q:List Tm) (k:Nat) (n:World) (hx:AP n h P) (hy:AP n bu Q) (aQ:h.n<=1000000) (aR:bu.n<=1000000) (N:∀ t∈P,LQ t.2 k) (O:∀ t∈Q,LQ t.2 k)
  (hk:2*k+2<=900000) (hn:P.length+Q.length<=1000000) :
  Cl 89 #[h.v,bu.v] n λe w'=>∃ z:PV,e=.returned z.v/\DP w' n.heap.size z (Qv P Q)/\Bl n w':=by
 have HX:=qh hx;have HY:=qh hy;have aF:=qh aQ;have aG:=qh aR;have HK:=qh hk
 have an:∀ t∈P++Q,LQ t.2 k:=λt ht=>(List.mem_append.1 ht).elim (N t) (O t)
 have aS:=qh an;have HN:=qh hn;have aV:=qh (show ∀ s aT,cf ((P++Q).take s) aT=0\/LQ (cf ((P++Q).take s) aT) (2*k+2) from λs aT=>add_cf hx.canon hy.canon N O s aT);have a2:=qh (show ∀ t∈P,LQ t.2 900000 from λt ht=>(N t ht).up Zo);have a5:=qh (show ∀ t∈Q,LQ t.2 900000 from λt ht=>(O t ht).up Zo)
 have bb:=λ(t:TypeId) (n:World)=>run_makeMap (P:=prog) t n
 obtain⟨xa,xn,xc⟩:=h;obtain⟨ya,yn,yc⟩:=bu;change Cl 89 #[.slice xa xn xc,.slice ya yn yc] n _;clear hx hy aQ aR N O hk hn an;go_enter func89,ntmps89
 go_upto_region 2 with (fail)
 clear bb;obtain⟨V0,B⟩:=gn (n.alloc (.map #[] 0));have p:=bq B (zk.alloc zj _);have az:=qh (show MK V0 n.heap.size n.heap.size [] by rw[B];exact⟨heap_alloc_new n _,zj,λe d=>(by cases d),List.Pairwise.nil,List.nodup_nil,λe d=>(by cases d)⟩);rw[<- B];have a:=qh p;clear B p;have O1:=qh<|of_at HX.o a.o a2.o (by have r:xn<=1000000:=aF.o;show xn<=_;omega);go_wp2_with fail
 with_reducible refine O1.o.mono ?_
 rintro e w1 ⟨⟨R,E,S⟩,d,N,aM,c⟩;obtain rfl:e=.returned (.slice R E S):=d;have HP:=qh N;have a1:=qh aM;have aA:=qh<|az.o.below c;have a:=qk a c;clear N aM c O1 az;have O2:=qh<|of_at HY.o a.o a5.o (by have r:yn<=1000000:=aG.o;show yn<=_;omega);go_wp2_with fail
 with_reducible refine O2.o.mono ?_
 rintro e W ⟨⟨T,F,U⟩,d,O,aN,c⟩;obtain rfl:e=.returned (.slice T F U):=d;have HQ:=qh O;have a4:=qh aN;have aB:=qh<|aA.o.below c;have a:=qk a c;clear O aN c O2 aA;obtain⟨y,g1,g2,g3,g4⟩:=HP.o.ex;obtain⟨A,k1,k2,k3,k4⟩:=HQ.o.ex;have BB:=qh<|Bxs.new W 23 [.slice R E S,.slice T F U];have ao:Bl W (W.alloc (.cells #[.slice R E S,.slice T F U] 23)):=zk.alloc zj _;have aC:=qh<|aB.o.below ao;have a:=qk a ao;have G:=qh (show(y++A).map tm=P++Q by rw[List.map_append,g4,k4]);have aw:=qh (show ∀ e∈y++A,KF n e.1.c e.2 from λe d=>(List.mem_append.1 d).elim (g3 e) (k3 e));have ay:=qh (show y.length+A.length<=2000000 by have h1:=a1.o;have h2:=aF.o;have h3:=a4.o;have h4:=aG.o;change E<=xn at h1;change xn<=_ at h2;change F<=yn at h3;change yn<=_ at h4;change y.length=E at g2;change A.length=F at k2;omega)
 have CC:=qh (show Cl 147 #[.slice (some ⟨W.heap.size,0,none⟩) 2 2] (W.alloc (.cells #[.slice R E S,.slice T F U] 23)) _ from conc_any W.heap.size [(⟨R,E,S⟩,y.map Prod.fst),(⟨T,F,U⟩,A.map Prod.fst)] (W.alloc (.cells #[.slice R E S,.slice T F U] 23)) (λi e d=>by
   match i,d with
   | 0,d=>obtain rfl:=Option.some.inj d;exact BB.o.ce 0
   | 1,d=>obtain rfl:=Option.some.inj d;exact BB.o.ce 1)
  (pair_get ⟨g1.below a.o,by rw[List.length_map];exact g2⟩ ⟨k1.below a.o,by rw[List.length_map];exact k2⟩) (by simp;have:=ay.o;omega) (by simp))
 have HF:=qh (show(([(⟨R,E,S⟩,y.map Prod.fst),(⟨T,F,U⟩,A.map Prod.fst)]:List (PV × List TV)).flatMap Prod.snd)=(y++A).map Prod.fst by simp);have af:=qh (show(y++A).length<=2000000 by rw[List.length_append];exact ay.o);obtain⟨L,hL⟩:=gn (y++A);rw[<- hL] at G aw HF af;clear g1 g2 g3 g4 k1 k2 k3 k4 hL ao aB;go_wp2_with fail
 with_reducible refine CC.o.mono ?_
 rintro e w3 ⟨v,rfl,m,c⟩;rw[HF.o] at m;have ag:=qh<|OT.mono m a.o.size;have aZ:=qh<|aC.o.below c;have a:=qk a c;clear m c CC aC BB;obtain⟨ra,rc,rfl,-,-⟩:=OT.slice ag.o;obtain⟨J,au⟩:=gn ((L.map Prod.fst).length);rw[<- au] at ag ⊢;have X:=qh (show L.length=J by rw[au,List.length_map]);clear au;go_wp2;go_loopw [16] (λi wr=>∃ (s:Nat) (ac:List TE),s<=J/\i=.int .i64 s/\MK wr n.heap.size n.heap.size ac/\(∀ f,ev (ac.map tm) f=ev ((L.take s).map tm) f)/\ac.length<=s/\OT wr n.heap.size (.slice ra J rc) (L.map Prod.fst)/\Bl n wr) (λi _=>J-(intOf i).toNat)
 case atStart =>
  exact⟨0,[],Nat.zero_le _,rfl,aZ.o,λf=>(by rw[zy]),zj,ag.o,a.o⟩
 case round =>
  obtain⟨s,ac,hj,rfl,hM,aK,aL,m,aI⟩:=hrel;have HJ:=qh hj;have u:=qh hM;have ad:=qh aK;have aD:=qh aL;have H:=qh m;have a:=qh aI;clear hj hM aK aL m aI;have aX:=qh (show L.length=P.length+Q.length by have r:=congrArg List.length G.o;rw[List.length_map,List.length_append] at r;exact r)
  have ax:=qh (show ∀ e∈ac,LQ e.2 900000 from λe d=>by
   refine jdr (l:=ac.map tm) (L:=(L.take s).map tm) ?_ ad.o (λaT=>?_) HK.o (tm e) (List.mem_map_of_mem d)
   ·have r:=u.o.keys;rw[List.map_map];exact r
   ·rw[List.map_take,G.o]
    exact aV.o s aT)
  by_cases aa:s<J
  ·have ae:=qh aa
   have aq:s<L.length:=by rw[X.o];exact aa
   obtain⟨br,bs,e1,-,aO⟩:=OT.slice H.o
   obtain⟨rfl,-,rfl⟩:ra=br/\J=_/\rc=bs:=by simpa only[Value.slice.injEq] using e1
   obtain⟨pb,po,rfl,bc,aJ⟩:=aO.off (i:=s) (by rw[List.length_map];exact aq);obtain⟨e,d⟩:∃ e,L[s]?=some e:=⟨_,List.getElem?_eq_getElem aq⟩;obtain⟨t,av⟩:=e;obtain⟨c0,c1,c2,c3,c4,c5,c6,c7⟩:=RT.eight aJ (i:=s) (t:=t) (by rw[List.getElem?_map,d];rfl);have HE:=qh d;have M:=List.mem_of_getElem? d;clear aJ d bc aq aO e1
   go_upto_region 5 with (fail)
   obtain⟨aj,B⟩:=gn (wr.alloc (.cells (cTv t.c t.m).toArray 37));have p:=bq B (zk.alloc zj _);have B7:=qh<|al B;obtain⟨A7,ak⟩:=gn wr.heap.size;rw[<- B,<- ak];rw[<- ak] at B7;have u:=qh<|u.o.below p;have H:=qh<|OT.below H.o p;have a:=qk a p;have NF:=qh<|show KF aj t.c av from(aw.o _ M).below a.o
   have ar:(t.m,av)∈P++Q:=by rw[<- G.o];exact List.mem_map_of_mem M
   have a3:=qh<|show LQ av k from aS.o _ ar;have ah:=qh<|show LQ av 900000 from a3.o.up (Zh HK);have a6:=qh<|show t.m.Small from(List.mem_append.1 ar).elim (HP.o.small _) (HQ.o.small _);have a7:=qh<|show n.heap.size<=aj.heap.size from a.o.size;have ek:IntKind.i64.wrap ((s:Int)+1)=(s:Int)+1:=IntWalk.i64_in _ (by have:=ae.o;have:=X.o;have:=af.o;omega);clear B p ak M ar c0 c1 c2 c3 c4 c5 c6 c7 aa;have a0:=qh (show ∀ e∈ac,∀ b,FV.blk e.1.c b->b<aj.heap.size from λe d b c=>((u.o.df e d).QV b c).2);obtain⟨q,C⟩:=gn ((1:Int):Rat);have Y:=qh C;have I:=qh (show LQ q 3 by rw[C];exact LQ.int Ze Ze);clear C;obtain⟨j,D⟩:=gn (av*q:Rat);have Z:=qh D;have a8:=qh (show LQ j 1800000 by rw[D];exact LQ.mul (ah.o.up (by decide:_<=900000)) (I.o.up (by decide:_<=900000)) Ze);clear D
   go_upto_region 5 with (fail)
   refine FS.Jd 7 [] (FS.JI [(3,FS.Sp.made (λh:FV=>h.v) (λh w'=>DF w' aj.heap.size h q) FV.blk),(4,FS.Sp.made (λh:FV=>h.v) (λh w'=>DF w' aj.heap.size h j) FV.blk)])
    (λw'=>Bl aj w') Zk Zk Zk
    (FS.Jb (FS.Sp.Jf _ (λ_ _ _ r _ hk=>r.kept hk) (FS.JG Zk)) (FS.Jb (FS.Sp.Jf _ (λ_ _ _ r _ hk=>r.kept hk) (FS.JG Zk)) (FS.Jh))) (λ_ _ r c=>r.trans (c.mono r.size)) (zk.drew) ?_
   simp only[zu,zi,ze,zx,zy,zv,zw]
   iterate 3
    refine FS.rdw (λw' g=>by obtain⟨be,bf,bg,bh,bi,bj,bk,bm,bn,bo⟩:=(B7.o.bl g).d8;go_simp;try rfl) ?_
   refine FS.Jc rfl rfl rfl (λw' ab=>?_) ?_
   ·have g:=ab.world;refine FS.Jm (FS.PM (λh:FV=>h.v) (λh w'=>DF w' aj.heap.size h q) FV.blk w'.heap.size) ?_ (λ_ _ r=>r.post (λ_ _=>FV.inj));go_simp;have CT:=qof 1 w' Ze Ze;rw[<- Y.o] at CT;refine CT.mono ?_;rintro e bt ⟨za,rfl,m,c⟩;exact⟨_,rfl,⟨za,rfl,m.mono g.size,m.QV⟩,c⟩
   rintro _ ⟨y3,rfl⟩
   conv=>arg 10;simp only[Act.put,zq0,zq1,zq2]
   refine FS.Jc rfl rfl rfl (λw' ab=>?_) ?_
   ·have g:=ab.world;refine FS.Jm (FS.PM (λh:FV=>h.v) (λh w'=>DF w' aj.heap.size h j) FV.blk w'.heap.size) ?_ (λ_ _ r=>r.post (λ_ _=>FV.inj));go_simp;have f3:=FS.JQ (val:=(λh:FV=>h.v)) (Φ:=λh w'=>DF w' aj.heap.size h q) (λ_ _=>FV.inj) (ab.fact 3 Zk);have CT:=qmul ((NF.o.below g)).any (((NF.o.below g)).len ah.o (by decide:_<=900000)) (f3).k.any (((f3).k).len I.o (by decide:_<=900000));rw[<- Z.o] at CT;refine CT.mono ?_;rintro e bt ⟨za,rfl,m,c⟩;exact⟨_,rfl,⟨za,rfl,m.mono g.size,m.QV⟩,c⟩
   rintro _ ⟨y4,rfl⟩
   conv=>arg 10;simp only[Act.put,zq0,zq1,zq2]
   iterate 2
    refine FS.rdw (λw' g=>by obtain⟨be,bf,bg,bh,bi,bj,bk,bm,bn,bo⟩:=(B7.o.bl g).d8;go_simp;try rfl) ?_
   refine FS.Jn (λV c hF=>?_);have ai:=qh<|show DF V aj.heap.size y4 j from(FS.JQ (val:=(λh:FV=>h.v)) (Φ:=λh w'=>DF w' aj.heap.size h j) (λ_ _=>FV.inj) (hF.all 4));clear hF;have u:=qh<|u.o.below c;have H:=qh<|H.o.below c;have a:=qk a c;clear c;have aU:=qh (show ∀ e∈ac,FV.apart e.1.c y4 from λe d b a9 ba=>Nat.not_lt_of_le (ai.o.QV b ba).1 (a0.o e d b a9));have AD:=qh<|Vu n.heap.size n.heap.size ac y4 av t.m V u.o (show DF V n.heap.size y4 av by have r:=ai.o.mono a7.o;rwa [show j=av by rw[Z.o,Y.o];grind] at r) aU.o a6.o ah.o ax.o a.o.size;go_wp2_with fail
   with_reducible refine AD.o.mono ?_
   rintro e w9 ⟨rfl,⟨M',aH,aP⟩,am⟩;have aY:=qh aH;have aE:=qh aP;have H:=qh<|show OT w9 n.heap.size _ (L.map Prod.fst) from OT.only H.o am (λbv r=>by rw[u.o.blk] at r;cases r);have a:=qh<|Only.bel a.o am zj a.o.size;clear aH aP am AD;go_wp2;go_roundw
   case rel =>
    refine⟨s+1,M',Zh ae,rfl,aY.o,λf=>?_,?_,H.o,a.o⟩
    ·rw[aE.o,Ve,ad.o,List.take_add_one,HE.o,List.map_append,Xi];show _=_+(av*f t.m+0);grind
    ·have h1:=congrArg List.length aE.o;have h2:=Y3 t.m av (ac.map tm);rw[List.length_map] at h1 h2;have:=aD.o;omega
   case measure=>simp[intOf];have:=ae.o;omega
  ·have aW:=qh (show s=J by have:=HJ.o;omega);have bA:¬((s:Int)<(J:Int)):=Zo;have SM:=qh<|Vv n.heap.size n.heap.size ac wr u.o ax.o a.o.size (by have h1:=aD.o;have h2:=HJ.o;have h3:=X.o;have h4:=aX.o;have h5:=HN.o;omega);clear aa;go_wp2_with fail
   with_reducible refine SM.o.mono ?_
   rintro e w9 ⟨z,rfl,hz,c⟩;have HZ:=qh hz;have a:=qk a c;clear hz c SM;go_wp2;go_ret;refine⟨z,rfl,?_,a.o⟩
   have e1:nf (ac.map tm)=Qv P Q:=jav λf=>by
    rw[ad.o,List.take_of_length_le (by rw[X.o,aW.o];exact zj),G.o]
   rw[<- e1];exact HZ.o
theorem jh5:LQ ((-1:Int):Rat) 3:=LQ.int Ze Ze
theorem jf7 (x aa:PV) (H r:List Tm) (k n:Nat) (l:World) (R:AP l x H) (S:AP l aa r) (h:x.n<=1000000) (j:aa.n<=1000000) (N:∀ t∈H,LQ t.2 k) (O:PB r n k 65535)
  (L:2*k+8<=900000) (g:n*(k+4)<=900000) (M:H.length+n<=1000000) :
  Cl 90 #[x.v,aa.v] l λe w'=>∃ z:PV,e=.returned z.v/\DP w' l.heap.size z (VI H r)/\Bl l w':=by
 have HX:=qh R;have D:=qh S;have C:=qh h;have E:=qh j;have HP:=qh N;have B:=qh O;have v:=qh L;have y:=qh g;have A:=qh M;have G:=qh<|qof (-1) l Ze Ze;obtain⟨W,Y,X⟩:=x;obtain⟨Z,yn,yc⟩:=aa;change Cl 90 #[.slice W Y X,.slice Z yn yc] l _;clear R S h j N O L g M;go_enter func90,ntmps90;go_wp2_with fail
 with_reducible refine G.o.mono ?_
 rintro e U ⟨ab,rfl,J,c⟩;have u:=qh J;have a:=qh c;clear J c G;have I:=qh<|jky ⟨Z,yn,yc⟩ r ab ((-1:Int):Rat) k n 3 U (D.o.below a.o) B.o E.o u.o.k.any ((u.o.k).len jh5 Ze) jh5 (Zh v) y.o;go_wp2_with fail
 with_reducible refine I.o.mono ?_
 rintro e V ⟨⟨m,q,p⟩,he,f,c⟩;obtain rfl:e=.returned (.slice m q p):=he;have F:=qh (show DP V U.heap.size ⟨m,q,p⟩ (Qt (-1) r) from by rw[show((-1:Rat))=((-1:Int):Rat) by decide +kernel];exact f);have a:=qk a c;clear f c I;have d:=PB.scale D.o.canon B.o (c:=(-1:Rat)) (k2:=3) (by rw[show((-1:Rat))=((-1:Int):Rat) by decide +kernel];exact jh5);have T:=F.o.k.len;have h1:=d.len;have s:=qh<|Y8 ⟨W,Y,X⟩ ⟨m,q,p⟩ H (Qt (-1) r) (k+3) V (HX.o.below a.o) F.o.k.any C.o (Zh A) (λt ht=>(HP.o t ht).up Zo) d.lq (Zh v) (Zh A);clear d T h1;go_wp2_with fail
 with_reducible refine s.o.mono ?_
 rintro e w3 ⟨z,rfl,f,c⟩;have HR:=qh<|f.mono a.o.size;have a:=qk a c;clear f c s;go_wp2;go_ret;exact⟨z,rfl,HR.o,a.o⟩
theorem mono_mul (a b:Mo) (p:World) (v:(a.mul b).Small):Cl 146 #[Mo.v a,Mo.v b] p λe w'=>e=.returned (.tuple #[Mo.v (a.mul b),.int .i64 0])/\Bl p w':=by
 obtain⟨f,g,h,j⟩:=v;change a.x+b.x<=65535 at f;change a.y+b.y<=65535 at g;change a.z+b.z<=65535 at h;change a.t+b.t<=65535 at j
 have d:∀ c:Mo,c.Small->Mono.Small (λi=>((c.at i:Nat):Int)):=λc n i m=>by
  obtain⟨q,r,s,u⟩:=n
  match i,m with
  | 0,_=>exact⟨Int.natCast_nonneg _,by show(c.x:Int)<=_;omega⟩
  | 1,_=>exact⟨Int.natCast_nonneg _,by show(c.y:Int)<=_;omega⟩
  | 2,_=>exact⟨Int.natCast_nonneg _,by show(c.z:Int)<=_;omega⟩
  | 3,_=>exact⟨Int.natCast_nonneg _,by show(c.t:Int)<=_;omega⟩
 have k:Mono.Yg (λi=>((a.at i:Nat):Int)) (λi=>((b.at i:Nat):Int))=true:=decide_eq_true (by
  show(a.x:Int)+b.x<=65535/\(a.y:Int)+b.y<=65535/\(a.z:Int)+b.z<=65535/\(a.t:Int)+b.t<=65535
  omega)
 refine(Mono.Kb (λi=>((a.at i:Nat):Int)) (λi=>((b.at i:Nat):Int)) p (d a ⟨Zo,Zo,Zo,Zo⟩) (d b ⟨Zo,Zo,Zo,Zo⟩)).mono ?_;rintro e w' ⟨rfl,l⟩;refine⟨?_,l⟩;unfold Mono.Ui Mono.mulM;simp only[k,if_true];rfl
theorem jk0 (a b:Mo) (l:World) (h:a.Small) (c:b.Small) (r:¬(a.mul b).Small):Cl 146 #[Mo.v a,Mo.v b] l λe w'=>e=.returned (.tuple #[.agg #[.int .u16 0,.int .u16 0,.int .u16 0,.int .u16 0],.int .i64 3])/\Bl l w':=by
 have f:∀ d:Mo,d.Small->Mono.Small (λi=>((d.at i:Nat):Int)):=λd k i j=>by
  obtain⟨m,n,p,q⟩:=k
  match i,j with
  | 0,_=>exact⟨Int.natCast_nonneg _,by show(d.x:Int)<=_;omega⟩
  | 1,_=>exact⟨Int.natCast_nonneg _,by show(d.y:Int)<=_;omega⟩
  | 2,_=>exact⟨Int.natCast_nonneg _,by show(d.z:Int)<=_;omega⟩
  | 3,_=>exact⟨Int.natCast_nonneg _,by show(d.t:Int)<=_;omega⟩
 have g:Mono.Yg (λi=>((a.at i:Nat):Int)) (λi=>((b.at i:Nat):Int))=false:=zo (by
  show ¬((a.x:Int)+b.x<=65535/\(a.y:Int)+b.y<=65535/\(a.z:Int)+b.z<=65535/\(a.t:Int)+b.t<=65535);intro s;refine r ⟨?_,?_,?_,?_⟩
  ·show a.x+b.x<=65535;omega
  ·show a.y+b.y<=65535;omega
  ·show a.z+b.z<=65535;omega
  ·show a.t+b.t<=65535
   omega)
 refine(Mono.Kb (λi=>((a.at i:Nat):Int)) (λi=>((b.at i:Nat):Int)) l (f a h) (f b c)).mono ?_;rintro e w' ⟨rfl,c⟩;refine⟨?_,c⟩;unfold Mono.Ui Mono.mulM;simp only[g];rfl
def Ovf (P Q:List Tm):Prop:=∃ s∈P,∃ t∈Q,¬(s.1.mul t.1).Small
def MulR (w:World) (P Q:List Tm) (e:Ending) (w':World):Prop :=
 (∃ z:PV,e=.returned (.tuple #[z.v,.int .i64 0])/\¬Ovf P Q/\DP w' w.heap.size z (Ql P Q)/\Bl w w')\/(e=.returned (.tuple #[.slice none 0 0,.int .i64 3])/\Ovf P Q/\Bl w w')
theorem Bxs.only {c:Nat} {l:TypeId} {j:List Value} {d:Array MapEntry} {k:Nat} (f:Bxs w c l j) (h:Only b w w') (g:w.heap[b]?=some (.map d k)):Bxs w' c l j :=
 f.of (h.2.2.2.2 c f.lt λe=>by subst e;have a:w.heap[c]?=some (.cells j.toArray l (0,0)):=f;rw[g] at a;cases a)
theorem mul_g (x bM:PV) (E p:List Tm) (k1 k2:Nat) (G:World) (hx:KP G x E) (hy:KP G bM p) (hp:∀ t∈E,LQ t.2 k1) (hq:∀ t∈p,LQ t.2 k2) (hk:k1+k2<=900000)
  (hc:∀ (i:Nat) (aR:Tm) (q:Nat) (W:Mo),E[i]?=some aR->cf (mulL (E.take i) p++Kw aR (p.take q)) W=0\/LQ (cf (mulL (E.take i) p++Kw aR (p.take q)) W) 900000)
  (hd:∀ (i:Nat) (W:Mo),cf (mulL (E.take i) p) W=0\/LQ (cf (mulL (E.take i) p) W) 900000)
  (hn:E.length*p.length<=1000000) (a2:E.length<=1000000) (a3:p.length<=1000000) :
  Cl 88 #[x.v,bM.v] G (MulR G E p):=by
 have HX:=qh hx;have HY:=qh hy;have HP:=qh hp;have HQ:=qh hq;have HK:=qh hk;have HC:=qh hc;have HD:=qh hd;have HN:=qh hn;have bo:=qh a2;have aU:=qh a3;have aP:=hx.len;have aQ:=hy.len
 have bD:=λ(t:TypeId) (G:World)=>run_makeMap (P:=prog) t G
 have C1:=qh<|Kh hx (λt ht=>(hp t ht).up Zo) Zo;obtain⟨xa,V,xc⟩:=x;obtain⟨ya,H,yc⟩:=bM;change Cl 88 #[.slice xa V xc,.slice ya H yc] G _;change V=E.length at aP;change H=p.length at aQ;have am:=qh aP;have y:=qh aQ;obtain⟨L1,g1,g2,g3,g4⟩:=hx.ex;obtain⟨L2,k3,k4,k5,k6⟩:=hy.ex;have R1:=qh g1;have R2:=qh k3;have F1:=qh g3;have F2:=qh k5;have T1:=qh g4;have T2:=qh k6;have N1:=qh<|show L1.length=V from g2;have N2:=qh<|show L2.length=H from k4;clear hx hy hp hq hk hc hd hn a2 a3 aP aQ g1 g2 g3 g4 k3 k4 k5 k6;go_enter func88,ntmps88;go_wp2_with fail
 with_reducible refine C1.o.mono ?_
 rintro e w1 ⟨rfl,c⟩;have a:=qh c;clear c C1;have C2:=qh<|Kh (HY.o.below a.o) (λt ht=>(HQ.o t ht).up (Zh HK)) (by have ao:=y.o;have:=aU.o;show H<=_;omega);go_wp2_with fail
 with_reducible refine C2.o.mono ?_
 rintro e w2 ⟨rfl,c⟩;have a:=qk a c;clear c C2
 go_upto_region 4 with (fail)
 obtain⟨V0,j⟩:=gn (w2.alloc (.map #[] 0));have d:=bq j (zk.alloc zj _);obtain⟨b,c⟩:=gn w2.heap.size;have bj:=qh (show MK V0 G.heap.size b [] by rw[j,c];exact⟨heap_alloc_new w2 _,a.o.size,λe g=>(by cases g),List.Pairwise.nil,List.nodup_nil,λe g=>(by cases g)⟩);rw[<- j,<- c];have HB:=qh (show G.heap.size<=b by rw[c];exact a.o.size);have a:=qk a d;clear j d bD c;go_wp2;go_loopw [24] (λi wr=>∃ (q:Nat) (aS:List TE),q<=V/\i=.int .i64 q/\MK wr G.heap.size b aS/\(∀ f,ev (aS.map tm) f=ev (mulL (E.take q) p) f)/\aS.length<=q*p.length/\(∀ aR∈E.take q,∀ X∈p,(aR.1.mul X.1).Small)/\Bl G wr) (λi _=>V-(intOf i).toNat)
 case atStart =>
  exact⟨0,[],Nat.zero_le _,rfl,bj.o,λf=>(by rw[zy];rfl),by simp,(λaR C=>by rw[zy] at C;cases C),a.o⟩
 case round =>
  obtain⟨q,aS,hj,rfl,hM,S,T,bb,O⟩:=hrel;have aW:=qh bb;have HJ:=qh hj;have h:=qh hM;have u:=qh S;have M:=qh T;have a:=qh O;clear hj hM S T bb O;by_cases aq:q<V
  ·have ay:=qh aq
   have aN:q<L1.length:=by rw[N1.o];exact aq
   obtain⟨pb,po,rfl,bF,R⟩:=(R1.o.below a.o).off (i:=q) (by rw[List.length_map];exact aN);obtain⟨e,g⟩:∃ e,L1[q]?=some e:=⟨_,List.getElem?_eq_getElem aN⟩;obtain⟨t,aw⟩:=e;obtain⟨c0,c1,c2,c3,c4,c5,c6,c7⟩:=RT.eight R (i:=q) (t:=t) (by rw[List.getElem?_map,g];rfl);have B:=List.mem_of_getElem? g;have N:=qh (show E[q]?=some (t.m,aw) by rw[<- T1.o,List.getElem?_map,g];rfl);have NT:=qh<|show KF G t.c aw from F1.o _ B;clear R g bF aN B
   go_upto_region 7 with (fail)
   obtain⟨aC,j⟩:=gn (wr.alloc (.cells (cTv t.c t.m).toArray 37));have d:=bq j (zk.alloc zj _);have k:=qh<|al j;obtain⟨A8,aL⟩:=gn wr.heap.size;rw[<- j,<- aL];rw[<- aL] at k;have h:=qh<|h.o.below d;have a:=qk a d;have ek:IntKind.i64.wrap ((q:Int)+1)=(q:Int)+1:=IntWalk.i64_in _ (by have:=ay.o;have:=am.o;have:=bo.o;omega);clear j d aL c0 c1 c2 c3 c4 c5 c6 c7 aq;go_wp2;go_loopw [30] (λi wi=>∃ (l:Nat) (A:List TE),l<=H/\i=.int .i64 l/\MK wi G.heap.size b A/\Bxs wi A8 37 (cTv t.c t.m)/\(∀ f,ev (A.map tm) f=ev (mulL (E.take q) p++Kw (t.m,aw) (p.take l)) f)/\A.length<=q*p.length+l/\(∀ v∈p.take l,(t.m.mul v.1).Small)/\Bl G wi) (λi _=>H-(intOf i).toNat)
   case atStart =>
    exact⟨0,aS,Nat.zero_le _,rfl,h.o,k.o,λf=>(by rw[u.o,zy];show _=ev (_++[]) f;rw[List.append_nil]),M.o,(λv D=>by rw[zy] at D;cases D),a.o⟩
   case round =>
    obtain⟨l,A,hl,rfl,hM,a0,S,T,a9,O⟩:=hrel;have aV:=qh a9;have HL:=qh hl;have h:=qh hM;have k:=qh a0;have u:=qh S;have M:=qh T;have a:=qh O;clear hl hM a0 S T a9 O;by_cases ar:l<H
    ·have aA:=qh ar
     have aO:l<L2.length:=by rw[N2.o];exact ar
     obtain⟨qb,qo,rfl,bG,R⟩:=(R2.o.below a.o).off (i:=l) (by rw[List.length_map];exact aO);obtain⟨e,g⟩:∃ e,L2[l]?=some e:=⟨_,List.getElem?_eq_getElem aO⟩;obtain⟨X,r⟩:=e;obtain⟨c0,c1,c2,c3,c4,c5,c6,c7⟩:=RT.eight R (i:=l) (t:=X) (by rw[List.getElem?_map,g];rfl);have B:=List.mem_of_getElem? g;have aj:=qh (show p[l]?=some (X.m,r) by rw[<- T2.o,List.getElem?_map,g];rfl);have NU:=qh<|show KF G X.c r from F2.o _ B;clear R g bG aO B
     go_upto_region 10 with (fail)
     obtain⟨aC,j⟩:=gn (wr.alloc (.cells (cTv X.c X.m).toArray 37));have d:=bq j (zk.alloc zj _);have m:=qh<|al j;obtain⟨bN,ag⟩:=gn wr.heap.size;rw[<- j,<- ag];rw[<- ag] at m;have h:=qh<|h.o.below d;have k:=qh<|k.o.bl d;have a:=qk a d;have au:=List.mem_of_getElem? N.o;have av:=List.mem_of_getElem? aj.o;have aY:=qh<|show LQ aw 900000 from(HP.o _ au).up (Zh HK);have aZ:=qh<|show LQ r 900000 from(HQ.o _ av).up (Zh HK);have br:=qh<|show LQ (aw*r) 900000 from((HP.o _ au).ls.mul (HQ.o _ av).ls).lq HK.o HK.o;have bt:=qh<|show t.m.Small from HX.o.small _ au;have bu:=qh<|show X.m.Small from HY.o.small _ av;clear j d ag au av c0 c1 c2 c3 c4 c5 c6 c7 ar;by_cases U:(t.m.mul X.m).Small
     ·have ak:=qh U;clear U;obtain⟨W,hm⟩:=gn (t.m.mul X.m);have MU:=qh<|mono_mul t.m X.m aC ak.o;rw[<- hm] at MU ak;have aT:=qh hm;clear hm;obtain⟨aD,aE,aF,aG,aH,aI,aJ,aK⟩:=k.o.c8;obtain⟨Y,Z,aa,ab,ac,ad,ae,af⟩:=m.o.c8;go_wp2_with fail
      with_reducible refine MU.o.mono ?_
      rintro e w5 ⟨rfl,c⟩;have h:=qh<|h.o.below c;have k:=qh<|k.o.bl c;have m:=qh<|m.o.bl c;have a:=qk a c;clear c MU aD aE aF aG aH aI aJ aK Y Z aa ab ac ad ae af
      go_upto_region 13 with (fail)
      obtain⟨aC,j⟩:=gn (w5.alloc (.cells #[.int .u16 W.x,.int .u16 W.y,.int .u16 W.z,.int .u16 W.t] 35));have d:=bq j (zk.alloc zj _);have I:=qh<|al j;obtain⟨bO,ah⟩:=gn w5.heap.size;rw[<- j,<- ah];rw[<- ah] at I;have h:=qh<|h.o.below d;have k:=qh<|k.o.bl d;have m:=qh<|m.o.bl d;have a:=qk a d;have NT:=qh<|NT.o.below a.o;have NU:=qh<|NU.o.below a.o;have bs:=qh<|show G.heap.size<=aC.heap.size from a.o.size
      have az:=qh (show ∀ e∈A,LQ e.2 900000 from λe g=>by
       refine jdr (l:=A.map tm) (L:=mulL (E.take q) p++Kw (t.m,aw) (p.take l)) ?_ u.o (λW=>HC.o q _ l W N.o) zj (tm e) (List.mem_map_of_mem g);have ao:=h.o.keys;rw[List.map_map]
       exact ao)
      have bm:=qh (show ∀ e∈A,∀ b,FV.blk e.1.c b->b<aC.heap.size from λe g b c=>((h.o.df e g).QV b c).2);have el:IntKind.i64.wrap ((l:Int)+1)=(l:Int)+1:=IntWalk.i64_in _ (by have:=aA.o;have:=y.o;have:=aU.o;omega);clear j d ah;obtain⟨s,F⟩:=gn (aw*r:Rat);have an:=qh F;have bv:=qh (show LQ s 1800000 by rw[F];exact LQ.mul (aY.o.up (by decide:_<=900000)) (aZ.o.up (by decide:_<=900000)) Ze);clear F
      go_upto_region 13 with (fail)
      refine FS.Jd 7 [] (FS.JI [(5,FS.Sp.made (λx:FV=>x.v) (λx w'=>DF w' aC.heap.size x s) FV.blk)])
       (λw'=>Bl aC w') Zk Zk Zk
       (FS.Jb (FS.Sp.Jf _ (λ_ _ _ ao _ hk=>ao.kept hk) (FS.JG Zk)) (FS.Jh)) (λ_ _ ao c=>ao.trans (c.mono ao.size)) (zk.drew) ?_
      simp only[zu,zi,ze,zx,zy,zv,zw]
      iterate 5
       refine FS.rdw (λw' n=>by obtain⟨a4,a5,a6,a7,bH,bI,bJ,bK,a8,ba⟩:=(k.o.bl n).d8;obtain⟨a4,a5,a6,a7,bH,bI,bJ,bK,a8,ba⟩:=(m.o.bl n).d8;go_simp;try rfl) ?_
      refine FS.Jc rfl rfl rfl (λw' bL=>?_) ?_
      ·have n:=bL.world;refine FS.Jm (FS.PM (λx:FV=>x.v) (λx w'=>DF w' aC.heap.size x s) FV.blk w'.heap.size) ?_ (λ_ _ ao=>ao.post (λ_ _=>FV.inj));go_simp;have CT:=qmul ((NT.o.below n)).any (((NT.o.below n)).len aY.o (by decide:_<=900000)) ((NU.o.below n)).any (((NU.o.below n)).len aZ.o (by decide:_<=900000));rw[<- an.o] at CT;refine CT.mono ?_;rintro e bP ⟨za,rfl,ho,c⟩;exact⟨_,rfl,⟨za,rfl,ho.mono n.size,ho.QV⟩,c⟩
      rintro _ ⟨y5,rfl⟩
      conv=>arg 10;simp only[Act.put,zq0,zq1,zq2]
      refine FS.rdw (λw' n=>by obtain⟨a4,a5,a6,a7,a8,ba⟩:=(I.o.bl n).d4;go_simp;try rfl) ?_;refine FS.Jn (λai c hF=>?_);have aB:=qh<|show DF ai aC.heap.size y5 s from(FS.JQ (val:=(λx:FV=>x.v)) (Φ:=λx w'=>DF w' aC.heap.size x s) (λ_ _=>FV.inj) (hF.all 5));clear hF;have h:=qh<|h.o.below c;have k:=qh<|k.o.bl c;have m:=qh<|m.o.bl c;have I:=qh<|I.o.bl c;have a:=qk a c;clear c;have bi:=qh (show ∀ e∈A,FV.apart e.1.c y5 from λe g b bA bB=>Nat.not_lt_of_le (aB.o.QV b bB).1 (bm.o e g b bA));have AD:=qh<|Vu b G.heap.size A y5 (aw*r) W ai h.o (show DF ai G.heap.size y5 (aw*r) by have ao:=aB.o.mono bs.o;rwa [show s=aw*r from an.o] at ao) bi.o ak.o br.o az.o a.o.size;obtain⟨be,bf,bg,bh⟩:=I.o.c4;go_wp2_with fail
      with_reducible refine AD.o.mono ?_
      rintro e w9 ⟨rfl,⟨M2,a1,bc⟩,aM⟩;have bk:=qh a1;have aX:=qh bc;have k:=qh<|Bxs.only k.o aM h.o.blk;have a:=qh<|Only.bel a.o aM HB.o a.o.size;clear a1 bc aM AD be bf bg bh;go_wp2;go_roundw
      case rel =>
       refine⟨l+1,M2,Zh aA,rfl,bk.o,k.o,λf=>?_,?_,λv D=>?_,a.o⟩
       ·rw[aX.o,Ve,u.o,List.take_add_one,aj.o];unfold Kw;rw[List.map_append,<- List.append_assoc,Xi (_++_)];show _=_+(aw*r*f (t.m.mul X.m)+0);rw[aT.o];grind
       ·have h1:=congrArg List.length aX.o;have h2:=Y3 W (aw*r) (A.map tm);rw[List.length_map] at h1 h2;have:=M.o;omega
       ·rw[List.take_add_one,aj.o] at D
        rcases List.mem_append.1 D with D | D
        ·exact aV.o v D
        ·rw[List.mem_singleton.1 D];show(t.m.mul X.m).Small;rw[<- aT.o];exact ak.o
      case measure=>simp[intOf];have:=aA.o;omega
     ·have MU:=qh<|jk0 t.m X.m aC bt.o bu.o U;have bn:=qh<|show Ovf E p from⟨_,List.mem_of_getElem? N.o,_,List.mem_of_getElem? aj.o,U⟩;clear U;obtain⟨aD,aE,aF,aG,aH,aI,aJ,aK⟩:=k.o.c8;obtain⟨Y,Z,aa,ab,ac,ad,ae,af⟩:=m.o.c8;go_wp2_with fail
      with_reducible refine MU.o.mono ?_
      rintro e w5 ⟨rfl,c⟩;have a:=qk a c;clear c MU aD aE aF aG aH aI aJ aK Y Z aa ab ac ad ae af;go_wp2;go_ret2;exact Or.inr ⟨rfl,bn.o,a.o.alloc a.o.size _⟩
    ·have J:=qh (show l=H by have:=HL.o;omega);have bC:¬((l:Int)<(H:Int)):=Zo;clear ar;go_wp2;go_roundw
     case rel =>
      refine⟨q+1,A,Zh ay,rfl,h.o,λf=>?_,?_,λaR C=>?_,a.o⟩
      ·rw[u.o,List.take_of_length_le (l:=p) (by rw[J.o,y.o];exact zj),List.take_add_one,N.o];show _=ev (mulL (E.take q++[(t.m,aw)]) p) f;rw[jkk]
      ·rw[Nat.add_mul,Nat.one_mul,<- y.o,<- J.o,J.o,y.o];have ao:=M.o;have h2:=J.o;have h3:=y.o;omega
      ·rw[List.take_add_one,N.o] at C
       rcases List.mem_append.1 C with C | C
       ·exact aW.o aR C
       ·rw[List.mem_singleton.1 C];intro v D;refine aV.o v ?_;rw[List.take_of_length_le (by rw[J.o,y.o];exact zj)];exact D
     case measure=>simp[intOf];have:=ay.o;omega
  ·have ax:=qh (show q=V by have:=HJ.o;omega);have bC:¬((q:Int)<(V:Int)):=Zo
   have az:=qh (show ∀ e∈aS,LQ e.2 900000 from λe g=>by
    refine jdr (l:=aS.map tm) (L:=mulL (E.take q) p) ?_ u.o (λW=>HD.o q W) zj (tm e) (List.mem_map_of_mem g);have ao:=h.o.keys;rw[List.map_map]
    exact ao)
   have SM:=qh<|Vv b G.heap.size aS wr h.o az.o a.o.size (by have h1:=M.o;rw[ax.o,am.o] at h1;have h4:=HN.o;omega);clear aq;go_wp2_with fail
   with_reducible refine SM.o.mono ?_
   rintro e w9 ⟨z,rfl,hz,c⟩;have HZ:=qh hz;have a:=qk a c;clear hz c SM;go_wp2;go_ret2;refine Or.inl ⟨z,rfl,?_,?_,a.o⟩
   ·rintro⟨aR,C,X,hu,bE⟩;refine bE (aW.o aR ?_ X hu);rw[List.take_of_length_le (by rw[ax.o,am.o];exact zj)];exact C
   have e1:nf (aS.map tm)=Ql E p:=jav λf=>by
    rw[u.o,List.take_of_length_le (by rw[ax.o,am.o];exact zj)]
   rw[<- e1];exact HZ.o
theorem jf8 (f:Mo) {c d:List Tm} (j:Canon c) (g:∀ t∈c,LQ t.2 k1) (h:∀ t∈d,LQ t.2 k2):cf (mulL c d) f=0\/∃ k,0<k/\k<=d.length/\NQ (cf (mulL c d) f) k (k1+k2):=by
 have e:cf (mulL c d) f=cf (mulL d c) f:=by
  unfold cf;rw[Uw,Uw,jir];exact congrArg (ev d) (funext λb=>congrArg (ev c) (funext λa=>by rw[Mo.mul_comm]))
 rw[e,Nat.add_comm k1 k2];exact jdq f j g h
theorem part_cfB (r:Canon P) (s:Canon Q) (g:∀ t∈P,LQ t.2 k1) (h:∀ t∈Q,LQ t.2 k2) {l:Tm} (v:P[i]?=some l) (f:Nat) (k:Mo) (q:(Q.length+1)*(k1+k2+1)<=K) :
  cf (mulL (P.take i) Q++Kw l (Q.take f)) k=0\/LQ (cf (mulL (P.take i) Q++Kw l (Q.take f)) k) K:=by
 rw[KH]
 have c:∀ f,f<=Q.length+1->f*(k1+k2+1)<=K:=λf u=>zm (Nat.mul_le_mul_right _ u) q
 have a:=jh4 (g l (List.mem_of_getElem? v)) k (Z9 s f) (λt d=>h t (List.mem_of_mem_take d))
 rcases jf8 k (Z9 r i) (λt d=>g t (List.mem_of_mem_take d)) h with m | ⟨n,p,y,j⟩
 ·rw[m,Rat.zero_add]
  rcases a with a | a
  ·exact Or.inl a
  ·exact Or.inr ((NQ.one a).lq (c 1 Zo))
 ·rcases a with a | a
  ·rw[a,Rat.add_zero];exact Or.inr (j.lq (c n Zo))
  ·exact Or.inr ((j.add (NQ.one a) p Zo).lq (c (n+1) Zo))
theorem all_cfB (h:Canon P) (a:∀ t∈P,LQ t.2 k1) (c:∀ t∈Q,LQ t.2 k2) (k:Nat) (l:Mo) (g:(Q.length+1)*(k1+k2+1)<=K):cf (mulL (P.take k) Q) l=0\/LQ (cf (mulL (P.take k) Q) l) K:=by
 rcases jf8 l (Z9 h k) (λt j=>a t (List.mem_of_mem_take j)) c with d | ⟨n,m,p,f⟩
 ·exact Or.inl d
 ·exact Or.inr (f.lq (zm (Nat.mul_le_mul_right _ Zo) g))
theorem mul_oB (u v:PV) (j d:List Tm) (a c:Nat) (p:World) (h:KP p u j) (n:KP p v d) (f:∀ t∈j,LQ t.2 a) (g:∀ t∈d,LQ t.2 c)
  (k:(d.length+1)*(a+c+1)<=900000) (q:j.length*d.length<=1000000) (l:j.length<=1000000) (m:d.length<=1000000) :
  Cl 88 #[u.v,v.v] p (MulR p j d) :=
 mul_g u v j d a c p h n f g (by have:=Nat.le_mul_of_pos_left (a+c+1) (show 0<d.length+1 by omega);omega) (λi z y s r=>part_cfB h.canon n.canon f g r y s k) (λi s=>all_cfB h.canon f g i s k) q l m
structure RE (w:World) (b off i:Nat) (t:TV):Prop where
 lt:b<w.heap.size
 cell:∀ j v,t.cells[j]?=some v->w.cell? ⟨b,off+i*8+j,none⟩=some v
theorem RE.below {g:TV} (c:RE w b off i g) (a:Bl w w'):RE w' b off i g :=
 ⟨Nat.lt_of_lt_of_le c.lt a.size,λf v d=>(a.cell (p:=⟨b,off+i*8+f,none⟩) c.lt).trans (c.cell f v d)⟩
theorem RE.eight {t:TV} (a:RE w b off i t) :
  w.cell? ⟨b,off+i*8,none⟩=some (.bool t.c.t.s)/\w.cell? ⟨b,off+i*8+1,none⟩=some (.slice t.c.t.a t.c.t.n t.c.t.c)/\w.cell? ⟨b,off+i*8+2,none⟩=some (.bool t.c.l.s)/\w.cell? ⟨b,off+i*8+3,none⟩=some (.slice t.c.l.a t.c.l.n t.c.l.c) /\
  w.cell? ⟨b,off+i*8+4,none⟩=some (.int .u16 t.m.x)/\w.cell? ⟨b,off+i*8+5,none⟩=some (.int .u16 t.m.y)/\w.cell? ⟨b,off+i*8+6,none⟩=some (.int .u16 t.m.z)/\w.cell? ⟨b,off+i*8+7,none⟩=some (.int .u16 t.m.t) :=
 ⟨a.cell 0 _ rfl,a.cell 1 _ rfl,a.cell 2 _ rfl,a.cell 3 _ rfl,a.cell 4 _ rfl,a.cell 5 _ rfl,a.cell 6 _ rfl,a.cell 7 _ rfl⟩
theorem RT.one {a:Option Addr} {c:List TV} (j:RT w a c) (h:c≠[]):∃ b off,a=some ⟨b,off,none⟩/\∀ i t,c[i]?=some t->RE w b off i t:=by
 obtain⟨b,off,g,d⟩:=j.ex h;exact⟨b,off,g,λi t f=>⟨block_lt_of_cell (d i t f 0 _ rfl),d i t f⟩⟩
theorem jk1 (k l:TV) (U:Rat) (m:World) (M:KF m k.c U) (N:KF m l.c U) (S:k.m=l.m) (O:LQ U 900000):Cl 11 #[TV.v k,TV.v l] m λe w'=>e=.returned (.bool true)/\Bl m w':=by
 obtain⟨W,d⟩:=gn ((m.alloc (.cells (cTv k.c k.m).toArray 37)).alloc (.cells (cTv l.c l.m).toArray 37));have c:=bq d ((zk.alloc zj _).alloc (by go_size) _);have n:=qh<|bz d ((Bxs.new m 37 (cTv k.c k.m)).alloc _)
 have p:=qh (show Bxs W (m.heap.size+1) 37 (cTv l.c l.m) by
  have X:=Bxs.new (m.alloc (.cells (cTv k.c k.m).toArray 37)) 37 (cTv l.c l.m);rw[World.size_alloc] at X;rw[d]
  exact X)
 have L:=qh c;have R:=qh<|qsameFr (M.below c) (M.len O zj) (N.below c) (N.len O zj) rfl;have T:=qh d;obtain⟨a,⟨g,h,j,f⟩⟩:=k;obtain⟨uc,V⟩:=l;change (⟨g,h,j,f⟩:Mo)=V at S;subst S;change Cl 11 #[.agg #[.bool a.t.s,.slice a.t.a a.t.n a.t.c,.bool a.l.s,.slice a.l.a a.l.n a.l.c,.int .u16 g,.int .u16 h,.int .u16 j,.int .u16 f],.agg #[.bool uc.t.s,.slice uc.t.a uc.t.n uc.t.c,.bool uc.l.s,.slice uc.l.a uc.l.n uc.l.c,.int .u16 g,.int .u16 h,.int .u16 j,.int .u16 f]] m _;clear d c M N O;go_enter func11,ntmps11
 go_upto_region 1 with (fail)
 rw[show(m.alloc (.cells #[.bool a.t.s,.slice a.t.a a.t.n a.t.c,.bool a.l.s,.slice a.l.a a.l.n a.l.c,.int .u16 g,.int .u16 h,.int .u16 j,.int .u16 f] 37)).alloc (.cells #[.bool uc.t.s,.slice uc.t.a uc.t.n uc.t.c,.bool uc.l.s,.slice uc.l.a uc.l.n uc.l.c,.int .u16 g,.int .u16 h,.int .u16 j,.int .u16 f] 37)=W from T.o.symm];obtain⟨r,s,u,v,y,z,A,B⟩:=n.o.c8;obtain⟨C,D,E,F,G,H,I,J⟩:=p.o.c8;go_wp2_with fail
 with_reducible refine R.o.mono ?_
 rintro e Y ⟨rfl,q⟩;have L:=qk L q;have n:=qh<|n.o.bl q;have p:=qh<|p.o.bl q;clear q R r s u v y z A B C D E F G H I J;obtain⟨r,s,u,v,y,z,A,B⟩:=n.o.c8;obtain⟨C,D,E,F,G,H,I,J⟩:=p.o.c8;go_wp2;go_ret;exact⟨rfl,L.o⟩
theorem jh6 (x ah:PV) (v:List Tm) (J:World) (D:KP J x v) (E:KP J ah v) (W:∀ t∈v,LQ t.2 900000) (V:v.length<=1000000):Cl 26 #[x.v,ah.v] J λe w'=>e=.returned (.bool true)/\Bl J w':=by
 have s:=D.len;have m:=E.len;obtain⟨xa,a,xc⟩:=x;obtain⟨ya,n,yc⟩:=ah;change a=v.length at s;change n=v.length at m;obtain rfl:a=n:=s.trans m.symm;obtain⟨B,O,R,S,T⟩:=D.ex;obtain⟨C,k3,k4,k5,k6⟩:=E.ex;have HP:=qh W;have M:=qh (show a<=1000000 by rw[m];exact V);have R1:=qh O;have R2:=qh k3;have F1:=qh S;have F2:=qh k5;have T1:=qh T;have T2:=qh k6;have N1:=qh<|show B.length=a from R;have N2:=qh<|show C.length=a from k4;change Cl 26 #[.slice xa a xc,.slice ya a yc] J _;clear D E W V s m O R S T k3 k4 k5 k6;go_enter func26,ntmps26;go_wp2;go_loopw [5] (λi wr=>∃ f:Nat,f<=a/\i=.int .i64 f/\Bl J wr) (λi _=>a-(intOf i).toNat)
 case atStart =>
  exact⟨0,Nat.zero_le _,rfl,zk⟩
 case round =>
  obtain⟨f,U,rfl,y⟩:=hrel;have HJ:=qh U;have c:=qh y;clear U y;by_cases l:f<a
  ·have q:=qh l
   have g:f<B.length:=by rw[N1.o];exact l
   have h:f<C.length:=by rw[N2.o];exact l
   obtain⟨pb,po,rfl,z⟩:=(R1.o.below c.o).one (λu=>by rw[List.map_eq_nil_iff] at u;rw[u] at g;simp at g);obtain⟨qb,qo,rfl,A⟩:=(R2.o.below c.o).one (λu=>by rw[List.map_eq_nil_iff] at u;rw[u] at h;simp at h);obtain⟨⟨t,H⟩,j⟩:∃ e,B[f]?=some e:=⟨_,List.getElem?_eq_getElem g⟩;obtain⟨⟨I,r⟩,k⟩:∃ e,C[f]?=some e:=⟨_,List.getElem?_eq_getElem h⟩;have E1:=qh<|z f t (by rw[List.getElem?_map,j];rfl);have E2:=qh<|A f I (by rw[List.getElem?_map,k];rfl)
   have F:v[f]?=some (t.m,H):=by rw[<- T1.o,List.getElem?_map,j];rfl
   have p2:v[f]?=some (I.m,r):=by rw[<- T2.o,List.getElem?_map,k];rfl
   have G:(t.m,H)=(I.m,r):=Option.some.inj (F.symm.trans p2);have L:=qh<|show t.m=I.m from congrArg Prod.fst G;obtain rfl:H=r:=congrArg Prod.snd G;have NT:=qh<|show KF wr t.c H from(F1.o _ (List.mem_of_getElem? j)).below c.o;have NU:=qh<|show KF wr I.c H from(F2.o _ (List.mem_of_getElem? k)).below c.o;have N:=qh<|HP.o _ (List.mem_of_getElem? F);have ek:IntKind.i64.wrap ((f:Int)+1)=(f:Int)+1:=IntWalk.i64_in _ (Zi q M);clear z A j k F p2 G g h
   go_upto_region 6 with (fail)
   refine FS.Jd 9 [] (FS.JI [(8,FS.Sp.know (.bool true))])
    (λw'=>Bl wr w') Zk Zk Zk
    (FS.Jb (FS.Sp.Jk _ _) (FS.Jh)) (λ_ _ u p=>u.trans (p.mono u.size)) (zk.drew) ?_
   simp only[zu,zi,ze,zx,zy,zv,zw]
   iterate 8
    refine FS.rdw (λw' d=>by obtain⟨X,Y,Z,aa,ab,ac,ad,ae⟩:=(E1.o.below d).eight;obtain⟨X,Y,Z,aa,ab,ac,ad,ae⟩:=(E2.o.below d).eight;go_simp;try rfl) ?_
   refine FS.Jc rfl rfl rfl (λw' af=>?_) ?_
   ·have d:=af.world;refine FS.Jm (FS.PK (.bool true)) ?_ (λ_ _ u=>u.post);go_simp;have CT:=jk1 t I H w' (NT.o.below d) (NU.o.below d) L.o N.o;refine CT.mono ?_;rintro e aj ⟨rfl,p⟩;exact⟨_,rfl,rfl,p⟩
   rintro _ rfl
   conv=>arg 10;simp only[Act.put,zq0,zq1,zq2]
   refine FS.Jn (λag p hF=>?_);clear hF;have c:=qk c p;clear p;go_wp2;go_roundw
   case rel =>
    exact⟨f+1,Zh q,rfl,c.o⟩
   case measure=>simp[intOf];have:=q.o;omega
  ·have ai:¬((f:Int)<(a:Int)):=Zo;clear l;go_wp2;go_ret;exact⟨rfl,c.o⟩
def IR (w:World) (e:Ending) (w':World):Prop:=∃ z:Int,e=.returned (.int .i64 z)/\Bl w w'
theorem IR.is (z:Int) (a:Bl w w'):IR w (.returned (.int .i64 z)) w':=⟨z,rfl,a⟩
def BR (w:World) (Φ:Prop) (e:Ending) (w':World):Prop:=∃ b:Bool,e=.returned (.bool b)/\(b=false->Φ)/\Bl w w'
theorem BR.yes {a:Prop} (c:Bl w w'):BR w a (.returned (.bool true)) w':=⟨true,rfl,nofun,c⟩
theorem BR.no {a:Prop} (d:Bl w w') (c:a):BR w a (.returned (.bool false)) w':=⟨false,rfl,λ_=>c,d⟩
theorem jhu (a:Option Addr) (n d:Nat) (c:World):Cl 233 #[.slice a n d] c λe w'=>IR c e w':=by
 go_enter func233,ntmps233;go_wp2;go_ret;exact IR.is _ zk
theorem jf9 (m:Bool) (a:Option Addr) (n l:Nat) (k:World):Cl 196 #[.agg #[.bool m,.slice a n l]] k λe w'=>IR k e w':=by
 obtain⟨r,c⟩:=gn (k.alloc (.cells #[.bool m,.slice a n l] 30));have d:=bq c (zk.alloc zj _);have h:=qh<|al c;have f:=qh d;have j:=qh c;clear c d;go_enter func196,ntmps196
 go_upto_region 1 with (fail)
 rw[<- j.o];obtain⟨c0,c1⟩:=h.o.c2;go_wp2_with fail
 with_reducible refine(jhu _ _ _ _).mono ?_
 rintro e q ⟨p,rfl,g⟩;have f:=qk f g;clear g c0 c1;go_wp2;go_ret;exact IR.is _ f.o
theorem jk2 (d:FV) (k:World):Cl 158 #[d.v] k λe w'=>IR k e w':=by
 obtain⟨r,g⟩:=gn (k.alloc (.cells (cFv d).toArray 32));have h:=bq g (zk.alloc zj _);have f:=qh<|al g;have a:=qh h;have l:=qh g;clear g h;change Cl 158 #[.agg #[.bool d.t.s,.slice d.t.a d.t.n d.t.c,.bool d.l.s,.slice d.l.a d.l.n d.l.c]] k _;go_enter func158,ntmps158
 go_upto_region 1 with (fail)
 rw[<- l.o];obtain⟨c0,c1,c2,c3⟩:=f.o.c4;go_wp2_with fail
 with_reducible refine(jf9 _ _ _ _ _).mono ?_
 rintro e n ⟨j,rfl,c⟩;have a:=qk a c;have f:=qh<|f.o.bl c;clear c c0 c1 c2 c3;by_cases s:wrap64 (1+j)<=1048576
 ·obtain⟨c0,c1,c2,c3⟩:=f.o.c4;go_wp2_with fail
  with_reducible refine(jf9 _ _ _ _ _).mono ?_
  rintro e p ⟨q,rfl,c⟩;have a:=qk a c;clear c c0 c1 c2 c3;go_wp2;go_ret;exact IR.is _ a.o
 ·have m:1048576<wrap64 (1+j):=Zo;go_wp2;go_ret;exact IR.is _ a.o
theorem jk3 (a:TV) (h:World):Cl 98 #[TV.v a] h λe w'=>IR h e w':=by
 obtain⟨q,c⟩:=gn (h.alloc (.cells (cTv a.c a.m).toArray 37));have d:=bq c (zk.alloc zj _);have j:=qh<|al c;have f:=qh d;have k:=qh c;clear c d;change Cl 98 #[.agg #[.bool a.c.t.s,.slice a.c.t.a a.c.t.n a.c.t.c,.bool a.c.l.s,.slice a.c.l.a a.c.l.n a.c.l.c,.int .u16 a.m.x,.int .u16 a.m.y,.int .u16 a.m.z,.int .u16 a.m.t]] h _;go_enter func98,ntmps98
 go_upto_region 1 with (fail)
 rw[<- k.o];obtain⟨c0,c1,c2,c3,c4,c5,l,m⟩:=j.o.c8;go_wp2_with fail
 with_reducible refine(jk2 a.c _).mono ?_
 rintro e p ⟨n,rfl,g⟩;have f:=qk f g;clear g c0 c1 c2 c3 c4 c5 l m;go_wp2;go_ret;exact IR.is _ f.o
theorem jk4 (v:PV) (j:List TV) (u:World) (s:RT u v.a j) (q:j.length=v.n) (r:v.n<=1000000000):Cl 28 #[v.v] u λe w'=>IR u e w':=by
 obtain⟨D,a,E⟩:=v;have A:=qh s;have HL:=qh<|show j.length=a from q;have y:=qh<|show a<=1000000000 from r;change Cl 28 #[.slice D a E] u _;clear s q r;go_enter func28,ntmps28;go_wp2;go_loopw [3,4] (λO i wr=>∃ (h:Nat) (z:Int),h<=a/\i=.int .i64 h/\O=.int .i64 z/\Bl u wr) (λ_ i _=>a-(intOf i).toNat)
 case atStart =>
  exact⟨0,_,Nat.zero_le _,rfl,rfl,zk⟩
 case round =>
  obtain⟨h,z,p,rfl,rfl,k⟩:=hrel;have H:=qh p;have d:=qh k;clear p k;by_cases g:h<a
  ·by_cases L:z<=1048576
   ·have f:=qh g
    have c:h<j.length:=by rw[HL.o];exact g
    obtain⟨M,N,rfl,m⟩:=(A.o.below d.o).one (λJ=>by rw[J] at c;simp at c);obtain⟨t,n⟩:∃ t,j[h]?=some t:=⟨_,List.getElem?_eq_getElem c⟩;obtain⟨c0,c1,c2,c3,c4,c5,B,C⟩:=(m h t n).eight;have I:IntKind.i64.wrap ((h:Int)+1)=(h:Int)+1:=IntWalk.i64_in _ (Zi f y);clear m n c;go_wp2_with fail
    with_reducible refine(jk3 t _).mono ?_
    rintro e R ⟨S,rfl,l⟩;have d:=qk d l;clear l c0 c1 c2 c3 c4 c5 B C;go_wp2;go_roundw
    case rel =>
     exact⟨h+1,_,Zh f,rfl,rfl,d.o⟩
    case measure=>simp[intOf];have:=f.o;omega
   ·have G:1048576<z:=Zo;go_wp2;go_ret;exact IR.is _ d.o
  ·have F:¬((h:Int)<(a:Int)):=Zo;clear g;go_wp2;go_ret;exact IR.is _ d.o
def Qi (m:Nat) (ts:List TV):Prop:=ts.length<=m/\∀ t∈ts,t.c.t.n<=4/\t.c.l.n<=1
def jk5 (m:Nat) (Xs:List (PV × List TV)):Prop:=∀ e∈Xs,Qi m e.2
theorem YC (ac m k:Nat) (h:List (PV × List TV)) (J:World) (hk:h.length=k) (v:∀ i e,h[i]?=some e->J.cell? ⟨ac,i,none⟩=some e.1.v) (hr:∀ e∈h,RT J e.1.a e.2/\e.2.length=e.1.n)
  (hn:h.length<=1000) (hm:m<=1000) :
  Cl 5 #[.int .i64 m,.slice (some ⟨ac,0,none⟩) k k] J (BR J (jk5 m h)):=by
 have L:=qh hk;have S:=qh v;have HR:=qh hr;have HN:=qh hn;have V:=qh hm;clear hk v hr hn hm;go_enter func5,ntmps5;go_wp2;go_loopw [5] (λi wr=>∃ g:Nat,g<=k/\i=.int .i64 g/\(∀ i e,h[i]?=some e->i<g->Qi m e.2)/\Bl J wr) (λi _=>k-(intOf i).toNat)
 case atStart =>
  exact⟨0,Nat.zero_le _,rfl,λi e _ D=>absurd D (Nat.not_lt_zero _),zk⟩
 case round =>
  obtain⟨g,hj,rfl,hg,f⟩:=hrel;have HJ:=qh hj;have HG:=qh hg;have a:=qh f;clear hj hg f;by_cases y:g<k
  ·have r:=qh y;obtain⟨⟨⟨xa,c,xc⟩,n⟩,j⟩:∃ e,h[g]?=some e:=⟨_,List.getElem?_eq_getElem (by rw[L.o];exact y)⟩;have HE:=qh j;have O:=qh (show ∀ G,Bl J G->G.cell? ⟨ac,g,none⟩=some (.slice xa c xc) from λ(G:World) (D:Bl J G)=>(D.cell (p:=⟨ac,g,none⟩) (block_lt_of_cell (S.o g _ j))).trans (S.o g _ j));have c0:=O.o _ a.o;obtain⟨r1,r2⟩:=HR.o _ (List.mem_of_getElem? j);have Y:=qh r1;have E:=qh<|show n.length=c from r2;have ek:IntKind.i64.wrap ((g:Int)+1)=(g:Int)+1:=IntWalk.i64_in _ (by have:=r.o;have:=L.o;have:=HN.o;omega);have em:IntKind.i64.wrap (40*(m:Int))=40*(m:Int):=IntWalk.i64_in _ (Zh V);clear j r1 r2;by_cases C:c<=m
   ·have W:=qh C;have X:=qh (show c<=1000000000 by have:=V.o;omega);have d:¬((c:Int)>(m:Int)):=Zo;have M:¬((m:Int)<(c:Int)):=Zo;have PS:=qh<|jk4 ⟨xa,c,xc⟩ n wr (Y.o.below a.o) E.o X.o;clear C;go_wp2_with fail
    with_reducible refine PS.o.mono ?_
    rintro e w1 ⟨z,rfl,hb⟩;have a:=qk a hb;clear hb PS c0;by_cases hz:z>40*(m:Int)
    ·have ab:40*(m:Int)<z:=hz;go_wp2;go_ret;exact BR.yes a.o
    ·have ab:¬(40*(m:Int)<z):=hz;go_wp2;go_loopw [6] (λi wr=>∃ l:Nat,l<=c/\i=.int .i64 l/\(∀ i t,n[i]?=some t->i<l->t.c.t.n<=4/\t.c.l.n<=1)/\Bl J wr) (λi _=>c-(intOf i).toNat)
     case atStart =>
      exact⟨0,Nat.zero_le _,rfl,λi e _ D=>absurd D (Nat.not_lt_zero _),a.o⟩
     case round =>
      obtain⟨l,hl,rfl,I,f⟩:=hrel;have HL:=qh hl;have H:=qh I;have a:=qh f;clear hl I f;have c0:=O.o _ a.o;by_cases A:l<c
      ·have s:=qh A
       have q:l<n.length:=by rw[E.o];exact A
       obtain⟨pb,po,rfl,v⟩:=(Y.o.below a.o).one (λD=>by rw[D] at q;simp at q);obtain⟨t,B⟩:∃ t,n[l]?=some t:=⟨_,List.getElem?_eq_getElem q⟩;obtain⟨d0,d1,d2,d3,d4,d5,d6,d7⟩:=(v l t B).eight;have HT:=qh B;have el:IntKind.i64.wrap ((l:Int)+1)=(l:Int)+1:=IntWalk.i64_in _ (Zi s X);clear v B q;by_cases F:t.c.t.n<=4
       ·have g1:¬((t.c.t.n:Int)>4):=Zo;have g2:¬((4:Int)<(t.c.t.n:Int)):=Zo;by_cases u:t.c.l.n<=1
        ·have g3:¬((t.c.l.n:Int)>1):=Zo;have g4:¬((1:Int)<(t.c.l.n:Int)):=Zo;have R:=qh<|show t.c.t.n<=4/\t.c.l.n<=1 from⟨F,u⟩;clear F u;go_wp2;go_roundw
         case rel =>
          refine⟨l+1,Zh s,rfl,λi t' d M=>?_,a.o⟩;by_cases N:i<l
          ·exact H.o i t' d N
          ·obtain rfl:i=l:=Zo;rw[HT.o] at d;obtain rfl:=Option.some.inj d;exact R.o
         case measure=>simp[intOf];have:=s.o;omega
        ·have g3:(t.c.l.n:Int)>1:=Zo;have g4:(1:Int)<(t.c.l.n:Int):=Zo;clear F u;go_wp2;go_ret;exact BR.yes a.o
       ·have g1:(t.c.t.n:Int)>4:=Zo;have g2:(4:Int)<(t.c.t.n:Int):=Zo;clear F;go_wp2;go_ret;exact BR.yes a.o
      ·have aa:¬((l:Int)<(c:Int)):=Zo;have U:=qh (show l=c by have:=HL.o;omega);clear A;go_wp2;go_roundw
       case rel =>
        refine⟨g+1,Zh r,rfl,λi e' d M=>?_,a.o⟩;by_cases N:i<g
        ·exact HG.o i e' d N
        ·obtain rfl:i=g:=Zo;rw[HE.o] at d;obtain rfl:=Option.some.inj d;refine⟨by have u:=E.o;have h6:=W.o;show n.length<=m;omega,λt B=>?_⟩;obtain⟨i2,Z⟩:=List.mem_iff_getElem?.1 (show t∈n from B);exact H.o i2 t Z (by have h8:=(List.getElem?_eq_some_iff.1 Z).1;have u:=E.o;have h9:=U.o;omega)
       case measure=>simp[intOf];have:=r.o;omega
   ·have d:(c:Int)>(m:Int):=Zo;have M:(m:Int)<(c:Int):=Zo;clear C;go_wp2;go_ret;exact BR.yes a.o
  ·have aa:¬((g:Int)<(k:Int)):=Zo;have T:=qh (show g=k by have:=HJ.o;omega);clear y;go_wp2;go_ret
   refine BR.no a.o λe j=>?_
   obtain⟨i,D⟩:=List.mem_iff_getElem?.1 j;exact HG.o i e D (by have h8:=(List.getElem?_eq_some_iff.1 D).1;have h9:=T.o;have:=L.o;omega)
structure TwN (w:World) (lo:Nat) (t x:NV) (o:Nat->Int):Prop where
 s:t.s=x.s
 n:t.n=x.n
 c:t.c=x.n+1
 own:Limb.Own 128 w lo t.a (x.n+1) (x.n+1) (tw o x.n)
structure TwF (w:World) (lo:Nat) (t x:FV) (o1 o2:Nat->Int):Prop where
 top:TwN w lo t.t x.t o1
 low:TwN w lo t.l x.l o2
 ap:XA t.t.a t.l.a
theorem TwN.kept {d f:NV} (a:TwN w lo d f o) (c:∀ b,d.blk b->w'.heap[b]?=w.heap[b]?):TwN w' lo d f o:=⟨a.s,a.n,a.c,a.own.kept c⟩
theorem TwN.QV {h k:NV} (j:TwN w lo h k o):∀ b,h.blk b->lo<=b/\b<w.heap.size:=λb ⟨m,a,e⟩=>by
 rcases j.own.place with d | ⟨l,g,f,c,hg,_⟩
 ·rw[d.1] at a;cases a
 ·rw[f] at a
  cases a
  subst e;exact⟨c,lt_of_block hg⟩
theorem TwN.below {f g:NV} (d:TwN w lo f g o) (c:Bl w w'):TwN w' lo f g o:=d.kept λb a=>c.block b (d.QV b a).2
theorem TwN.mono {d f:NV} (a:TwN w lo d f o) (c:lo'<=lo):TwN w lo' d f o:=⟨a.s,a.n,a.c,a.own.mono c⟩
theorem TwF.kept (d:TwF w lo t x o1 o2) (c:∀ b,FV.blk t b->w'.heap[b]?=w.heap[b]?):TwF w' lo t x o1 o2:=⟨d.top.kept λb a=>c b (Or.inl a),d.low.kept λb a=>c b (Or.inr a),d.ap⟩
theorem TwF.QV (c:TwF w lo t x o1 o2):∀ b,FV.blk t b->lo<=b/\b<w.heap.size:=λb a=>a.elim (c.top.QV b) (c.low.QV b)
theorem TwF.below (c:TwF w lo t x o1 o2) (a:Bl w w'):TwF w' lo t x o1 o2:=⟨c.top.below a,c.low.below a,c.ap⟩
theorem TwF.mono (c:TwF w lo t x o1 o2) (a:lo'<=lo):TwF w lo' t x o1 o2:=⟨c.top.mono a,c.low.mono a,c.ap⟩
theorem TwF.put (r:TwF w lo t x o1 o2) (f:∀ d,FV.blk t d->d≠b) (h j k l m n p q:Value):TwF (Xr w b h j k l m n p q) lo t x o1 o2:=by
 have c:∀ (g:World) (i:Nat) (v:Value) (d:Nat),d≠b->(g.setCell ⟨b,i,none⟩ v).heap[d]?=g.heap[d]?:=λg i v d a=>Below.heap_setCell _ _ _ _ a
 refine r.kept λd hg=>?_
 have a:=f d hg;unfold Xr;rw[c _ _ _ _ a,c _ _ _ _ a,c _ _ _ _ a,c _ _ _ _ a,c _ _ _ _ a,c _ _ _ _ a,c _ _ _ _ a,c _ _ _ _ a]
theorem jk6 (a:FV) (c d:Nat->Int) (f:World) (m:Rd f a.t.a a.t.n c) (g:a.t.n<=100000000) (n:Rd f a.l.a a.l.n d) (h:a.l.n<=100000000) :
  Cl 99 #[a.v] f λe w'=>∃ y:FV,e=.returned y.v/\TwF w' f.heap.size y a c d/\Bl f w' :=
 (jc2 a.t.s a.t.a a.t.n a.t.c c a.l.s a.l.a a.l.n a.l.c d f m g n h).mono λe w' ⟨k,l,q,u,v,j,p⟩ =>
  ⟨⟨⟨a.t.s,some ⟨k,0,none⟩,a.t.n,a.t.n+1⟩,⟨a.l.s,some ⟨l,0,none⟩,a.l.n,a.l.n+1⟩⟩,q,⟨⟨rfl,rfl,rfl,u⟩,⟨rfl,rfl,rfl,v⟩,λz A r s=>by cases r;cases s;exact j⟩,p⟩
theorem jc4 (a:TV) (f g:Nat->Int) (l:World) (J:Rd l a.c.t.a a.c.t.n f) (u:a.c.t.n<=100000000) (L:Rd l a.c.l.a a.c.l.n g) (v:a.c.l.n<=100000000) :
  Cl 29 #[TV.v a] l λe w'=>∃ am:FV,e=.returned (TV.v ⟨am,a.m⟩)/\TwF w' l.heap.size am a.c f g/\Bl l w':=by
 obtain⟨z,q⟩:=gn ((l.alloc (.cells (cTv a.c a.m).toArray 37)).alloc (.cells zTv.toArray 37));have k:=bq q ((zk.alloc zj _).alloc (by go_size) _);have A:=qh<|bz q ((Bxs.new l 37 (cTv a.c a.m)).alloc _)
 have m:=qh (show Bxs z (l.heap.size+1) 37 zTv by
  have s:=Bxs.new (l.alloc (.cells (cTv a.c a.m).toArray 37)) 37 zTv;rw[World.size_alloc] at s;rw[q]
  exact s)
 have G:=qh<|J.below k;have H:=qh<|L.below k;have E:=qh u;have F:=qh v;have r:=qh k;have HV:=qh q;obtain⟨y,p⟩:=gn (l.heap.size+1);have B:=qh (show l.heap.size<=y by omega);rw[<- p] at m;have C:=qh p;have D:=qh m.o.lt;have I:=qh r.o.size;clear q k J L u v p;change Cl 29 #[.agg #[.bool a.c.t.s,.slice a.c.t.a a.c.t.n a.c.t.c,.bool a.c.l.s,.slice a.c.l.a a.c.l.n a.c.l.c,.int .u16 a.m.x,.int .u16 a.m.y,.int .u16 a.m.z,.int .u16 a.m.t]] l _;go_enter func29,ntmps29
 go_upto_region 1 with (fail)
 rw[<- HV.o,<- C.o]
 go_upto_region 1 with (fail)
 refine FS.Jd 6 [] (FS.JI [(2,FS.Sp.made (λx:FV=>x.v) (λx w'=>TwF w' z.heap.size x a.c f g) FV.blk)])
  (λw'=>Bl z w') Zk Zk Zk
  (FS.Jb (FS.Sp.Jf _ (λ_ _ _ s _ hk=>s.kept hk) (FS.JG Zk)) (FS.Jh)) (λ_ _ s h=>s.trans (h.mono s.size)) (zk.drew) ?_
 simp only[zu,zi,ze,zx,zy,zv,zw]
 iterate 2
  refine FS.rdw (λw' d=>by obtain⟨N,O,R,S,T,U,V,W,X,Y⟩:=(A.o.bl d).d8;go_simp;try rfl) ?_
 refine FS.Jc rfl rfl rfl (λw' Z=>?_) ?_
 ·have d:=Z.world;refine FS.Jm (FS.PM (λx:FV=>x.v) (λx w'=>TwF w' z.heap.size x a.c f g) FV.blk w'.heap.size) ?_ (λ_ _ s=>s.post (λ_ _=>FV.inj));go_simp;have CT:=(show Cl 99 #[.agg #[.bool a.c.t.s,.slice a.c.t.a a.c.t.n a.c.t.c,.bool a.c.l.s,.slice a.c.l.a a.c.l.n a.c.l.c]] w' _ from jk6 a.c f g w' (G.o.below d) E.o (H.o.below d) F.o);refine CT.mono ?_;rintro e ak ⟨za,rfl,M,h⟩;exact⟨_,rfl,⟨za,rfl,M.mono d.size,M.QV⟩,h⟩
 rintro _ ⟨c,rfl⟩
 conv=>arg 10;simp only[Act.put,zq0,zq1,zq2]
 iterate 3
  refine FS.rdw (λw' d=>by obtain⟨N,O,R,S,T,U,V,W,X,Y⟩:=(A.o.bl d).d8;go_simp;try rfl) ?_
 refine FS.Jn (λj h hF=>?_);have n:=qh<|show TwF j z.heap.size c a.c f g from(FS.JQ (val:=(λx:FV=>x.v)) (Φ:=λx w'=>TwF w' z.heap.size x a.c f g) (λ_ _=>FV.inj) (hF.all 2));clear hF;have m:=qh<|m.o.bl h;have r:=qk r h;clear h;have HD:=qh<|show TwF (Xr j y (.bool c.t.s) (.slice c.t.a c.t.n c.t.c) (.bool c.l.s) (.slice c.l.a c.l.n c.l.c) (.int .u16 a.m.x) (.int .u16 a.m.y) (.int .u16 a.m.z) (.int .u16 a.m.t)) l.heap.size c a.c f g from(n.o.put (λan hg=>by have:=(n.o.QV an hg).1;have:=D.o;omega) ..).mono I.o;have HB:=qh<|show Bl l (Xr j y (.bool c.t.s) (.slice c.t.a c.t.n c.t.c) (.bool c.l.s) (.slice c.l.a c.l.n c.l.c) (.int .u16 a.m.x) (.int .u16 a.m.y) (.int .u16 a.m.z) (.int .u16 a.m.t)) from J5 r.o B.o ..;obtain⟨aa,ab,ac,ad,ae,af,ag,ah,ai,aj⟩:=m.o.d8;go_wp2_with fail
 exact bodyPost_ret (Je rfl _ _ _ _ _ _ _ rfl (J9 m.o ..) underlying37 rfl Zk) rfl ⟨c,rfl,HD.o,HB.o⟩
open Go.ChangeShapes Go.WideShapes Go.ChangeAt
structure FZ (x:FV) (z:Int):Prop where
 lo:0<=z
 hi:z<=1000000000000000
 is:z<=1000->x.t.n<=z.toNat/\x.l.n<=z.toNat
end Pol
namespace Book
open Go.RowKit Go.Sort Go.FreshH Limb Pol
def J6:List TV->Nat->List HL
 | [],_=>[]
 | t :: r,q=>⟨t.c.t.a,t.c.t.n,t.c.t.c,q⟩ :: ⟨t.c.l.a,t.c.l.n,t.c.l.c,q+1⟩ :: J6 r (q+2)
theorem X4:∀ (a:List TV) (c:Nat),(J6 a c).length=2*a.length
 | [],_=>rfl
 | t :: r,c=>by
  show(J6 r (c+2)).length+1+1=2*(r.length+1);rw[X4 r (c+2)];omega
theorem VS:∀ (c:List TV) (t:TV) (a:Nat),J6 (c++[t]) a=J6 c a++[⟨t.c.t.a,t.c.t.n,t.c.t.c,a+2*c.length⟩]++[⟨t.c.l.a,t.c.l.n,t.c.l.c,a+2*c.length+1⟩]
 | [],t,a=>rfl
 | s :: r,t,a=>by
  show(⟨s.c.t.a,s.c.t.n,s.c.t.c,a⟩:HL) :: ⟨s.c.l.a,s.c.l.n,s.c.l.c,a+1⟩ :: J6 (r++[t]) (a+2)=⟨s.c.t.a,s.c.t.n,s.c.t.c,a⟩ :: ⟨s.c.l.a,s.c.l.n,s.c.l.c,a+1⟩ :: (J6 r (a+2)++[_]++[_]);rw[VS r t (a+2),List.length_cons,show a+2+2*r.length=a+2*(r.length+1) by omega]
theorem RE.QA {base:Nat} {m d:World} {b o h:Nat} {l:TV} (j:RE m b o h l) (c:Qz base m d) (f:b<base):RE d b o h l :=
 ⟨Nat.lt_of_lt_of_le j.lt c.bel.size,λk v g=>(World.cell?_of_block (a:=⟨b,o+h*8+k,none⟩) (c.bel.block b f)).trans (j.cell k v g)⟩
theorem BkS.term {f:World} {b base j:Nat} {k q:List HL} (d:BkS f b base j k q) (g:k.length<=29990) (h:j<=59990) (a:TV) :
  Cl 18 #[.pointer (some ⟨b,0,none⟩),TV.v a] f (VW b base (j+2) (fracL k j a.c.t.a a.c.t.n a.c.t.c a.c.l.a a.c.l.n a.c.l.c) q f):=by
 obtain⟨u,c⟩:=gn (f.alloc (.cells (cTv a.c a.m).toArray 37));have n:=qh (show BkS u b base j k q by rw[c];exact d.alloc _);have m:=qh (show Qz base f u by rw[c];exact Qz.alloc d.hw _);have l:=qh<|al c;have p:=qh c;have K:=qh<|n.o.frac g h a.c.t.s a.c.t.a a.c.t.n a.c.t.c a.c.l.s a.c.l.a a.c.l.n a.c.l.c;clear d g h c;change Cl 18 #[.pointer (some ⟨b,0,none⟩),.agg #[.bool a.c.t.s,.slice a.c.t.a a.c.t.n a.c.t.c,.bool a.c.l.s,.slice a.c.l.a a.c.l.n a.c.l.c,.int .u16 a.m.x,.int .u16 a.m.y,.int .u16 a.m.z,.int .u16 a.m.t]] f _;go_enter func18,ntmps18
 go_upto_region 1 with (fail)
 rw[<- p.o];obtain⟨c0,c1,c2,c3⟩:=l.o.c4;go_wp2_with fail
 refine K.o.mono ?_;rintro e v ⟨⟨r,rfl⟩,d⟩;have s:=qh d;clear d c0 c1 c2 c3;go_wp2_with fail
 (try simp only[Exit.inBlock,Exit.then])
 refine bodyPost_end (results_none rfl _ _ _) rfl ?_;exact⟨⟨_,rfl⟩,s.o.1,m.o.trans s.o.2⟩
theorem BkS.poly {C:World} {b base h:Nat} {v B:List HL} (L:BkS C b base h v B) (j:PV) (a:List TV) (S:RT C j.a a) (O:a.length=j.n) (m:∀ ad,j.a=some ad->ad.block<base) (n:v.length+2*j.n<=29990) (R:h+2*j.n<=59990) (N:B.length<=30000) :
  Cl 17 #[.pointer (some ⟨b,0,none⟩),j.v] C (VW b base (h+2*j.n+1) (v++J6 a h) (B++[⟨j.a,j.n,j.c,h+2*j.n⟩]) C):=by
 obtain⟨E,d,T⟩:=j;have u:=qh L;have Y:=qh<|show RT C E a from S;have A:=qh<|show a.length=d from O;have V:=qh m;have H:=qh<|show v.length+2*d<=29990 from n;have J:=qh<|show h+2*d<=59990 from R;have X:=qh N;clear L S O m n R N;change Cl 17 #[.pointer (some ⟨b,0,none⟩),.slice E d T] C _;go_enter func17,ntmps17;go_wp2;go_loopw [4] (λi wr=>∃ c:Nat,c<=d/\i=.int .i64 c/\BkS wr b base (h+2*c) (v++J6 (a.take c) h) B/\Qz base C wr) (λi _=>d-(intOf i).toNat)
 case atStart=>exact⟨0,Nat.zero_le _,rfl,by simpa[J6] using u.o,Qz.refl _ _⟩
 case round =>
  obtain⟨c,M,rfl,q,y⟩:=hrel;have W:=qh M;have u:=qh q;have l:=qh y;clear M q y;by_cases g:c<d
  ·have f:=qh g;have ac:(c:Int)<(d:Int):=Zo;obtain⟨t,s⟩:∃ t,a[c]?=some t:=⟨_,List.getElem?_eq_getElem (by rw[A.o];exact g)⟩;obtain⟨pb,po,rfl,z⟩:=Y.o.one (λe=>by rw[e] at s;simp at s);have Z:=qh s;have U:=qh<|RE.QA (z c t s) l.o (V.o _ rfl);have ek:IntKind.i64.wrap ((c:Int)+1)=(c:Int)+1:=IntWalk.i64_in _ (Zi f H)
   have p:(a.take c).length=c:=by rw[List.length_take,A.o];omega
   have I:=qh p;have F:=qh<|show Cl 18 #[.pointer (some ⟨b,0,none⟩),.agg #[.bool t.c.t.s,.slice t.c.t.a t.c.t.n t.c.t.c,.bool t.c.l.s,.slice t.c.l.a t.c.l.n t.c.l.c,.int .u16 t.m.x,.int .u16 t.m.y,.int .u16 t.m.z,.int .u16 t.m.t]] wr _ from u.o.term (by rw[List.length_append,X4,p];have:=f.o;have:=H.o;omega) (Zi f J) t;obtain⟨c0,c1,c2,c3,c4,c5,c6,c7⟩:=U.o.eight;clear g s z p;go_wp2_with fail
   with_reducible refine F.o.mono ?_
   rintro e D ⟨⟨r,rfl⟩,q,n⟩
   have k:=qh (show BkS D b base (h+2*(c+1)) (v++J6 (a.take (c+1)) h) B by
    rw[List.take_add_one,Z.o];show BkS D b base (h+2*(c+1)) (v++J6 (a.take c++[t]) h) B;rw[VS,I.o,<- List.append_assoc,<- List.append_assoc]
    exact q)
   have l:=qh<|l.o.trans n;clear q n F c0 c1 c2 c3 c4 c5 c6 c7;go_wp2;go_roundw
   case rel=>exact⟨c+1,f.o,rfl,k.o,l.o⟩
   case measure=>simp[intOf];have:=f.o;omega
  ·have ab:¬((c:Int)<(d:Int)):=Zo;obtain rfl:c=d:=Zh W;have G:=qh<|show a.take c=a from List.take_of_length_le (by rw[A.o];exact zj);have k:=qh (show BkS wr b base (h+2*c) (v++J6 a h) B by rw[<- G.o];exact u.o);have K:=qh<|k.o.keepT X.o (Zh J) E c T;clear g;go_wp2_with fail
   refine K.o.mono ?_;rintro e D ⟨⟨r,rfl⟩,L⟩;have aa:=qh L;clear L;go_wp2_with fail
   (try simp only[Exit.inBlock,Exit.then])
   refine bodyPost_end (results_none rfl _ _ _) rfl ?_;exact⟨⟨_,rfl⟩,aa.o.1,l.o.trans aa.o.2⟩
end Book
end Go.Proofs.YthacfgmdihcffaaGreatDoor
