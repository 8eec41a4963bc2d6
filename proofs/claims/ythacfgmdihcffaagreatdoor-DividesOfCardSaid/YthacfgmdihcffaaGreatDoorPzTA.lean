/-
  Plain lemmas on products of great numbers, as it is done by hand, row by row. No program in sight.
-/
import Derived.Test.YthacfgmdihcffaaGreatDoorRows
import Derived.Deep.Quiet
import Derived.StillTail
import Derived.StillTailTactics
import Derived.Below
import Derived.WalkKit
import Derived.ProofKit
import Derived.OpenShut
import Derived.WalkSpells
import Derived.WalkLawsBesides
import Derived.BigQuiet
import Derived.Handy
import Derived.Deep.OwnRows
import Derived.Lib.Hide
import Derived.Test.YthacfgmdihcffaaGreatDoorProg
import Derived.Lib.QuietBelow
set_option linter.unusedSimpArgs false
set_option linter.unusedVariables false
set_option maxHeartbeats 16000000
set_option maxRecDepth 100000
open Go.Proofs.Tryz
namespace Go
theorem RowKit.Hid.o {a:Prop} (b:RowKit.Hid a):a:=b
open RowKit in
theorem RowKit.Below.sc {b:Nat} {a g:World} (h:Below b a g) {d:Addr} {f:Value} (c:b<=d.block:=by dsimp only;omega):Below b a (g.setCell d f):=h.setCell c f
theorem zj {n:Nat}:n<=n:=Nat.le_refl n
open RowKit in
theorem zk {b:Nat} {a:World}:Below b a a:=Below.refl b a
theorem zm {a b c:Nat} (d:a<=b) (k:b<=c):a<=c:=Nat.le_trans d k
theorem zo {a:Prop} [Decidable a] (b:¬a):decide a=false:=decide_eq_false b
theorem zx {b:Type _} {a:b} {d:List b} {c:Nat}:(a :: d).take (c+1)=a :: d.take c:=rfl
theorem zy {a:Type _} {b:List a}:b.take 0=[]:=rfl
theorem zv {b:Type _} {a:b} {d:List b} {c:Nat}:(a :: d).drop (c+1)=d.drop c:=rfl
theorem zw {a:Type _} {b:List a}:b.drop 0=b:=rfl
theorem zu {c:Type _} {a b:List c}:List.append a b=a++b:=rfl
theorem zi {b:Type _} {a:b} {c d:List b}:(a :: c)++d=a :: (c++d):=rfl
theorem ze {a:Type _} {b:List a}:[]++b=b:=rfl
abbrev Bl (w v:World):Prop:=RowKit.Below w.heap.size w v
abbrev zFv:List Value:=[.bool false,.slice none 0 0,.bool false,.slice none 0 0]
abbrev zTv:List Value:=[.bool false,.slice none 0 0,.bool false,.slice none 0 0,.int .u16 0,.int .u16 0,.int .u16 0,.int .u16 0]
open RowKit in
theorem bq {a v b:World} (c:v=b) (d:Below a.heap.size a b):Bl a v:=c ▸ d
theorem gn {b:Sort _} (a:b):∃ c,c=a:=⟨a,rfl⟩
theorem Zo {a:Prop} (b:a:=by omega):a:=b
theorem Zk {a:Prop} (b:a:=by kernel_rfl):a:=b
theorem Ze {a:Prop} (b:a:=by decide):a:=b
theorem Zd {a:Prop} (b:a:=by dsimp only;omega):a:=b
open RowKit in
theorem Zh {a b:Prop} (d:Hid b) (c:b->a:=by intro;omega):a:=c d.o
open RowKit in
theorem Zi {a b c:Prop} (f:Hid b) (r:Hid c) (d:b->c->a:=by intro _ _;omega):a:=d f.o r.o
theorem zq0 {b:Type} (d:List b) (c:Nat) (a:b):d.toArray.setIfInBounds c a=(d.set c a).toArray:=List.setIfInBounds_toArray ..
theorem zq1 {c:Type} (a b:c) (f:List c) (d:Nat):(a :: f).set (d+1) b=a :: f.set d b:=rfl
theorem qh {a:Prop} (b:a):RowKit.Hid a:=b
open RowKit in
theorem qk {a v d:World} (c:Hid (Below a.heap.size a v)) (b:Below v.heap.size v d):Hid (Below a.heap.size a d):=c.o.trans (b.mono c.o.size)
theorem zq2 {c:Type} (a b:c) (d:List c):(a :: d).set 0 b=b :: d:=rfl
end Go
namespace Go.FreshH
open Go.RowKit
variable {g i id k n:Nat} {a a':Act} {o:Oper} {w:World} {l rest:List Oper}
variable {G:World->World->Prop} {P:Program} {ops:Array Oper} {md:Region.Mode} {C:World->Prop}
abbrev Spec:=Option ((Value->Prop) × (Value->World->Prop))
def Spec.keeps (s:Spec) (G:World->World->Prop):Prop:=match s with
 | none=>True
 | some s=>∀ v w w',s.2 v w->G w w'->s.2 v w'
abbrev Facts:=Nat->World->Prop
def Facts.set (F:Facts) (k:Nat) (Φ:World->Prop):Facts:=λi w=>if i=k then Φ w else F i w
def Facts.keeps (F:Facts) (G:World->World->Prop):Prop:=∀ i w w',F i w->G w w'->F i w'
theorem Facts.set_same (d:Facts) (k:Nat) (b:World->Prop) (c:World):d.set k b k c=b c:=by simp[Facts.set]
theorem Facts.YP (c:Facts) (f:i≠k) (b:World->Prop) (d:World):c.set k b i d=c i d:=by simp[Facts.set,f]
theorem Facts.set_comm (f:Facts) (h:i≠k) (c d:World->Prop):(f.set k c).set i d=(f.set i d).set k c:=by
 funext j w;unfold Facts.set;by_cases b:j=i
 ·by_cases m:j=k
  ·omega
  ·simp[b,h]
 ·simp[b]
theorem Facts.Vi {m:Facts} (hF:m.keeps G) {c:World->Prop} (h:∀ w b,c w->G w b->c b):(m.set k c).keeps G:=by
 intro i w b j d;unfold Facts.set at *;by_cases f:i=k
 ·simp only[f,if_true] at j ⊢;exact h _ _ j d
 ·simp only[f,if_false] at j ⊢;exact hF _ _ _ j d
def JA (w:World) (u:Value):Result Next->Prop
 | .ok (.value x) w'=>w'=w/\x=u
 | .ok .skip w'=>w'=w/\u=undef
 | _=>False
def JC (P:Program) (G:World->World->Prop) (w:World) (Post:Value->World->Prop):Result Next->Prop
 | .ok (.value x) w'=>Post x w'/\G w w'
 | .ok .skip w'=>Post undef w'/\G w w'
 | .ok (.enter f args) w'=>Calls P f args w' λe w''=>∃ v,e=.returned v/\Post v w''/\G w w''
 | _=>False
attribute [go_sem] JA JC
def Has (md:Region.Mode) (ops:Array Oper) (C:World->Prop) (k:Nat) (F:Facts) (w:World):Prop:=C w/\∀ i,Region.waitsFor md ops k i=true->F i w
def Yields (P:Program) (G:World->World->Prop) (md:Region.Mode) (ops:Array Oper) (C:World->Prop) (s:Spec) (k:Nat) (o:Oper) (a:Act) (F:Facts) (V:Value->Prop) (Ψ:Value->World->Prop):Prop :=
 (Region.wanted o (yielded ops a.tmps)=true /\
  ((s=none/\∃ u,V=(λv=>v=u)/\Ψ=(λ_ _=>True)/\∀ w,Has md ops C k F w->JA w u ((execOp a.eval o).run P w)) \/
   (s=some (V,Ψ)/\∀ w,Has md ops C k F w->JC P G w (λv w'=>V v/\Ψ v w') ((execOp a.eval o).run P w)))) \/
 (Region.wanted o (yielded ops a.tmps)=false/\V=(λv=>v=undef)/\Ψ=λ_ _=>True)
theorem Yields.uniq {F:Spec} {o:Oper} {a:Act} {y:Facts} {E p:Value->Prop} {v m:Value->World->Prop} (u:Has md ops C k y w)
  (j:Yields P G md ops C F k o a y E v) (c:Yields P G md ops C F k o a y p m):E=p/\v=m:=by
 rcases j with ⟨h,j | j⟩ | ⟨h,z,A⟩ <;> rcases c with ⟨b,c | c⟩ | ⟨b,q,s⟩
 ·obtain⟨_,H,rfl,rfl,B⟩:=j;obtain⟨_,D,rfl,rfl,t⟩:=c;have d:=B w u;have f:=t w u
  revert d f
  generalize (execOp a.eval o).run P w=r
  intro d f
  have e:H=D:=by
   cases r with
   | ok n w' =>
    cases n <;> simp only[JA] at d f
    ·rw[<- d.2,f.2]
    ·rw[d.2,f.2]
   | halt x w'=>simp only[JA] at d
  rw[e];exact⟨rfl,rfl⟩
 ·rw[j.1] at c;cases c.1
 ·rw[h] at b;cases b
 ·rw[c.1] at j;cases j.1
 ·have:=j.1.symm.trans c.1;simp only[Option.some.injEq,Prod.mk.injEq] at this;exact this
 ·rw[h] at b;cases b
 ·rw[h] at b;cases b
 ·rw[h] at b;cases b
 ·exact⟨z.trans q.symm,A.trans s.symm⟩
theorem Yields.keeps {f:Spec} {k:Nat} {o:Oper} {a:Act} {h:Facts} {j:Value->Prop} {b:Value->World->Prop} (d:f.keeps G)
  (m:Yields P G md ops C f k o a h j b):∀ v w c,b v w->G w c->b v c:=by
 rcases m with ⟨_,⟨_,p,rfl,rfl,_⟩ | ⟨rfl,_⟩⟩ | ⟨_,rfl,rfl⟩
 ·exact λ_ _ _ _ _=>trivial
 ·exact d
 ·exact λ_ _ _ _ _=>trivial
theorem J8 {h:Facts} (hF:h.keeps G) {f:World->Prop} {b:World} (m:∀ i,h i w) (j:G w b) (d:f b):∀ i,h.set k f i b:=by
 intro i;unfold Facts.set;by_cases c:i=k
 ·simp only[c,if_true];exact d
 ·simp only[c,if_false];exact hF _ _ _ (m i) j
theorem Yields.run {D:Spec} {k:Nat} {o:Oper} {a:Act} {p:Facts} {z:Value->Prop} {u:Value->World->Prop} {m:World}
  (h:(∀ m,G m m)/\∀ m d,C m->G m d->C d) (hF:p.keeps G) (j:C m) (c:∀ i,p i m) (B:Yields P G md ops C D k o a p z u) :
  ∃ v d,z v/\C d/\∀ i,p.set k (u v) i d:=by
 have y:Has md ops C k p m:=⟨j,λi _=>c i⟩
 rcases B with ⟨_,⟨_,E,rfl,rfl,_⟩ | ⟨rfl,hg⟩⟩ | ⟨_,rfl,rfl⟩
 ·exact⟨E,m,rfl,j,J8 hF c (h.1 _) trivial⟩
 ·have b:=hg m y
  revert b
  generalize (execOp a.eval o).run P m=r
  intro b
  cases r with
  | ok n d =>
   cases n <;> simp only[JC] at b
   case value x=>exact⟨x,d,b.1.1,h.2 _ _ j b.2,J8 hF c b.2 b.1.2⟩
   case skip=>exact⟨undef,d,b.1.1,h.2 _ _ j b.2,J8 hF c b.2 b.1.2⟩
   case enter f args =>
    obtain⟨e,t,A,⟨v,rfl,s,q⟩,_⟩:=b []
    exact⟨v,t,s.1,h.2 _ _ j q,J8 hF c q s.2⟩
  | halt x d=>simp only[JC] at b
 ·exact⟨undef,m,rfl,j,J8 hF c (h.1 _) trivial⟩
def Sat (C:World->Prop) (F:Facts):Prop:=∃ w,C w/\∀ i,F i w
def fOp (P:Program) (G:World->World->Prop) (md:Region.Mode) (ops:Array Oper) (C:World->Prop) (sp:Nat->Spec) (i:Nat) (K:Act->(World->Prop)->Prop) (a:Act) (F:Facts):Prop :=
 ∃ o V Ψ,ops[i]?=some o/\Yields P G md ops C (sp i) i o a F V Ψ/\∀ v,V v->K (a.put o.dst v) (Ψ v)
def Xo (P:Program) (G:World->World->Prop) (md:Region.Mode) (ops:Array Oper) (C:World->Prop) (sp:Nat->Spec) (n:Nat) (L:Array Bool->Act->Facts->Prop):Nat->Array Bool->Act->Facts->Prop
 | 0,listed,a,F=>Sat C F->L listed a F
 | f+1,listed,a,F=>Sat C F->Region.ready md ops listed≠[] /\
   ∀ i∈Region.ready md ops listed,i<n/\fOp P G md ops C sp i (λa' Φ=>Xo P G md ops C sp n L f (listed.setIfInBounds i true) a' (F.set i Φ)) a F
theorem Z0 {d:Nat->Spec} {n:Nat} {j:Array Bool->Act->Facts->Prop} {f:Nat} {b:Array Bool} {a:Act} {h:Facts}
  (m:Sat C h->Xo P G md ops C d n j f b a h):Xo P G md ops C d n j f b a h:=by
 cases f with
 | zero=>exact λc=>m c c
 | succ f=>exact λc=>m c c
theorem Kk {I:Nat->Spec} {t:Nat} {a:Act} {z:Facts} {N:Act->(World->Prop)->Prop} {B:Act->World->Prop} {J:Exit->Act->World->Prop} {q:World}
  (H:∀ t,(I t).keeps G) (j:(∀ q,G q q)/\∀ q h,C q->G q h->C h) (hF:z.keeps G) (m:C q) (d:∀ t,z t q)
  (A:∀ a' y h,C h->(z.set t y).keeps G->(∀ Q,z.set t y Q h)->N a' y->B a' h) (K:fOp P G md ops C I t N a z):wpOp P ops J t B a q:=by
 obtain⟨o,S,R,L,E,s⟩:=K;have D:Has md ops C t z q:=⟨m,λt _=>d t⟩
 have c:=λv=>Facts.Vi hF (k:=t) (E.keeps (H t) v)
 unfold wpOp;simp only[L]
 rcases E with ⟨p,⟨_,T,rfl,rfl,M⟩ | ⟨_,hg⟩⟩ | ⟨p,rfl,rfl⟩
 ·simp only[p,if_true];refine .inl ?_;have b:=M q D;unfold Oper.wp
  revert b
  generalize (execOp a.eval o).run P q=r
  intro b
  cases r with
  | ok n h =>
   cases n <;> simp only[JA] at b <;> simp only[Oper.upon]
   case value x =>
    obtain⟨rfl,rfl⟩:=b;exact A _ _ _ m (c x) (J8 hF d (j.1 _) trivial) (s _ rfl)
   case skip =>
    obtain⟨rfl,rfl⟩:=b
    exact A _ _ _ m (c undef) (J8 hF d (j.1 _) trivial) (s _ rfl)
  | halt x h=>simp only[JA] at b
 ·simp only[p,if_true];refine .inl ?_;have b:=hg q D;unfold Oper.wp
  revert b
  generalize (execOp a.eval o).run P q=r
  intro b
  cases r with
  | ok n h =>
   cases n <;> simp only[JC] at b <;> simp only[Oper.upon]
   case value x=>exact A _ _ _ (j.2 _ _ m b.2) (c x) (J8 hF d b.2 b.1.2) (s _ b.1.1)
   case skip=>exact A _ _ _ (j.2 _ _ m b.2) (c undef) (J8 hF d b.2 b.1.2) (s _ b.1.1)
   case enter f args =>
    refine b.mono λe O u=>?_
    obtain⟨v,rfl,u,F⟩:=u
    exact A _ _ _ (j.2 _ _ m F) (c v) (J8 hF d F u.2) (s _ u.1)
  | halt x h=>simp only[JC] at b
 ·simp only[p,Bool.false_eq_true,if_false];exact A _ _ _ m (c undef) (J8 hF d (j.1 _) trivial) (s _ rfl)
theorem QR {u:Nat->Spec} {n g:Nat} {z:Array Bool->Act->Facts->Prop} {Q':Exit->Act->World->Prop}
  (m:∀ i,(u i).keeps G) (j:(∀ w,G w w)/\∀ w c,C w->G w c->C c)
  (s:∀ b a d w,C w->(∀ i,d i w)->z b a d->wpAny P md ops Q' g b a w) :
  ∀ (f:Nat) (b:Array Bool) (a:Act) (d:Facts) (w:World),d.keeps G->C w->(∀ i,d i w)->Xo P G md ops C u n z f b a d->wpAny P md ops Q' (f+g) b a w
 | 0,b,a,d,w,hF,hw,hFw,h=>by rw[Nat.zero_add];exact s _ _ _ _ hw hFw (h ⟨w,hw,hFw⟩)
 | f+1,b,a,d,w,hF,hw,hFw,h=>by
  rw[show f+1+g=(f+g)+1 by omega];have q:=h ⟨w,hw,hFw⟩;exact⟨λx=>absurd x q.1,λi y=>Kk m j hF hw hFw (λa' A c t r p v=>QR m j s f _ a' _ c r t p v) (q.2 i y).2⟩
theorem Yields.of_same {u:Spec} {b:Act} {s f:Facts} {t:Value->Prop} {m:Value->World->Prop} (c:Yields P G md ops C u k o a s t m)
  (r:execOp b.eval o=execOp a.eval o) (h:Region.wanted o (yielded ops b.tmps)=Region.wanted o (yielded ops a.tmps)) (hF:∀ w,Has md ops C k f w->Has md ops C k s w) :
  Yields P G md ops C u k o b f t m:=by
 unfold Yields at *;rw[r,h]
 rcases c with ⟨j,⟨e,v,p,q,c⟩ | ⟨e,c⟩⟩ | c
 ·exact .inl ⟨j,.inl ⟨e,v,p,q,λw d=>c w (hF w d)⟩⟩
 ·exact .inl ⟨j,.inr ⟨e,λw d=>c w (hF w d)⟩⟩
 ·exact .inr c
theorem ZA (h:ops[k]?=some o) (m:∀ e∈o.after,Region.binds md e=true->e.on≠i):Region.waitsFor md ops k i=false:=by
 cases b:Region.waitsFor md ops k i with
 | false=>rfl
 | true =>
  obtain⟨j,c,e,f,b,d⟩:=Region.waitsFor_spec b;have:j=o:=Option.some.inj (c.symm.trans h);subst this;exact absurd d (m e f b)
theorem Has.of_set {d:Facts} {h:World->Prop} (f:Region.waitsFor md ops k i=false) (j:Has md ops C k (d.set i h) w):Has md ops C k d w:=by
 refine⟨j.1,λm b=>?_⟩
 have c:m≠i:=λe=>by rw[e,f] at b;cases b
 have:=j.2 m b;rwa [Facts.YP d c] at this
theorem Has.to_set {d:Facts} {h:World->Prop} (f:Region.waitsFor md ops k i=false) (j:Has md ops C k d w):Has md ops C k (d.set i h) w:=by
 refine⟨j.1,λm b=>?_⟩
 have c:m≠i:=λe=>by rw[e,f] at b;cases b
 rw[Facts.YP d c];exact j.2 m b
theorem Z4 {L:Nat->Spec} {n:Nat} {m:Oper} {aH:Array Bool->Act->Facts->Prop} (az:∀ i,(L i).keeps G) (Z:(∀ w,G w w)/\∀ w Y,C w->G w Y->C Y)
  (hi:ops[i]?=some m) (S:∀ (h:Nat) (o:Oper) cs b,ops[h]?=some o->o.op≠.select cs b)
  (hs:Region.sinkB md ops n=true) (hc:Region.chainB md ops n=true) (hn:n<ops.size) (ab:i<n)
  (U:∀ c a A,aH c a A->∀ h∈Region.ready md ops c,n<=h) {aG:Value->Prop} {M:Value->World->Prop} :
  ∀ (f:Nat) (c:Array Bool) (a:Act) (A:Facts),HeadInv md ops n c->A.keeps G->(∀ k,c.getD k false=false->∀ w,A k w) ->
   (∀ h p,ops[h]?=some p->h≠i->c.getD h true=false->(∀ e∈p.after,Region.binds md e=true->e.on≠i)->m.apart ops p=true) ->
   i∈Region.ready md ops c->Yields P G md ops C (L i) i m a A aG M ->
   (∀ v,aG v->Xo P G md ops C L n aH f (c.setIfInBounds i true) (a.put m.dst v) (A.set i (M v)))->Xo P G md ops C L n aH (f+1) c a A:=by
 intro f
 induction f with
 | zero =>
  intro c a A J hF O _ u K ao D;have j:=(mem_ready.1 u).1;obtain⟨w,X,F⟩:=D;obtain⟨v,Y,hv,aC,af⟩:=K.run Z hF X F;have H0:=ao v hv ⟨Y,aC,af⟩;refine⟨λx=>(by rw[x] at u;cases u),λh y=>?_⟩
  have I:h<n:=by
   rcases Nat.lt_or_ge h n with x | x
   ·exact x
   ·exact absurd y (tail_waits hs hc hn J _ i rfl ab j h x)
  refine⟨I,?_⟩;by_cases d:h=i
  ·subst d;exact⟨m,aG,M,hi,K,ao⟩
  ·have:=U _ _ _ H0 h (ready_mono y d)
   omega
 | succ f ih =>
  intro c a A J hF O H u K ao D;have j:=(mem_ready.1 u).1;obtain⟨w,X,F⟩:=D;obtain⟨v0,w0,aA,aD,ag⟩:=K.run Z hF X F;have H0:=ao v0 aA ⟨w0,aD,ag⟩;refine⟨λx=>(by rw[x] at u;cases u),λh y=>?_⟩
  have I:h<n:=by
   rcases Nat.lt_or_ge h n with x | x
   ·exact x
   ·exact absurd y (tail_waits hs hc hn J _ i rfl ab j h x)
  refine⟨I,?_⟩;by_cases d:h=i
  ·subst d;exact⟨m,aG,M,hi,K,ao⟩
  ·obtain⟨q,p,r,ai⟩:=mem_ready.1 y
   have R:∀ e∈p.after,Region.binds md e=true->e.on≠i:=λe he hb Q=>by
    have N:=ai e he hb;rw[Q,getD_both j] at N
    cases N
   have an:=ZA (md:=md) r R
   have am:Region.waitsFor md ops i h=false:=by
    obtain⟨_,o',ay,T⟩:=mem_ready.1 u
    refine ZA ay λe he hb Q=>?_
    have N:=T e he hb;rw[Q,getD_both q] at N
    cases N
   have au:=H h p r d q R;obtain⟨p1,p2,p3⟩:=Oper.apart_spec au
   have back:∀ (v:Value) {V':Value->Prop} {ad:Value->World->Prop},Yields P G md ops C (L h) h p (a.put m.dst v) (A.set i (M v)) V' ad->Yields P G md ops C (L h) h p a A V' ad:=λv _ _ x =>
    x.of_same (execOp_put p (S h p · · r) a m.dst v p1).symm (wanted_put p a m.dst v p1).symm (λ_ x=>x.to_set an)
   obtain⟨s,Vj,ae,aj,ar,_⟩:=(H0.2 h (ready_mono y d)).2;obtain rfl:s=p:=Option.some.inj (aj.symm.trans r);have B:=back v0 ar;refine⟨s,Vj,ae,r,B,λE aB=>?_⟩
   have aI:(c.setIfInBounds h true).getD i true=false:=by rw[getD_set_ne true d];exact j
   refine ih (c.setIfInBounds h true) (a.put s.dst E) (A.set h (ae E)) (J.set y I) (Facts.Vi hF (B.keeps (az h) E)) (λk t w=>?_) (λk ok t av j ax=>?_) (ready_mono u (Ne.symm d))
    (K.of_same (execOp_put m (S i m · · hi) a s.dst E p3) (wanted_put m a s.dst E p3) (λ_ x=>x.of_set am)) (λv hv=>Z0 λV=>?_)
   ·have z:k≠h:=λe=>by
     subst e
     have aw:k<c.size:=by
      rcases Nat.lt_or_ge k c.size with h' | h'
      ·exact h'
      ·simp[Array.getElem?_eq_none h'] at q
     simp[aw] at t
    rw[Facts.YP A z];rw[getD_set_ne false (Ne.symm z)] at t;exact O k t w
   ·refine H k ok t av ?_ ax;by_cases ac:h=k
    ·subst ac;exact q
    ·rw[getD_set_ne true ac] at j;exact j
   ·obtain⟨w2,aE,aa⟩:=V
    have W:Sat C (A.set i (M v)):=⟨w2,aE,λk=>by
     by_cases t:k=i
     ·subst t;have:=aa k;rw[Facts.set_same] at this ⊢;exact this
     ·rw[Facts.YP A t];by_cases z:k=h
      ·subst z;exact O k (getD_both q) w2
      ·have:=aa k;rw[Facts.YP _ t,Facts.YP _ z] at this
       exact this⟩
    obtain⟨aF,aK,aJ,ak,ah,aq⟩:=((ao v hv W).2 h (ready_mono y d)).2;obtain rfl:aF=s:=Option.some.inj (ak.symm.trans r);obtain⟨rfl,rfl⟩:=(back v ah).uniq ⟨X,λk _=>F k⟩ B;have h3:=aq E aB;rw[Array.setIfInBounds_comm _ _ d,Facts.set_comm A (Ne.symm d),<- Act.put_comm a v E p2];exact h3
def wpF (P:Program) (G:World->World->Prop) (md:Region.Mode) (ops:Array Oper) (C:World->Prop) (sp:Nat->Spec) (Q:Act->Facts->Prop):List Oper->Nat->Act->Facts->Prop
 | [],_,a,F=>Q a F
 | o :: rest,k,a,F=>∃ V Ψ,Yields P G md ops C (sp k) k o a F V Ψ/\∀ v,V v->wpF P G md ops C sp Q rest (k+1) (a.put o.dst v) (F.set k (Ψ v))
theorem XV {u:Nat->Spec} {n g:Nat} {x:Act->Facts->Prop} (f:∀ i,(u i).keeps G) (q:(∀ w,G w w)/\∀ w H,C w->G w H->C H)
  (d:Region.noSelect ops=true) (F:Region.sinkB md ops n=true) (B:Region.chainB md ops n=true) (E:n<ops.size) :
  ∀ (l:List Oper) (k:Nat) (b:Array Bool) (a:Act) (p:Facts),(∀ j,j<l.length->l[j]?=ops[k+j]?)->k+l.length=n->HeadInv md ops n b->p.keeps G->(∀ k,b.getD k false=false->∀ w,p k w) ->
  Region.lexHead md ops g l.length k b=true->wpF P G md ops C u x l k a p ->
  Xo P G md ops C u n (λc a' I=>Region.seqB md ops g n c=true/\x a' I) l.length b a p
 | [],k,b,a,p,_,hk,_,_,_,hB,h=>by
  have:k=n:=by simpa using hk
  subst this
  exact λ_=>⟨by simpa[Region.lexHead] using hB,h⟩
 | o :: l,k,b,a,p,hl,hk,inv,hF,hFt,hB,h=>by
  have y:ops[k]?=some o:=by simpa using (hl 0 (by simp)).symm
  simp only[List.length_cons,Region.lexHead,Bool.and_eq_true] at hB;obtain⟨⟨M,L⟩,z⟩:=hB
  have s:k<n:=by simp only[List.length_cons] at hk;omega
  have t:k∈Region.ready md ops b:=by simpa using M
  obtain⟨Q,O,A,J⟩:=h
  refine Z4 f q y (Region.noSelect_spec d) F B E s (λc a' _ K=>seqB_ready K.1) l.length b a p inv hF hFt (Region.free_spec y L) t A λv N=>?_
  refine XV f q d F B E l (k+1) _ _ _ (λj m=>by have:=hl (j+1) (by simp;omega);simpa[Nat.add_assoc,Nat.add_comm 1 j] using this) (by simp only[List.length_cons] at hk;omega) (inv.set t s)
   (Facts.Vi hF (A.keeps (f k) v)) (λj m w=>?_) z (J v N)
  have r:j≠k:=λe=>by
   subst e
   have D:j<b.size:=by rw[inv.size];omega
   simp[D] at m
  rw[Facts.YP p r];rw[getD_set_ne false (Ne.symm r)] at m;exact hFt j m w
theorem Jd {id:Nat} {F:Exit->Act->World->Prop} {a:Act} {f:World} (n:Nat) (E:Nat->Spec) (p:World->Prop) (I:P.follows .mixedOrders=true) (t:Region.lexTailB .any l.toArray n=true)
  (m:∀ i,(E i).keeps G) (h:(∀ f,G f f)/\∀ f b,p f->G f b->p b) (u:p { f with drawn:=f.drawn+1 })
  (Q:wpF P G .any l.toArray p E (λa' M=>∀ b,p b->(∀ i,M i b)->wpList P l.toArray F (l.drop n) a' b) (l.take n) 0 a (λ_ _=>True)):(Code.region id l.toArray true).wp P F a f:=by
 simp only[Region.lexTailB,Bool.and_eq_true,decide_eq_true_eq] at t;obtain⟨⟨⟨⟨r,B⟩,J⟩,H⟩,q⟩:=t
 have N:n<l.length:=by simpa using B
 have c:(l.take n).length=n:=by simp;omega
 have j:(l.drop n).length=l.toArray.size-n:=by simp
 have s:HeadInv .any l.toArray n (Array.replicate l.toArray.size false) :=
  ⟨by simp,λL R _ A=>(by rw[getD_replicate_false] at A;cases A),λS _ K=>getD_in (by simpa using K) (getD_replicate_false _ _)⟩
 have O:=XV (P:=P) (md:=.any) (C:=p) (g:=l.toArray.size-n) m h r J H B (l.take n) 0 _ a (λ_ _=>True) (λL y=>by
  have z:L<n:=by rw[c] at y;exact y
  simp[z]) (by simpa using c) s (λ_ _ _ _ _=>trivial) (λ_ _ _=>trivial) (by rw[c];exact q) Q
 refine wp_region_any I ?_
 have:=QR (Q':=F) (g:=l.toArray.size-n) m h (λd a' M b D v x=>by
  have:=wpAny_of_seq (md:=.any) (Q':=F) (l.drop n) n d a' b (λL=>by simp[List.getElem?_drop]) (by rw[j];exact x.1) (x.2 b D v)
  rwa [j] at this) _ _ _ _ _ (λ_ _ _ _ _=>trivial) u (λ_=>trivial) O
 rw[c,show n+(l.toArray.size-n)=l.toArray.size by omega] at this;exact this
theorem Ji {id:Nat} {s:Exit->Act->World->Prop} {a:Act} {f:World} (n:Nat) (d:Nat->Spec) (h:World->Prop) (r:P.follows .mixedOrders=true) (q:Region.lexTailB .any l.toArray n=true)
  (p:∀ i,(d i).keeps λa b=>Below a.heap.size a b) (m:∀ f c,h f->Below f.heap.size f c->h c) (j:h { f with drawn:=f.drawn+1 })
  (u:wpF P (λa b=>Below a.heap.size a b) .any l.toArray h d (λa' t=>∀ c,h c->(∀ i,t i c)->wpList P l.toArray s (l.drop n) a' c) (l.take n) 0 a (λ_ _=>True)):(Code.region id l.toArray true).wp P s a f :=
 Jd n d h r q p ⟨λ_=>zk,m⟩ j u
theorem Jn {b:Nat->Spec} {d:Act->Facts->Prop} {c:Facts} (f:d a c):wpF P G md ops C b d [] k a c:=f
theorem Jy {b:Nat->Spec} {p:Act->Facts->Prop} {rest:List Oper} {a:Act} {c:Facts} (hg:o.guard=none) (h:b k=none) (m:Value)
  (f:∀ w,Has md ops C k c w->JA w m ((execOp a.eval o).run P w)) (d:wpF P G md ops C b p rest (k+1) (a.put o.dst m) (c.set k (λ_=>True))):wpF P G md ops C b p (o :: rest) k a c :=
 ⟨_,_,.inl ⟨by simp[Region.wanted,hg],.inl ⟨h,m,rfl,rfl,f⟩⟩,λv j=>by cases j;exact d⟩
theorem Jc {c:Nat->Spec} {q:Act->Facts->Prop} {rest:List Oper} {a:Act} {f:Facts} (hg:o.guard=none) {d:Value->Prop} {b:Value->World->Prop} (m:c k=some (d,b))
  (j:∀ w,Has md ops C k f w->JC P G w (λv p=>d v/\b v p) ((execOp a.eval o).run P w)) (h:∀ v,d v->wpF P G md ops C c q rest (k+1) (a.put o.dst v) (f.set k (b v))):wpF P G md ops C c q (o :: rest) k a f :=
 ⟨d,b,.inl ⟨by simp[Region.wanted,hg],.inr ⟨m,j⟩⟩,h⟩
theorem Yw {b:Nat->Spec} {p:Act->Facts->Prop} {rest:List Oper} {c:Facts} (hg:Region.wanted o (yielded ops a.tmps)=true) (h:b k=none) (m:Value)
  (f:∀ w,Has md ops C k c w->JA w m ((execOp a.eval o).run P w)) (d:wpF P G md ops C b p rest (k+1) (a.put o.dst m) (c.set k (λ_=>True))):wpF P G md ops C b p (o :: rest) k a c :=
 ⟨_,_,.inl ⟨hg,.inl ⟨h,m,rfl,rfl,f⟩⟩,λv j=>by cases j;exact d⟩
theorem QZ {b:Nat->Spec} {h:Act->Facts->Prop} {rest:List Oper} {k:Nat} {f:Facts} (hg:Region.wanted o (yielded ops a.tmps)=false)
  (c:wpF P G md ops C b h rest (k+1) (a.put o.dst undef) (f.set k (λ_=>True))):wpF P G md ops C b h (o :: rest) k a f :=
 ⟨_,_,.inr ⟨hg,rfl,rfl⟩,λv d=>by cases d;exact c⟩
theorem rdw {b:Nat->Spec} {p:Act->Facts->Prop} {m:Facts} {j:Value} (f:∀ w,C w->JA w j ((execOp a.eval o).run P w)) (c:wpF P G md ops C b p rest (k+1) a' (m.set k (λ_=>True))) (hg:o.guard=none:=by rfl) (h:b k=none:=by rfl) (d:a.put o.dst j=a':=by simp only[Act.put,List.setIfInBounds_toArray,List.set_cons_succ,List.set_cons_zero];exact rfl):wpF P G md ops C b p (o :: rest) k a m:=Jy hg h j (λw q=>f w q.1) (d ▸ c)
theorem rdg {b:Nat->Spec} {p:Act->Facts->Prop} {m:Facts} {j:Value} (f:∀ w,C w->JA w j ((execOp a.eval o).run P w)) (c:wpF P G md ops C b p rest (k+1) a' (m.set k (λ_=>True))) (hg:Region.wanted o (yielded ops a.tmps)=true:=by rfl) (h:b k=none:=by rfl) (d:a.put o.dst j=a':=by simp only[Act.put,List.setIfInBounds_toArray,List.set_cons_succ,List.set_cons_zero];exact rfl):wpF P G md ops C b p (o :: rest) k a m:=Yw hg h j (λw q=>f w q.1) (d ▸ c)
theorem rd0 {b:Nat->Spec} {m:Act->Facts->Prop} {j:Facts} {p:Value} (c:wpF P G md ops C b m rest (k+1) a' (j.set k (λ_=>True))) (f:∀ w,C w->JA w p ((execOp a.eval o).run P w):=by intro w _;go_simp;try rfl) (hg:o.guard=none:=by rfl) (h:b k=none:=by rfl) (d:a.put o.dst p=a':=by simp only[Act.put,List.setIfInBounds_toArray,List.set_cons_succ,List.set_cons_zero];exact rfl):wpF P G md ops C b m (o :: rest) k a j:=rdw f c hg h d
theorem rdz {b:Nat->Spec} {m:Act->Facts->Prop} {j:Facts} {p:Value} (c:wpF P G md ops C b m rest (k+1) a' (j.set k (λ_=>True))) (f:∀ w,C w->JA w p ((execOp a.eval o).run P w):=by intro w _;go_simp;try rfl) (hg:Region.wanted o (yielded ops a.tmps)=true:=by rfl) (h:b k=none:=by rfl) (d:a.put o.dst p=a':=by simp only[Act.put,List.setIfInBounds_toArray,List.set_cons_succ,List.set_cons_zero];exact rfl):wpF P G md ops C b m (o :: rest) k a j:=rdg f c hg h d
theorem Has.world {b:Facts} (c:Has md ops C k b w):C w:=c.1
theorem Has.fact {d:Facts} (f:Has md ops C k d w) (c:Nat) (b:Region.waitsFor md ops k c=true):d c w:=f.2 c b
abbrev Sp:=(Value->Prop) × (Value->World->Prop)
def Sp.know (u:Value):Sp:=(λv=>v=u,λ_ _=>True)
def Sp.made {α:Type} (val:α->Value) (Φ:α->World->Prop):Sp:=(λv=>∃ x,v=val x,λv w=>∃ x,v=val x/\Φ x w)
def Sp.keeps (s:Sp) (G:World->World->Prop):Prop:=∀ v w w',s.2 v w->G w w'->s.2 v w'
theorem Sp.Jk (b:Value):(Sp.know b).keeps G:=λ_ _ _ _ _=>trivial
theorem Sp.Jf {h:Type} {c:h->Value} {b:h->World->Prop} (p:∀ f w d,b f w->G w d->b f d):(Sp.made c b).keeps G:=λ_ _ _ ⟨f,e,m⟩ j=>⟨f,e,p f _ _ m j⟩
def JI:List (Nat × Sp)->Nat->Spec
 | [],_=>none
 | (k,s) :: l,i=>if i=k then some s else JI l i
theorem Jh:∀ i,(JI [] i).keeps G:=λ_=>trivial
theorem Jb {h:Sp} {f:List (Nat × Sp)} (c:h.keeps G) (b:∀ i,(JI f i).keeps G):∀ i,(JI ((k,h) :: f) i).keeps G:=by
 intro i;unfold JI;by_cases d:i=k
 ·rw[if_pos d];exact c
 ·rw[if_neg d];exact b i
end Go.FreshH
namespace Go.FS
open Go.RowKit
variable {g i k lo n:Nat} {w w':World} {a a':Act} {o:Oper} {rest:List Oper} {u v:Value}
variable {P:Program} {ops:Array Oper} {md:Region.Mode} {C:World->Prop} {rel:Nat->Option Nat}
structure Fact where
 fact:World->Prop
 own:Nat->Prop
def Fact.none:Fact:=⟨λ_=>True,λ_=>False⟩
structure Shaped (w w':World):Prop where
 size:w.heap.size<=w'.heap.size
 shape:∀ (k:Nat) c T,w.heap[k]?=some (.cells c T (0,0))->∃ c',w'.heap[k]?=some (.cells c' T (0,0))/\c'.size=c.size
theorem Shaped.of (c:Below w.heap.size w w'):Shaped w w':=⟨c.size,λk d f b=>⟨d,(c.block k (Array.getElem?_eq_some_iff.1 b).1).trans b,rfl⟩⟩
def jc9 (ops:Array Oper) (T:TypeId):Prop:=∃ (k:Nat) (o:Oper) (p v:Operand),ops[k]?=some o/\o.op=.store T p v
def Changed (ops:Array Oper) (w w':World):Prop:=∀ b,b<w.heap.size->w'.heap[b]?=w.heap[b]?\/∃ c T,w'.heap[b]?=some (.cells c T (0,0))/\jc9 ops T
structure Fact.Good (ops:Array Oper) (rel:Nat->Option Nat) (k:Nat) (Φ:Fact):Prop where
 keep:∀ w w',Φ.fact w->Shaped w w'->(∀ b,Φ.own b->w'.heap[b]?=w.heap[b]?)->Changed ops w w'->Φ.fact w'
 free:∀ k',rel k'=some k->∀ w w',Φ.fact w->Shaped w w'->Φ.fact w'
theorem Fact.ZB (b:Array Oper) (rel:Nat->Option Nat) (k:Nat):Fact.none.Good b rel k:=⟨λ_ _ _ _ _ _=>trivial,λ_ _ _ _ _ _=>trivial⟩
abbrev Spec:=Option ((Value->Prop) × (Value->Fact))
def Spec.keeps (ops:Array Oper) (rel:Nat->Option Nat) (k:Nat) (s:Spec):Prop:=match s with
 | none=>True
 | some s=>∀ v,(s.2 v).Good ops rel k
abbrev Facts:=Nat->Fact
def Facts.put (F:Facts) (k:Nat) (r:Option Nat) (Φ:Fact):Facts:=λi=>if i=k then Φ else if r=some i then ⟨(F i).fact,λ_=>False⟩ else F i
def Facts.keeps (ops:Array Oper) (rel:Nat->Option Nat) (F:Facts):Prop:=∀ i,(F i).Good ops rel i
theorem Facts.Q8 (c:Facts) (k:Nat) (r:Option Nat) (b:Fact):c.put k r b k=b:=by simp[Facts.put]
theorem Facts.VZ (d:Facts) (f:i≠k) {r:Option Nat} (b:r≠some i) (c:Fact):d.put k r c i=d i:=by simp[Facts.put,f,b]
theorem Facts.put_rel (c:Facts) (d:i≠k) (b:Fact):c.put k (some i) b i=⟨(c i).fact,λ_=>False⟩:=by simp[Facts.put,d]
theorem Facts.jaf (c:Facts) (d:i≠k) (r:Option Nat) (b:Fact):(c.put k r b i).fact=(c i).fact:=by
 unfold Facts.put;rw[if_neg d]
 split <;> rfl
theorem Facts.put_comm (t:Facts) (x:i≠k) {r h:Option Nat} (q:r≠some i) (s:h≠some k) (d f:Fact):(t.put k r d).put i h f=(t.put i h f).put k r d:=by
 funext j;unfold Facts.put;by_cases b:j=i
 ·subst b;simp[x,q]
 ·by_cases c:j=k
  ·subst c;simp[b,s]
  ·simp only[b,c,if_false]
   by_cases m:h=some j <;> by_cases p:r=some j <;> simp[m,p]
theorem Facts.Vk {rel:Nat->Option Nat} {x:Facts} (hF:x.keeps ops rel) {r:Option Nat} (s:r=Option.none\/r=rel k) {m:Fact} (j:m.Good ops rel k):(x.put k r m).keeps ops rel:=by
 intro i;by_cases f:i=k
 ·subst f;rw[Facts.Q8];exact j
 ·unfold Facts.put;rw[if_neg f];split
  ·rename_i b
   have q:rel k=some i:=by
    rcases s with p | p
    ·rw[p] at b;cases b
    ·rw[<- p];exact b
   exact⟨λw w' c d _ _=>(hF i).free k q w w' c d,λt h w w' c d=>(hF i).free t h w w' c d⟩
  ·exact hF i
structure Facts.Holds (F:Facts) (w:World):Prop where
 all:∀ i,(F i).fact w
 low:∀ i b,(F i).own b->b<w.heap.size
 apart:∀ i j b,i≠j->(F i).own b->¬(F j).own b
def JA (w:World) (u:Value):Result Next->Prop
 | .ok (.value x) w'=>w'=w/\x=u
 | .ok .skip w'=>w'=w/\u=undef
 | _=>False
def JC (P:Program) (w:World) (Post:Value->World->Prop):Result Next->Prop
 | .ok (.value x) w'=>Post x w'/\Below w.heap.size w w'
 | .ok (.enter f args) w'=>Calls P f args w' λe w''=>∃ v,e=.returned v/\Post v w''/\Below w.heap.size w w''
 | _=>False
def QT (P:Program) (w:World) (C:World->Prop) (own:Nat->Prop) (Φ:World->Prop):Result Next->Prop
 | .ok .skip w'=>(C w'/\Shaped w w'/\w'.heap.size=w.heap.size/\∀ b,¬own b->w'.heap[b]?=w.heap[b]?)/\Φ w'
 | _=>False
attribute [go_sem] JA JC QT
inductive YQ (md:Region.Mode) (ops:Array Oper):Nat->Nat->Prop
 | one {k i:Nat}:Region.waitsFor md ops k i=true->YQ md ops k i
 | more {k j i:Nat}:Region.waitsFor md ops k j=true->YQ md ops j i->YQ md ops k i
def Has (md:Region.Mode) (ops:Array Oper) (C:World->Prop) (k:Nat) (F:Facts) (w:World):Prop:=C w/\∀ i,YQ md ops k i->(F i).fact w
def cellsOf:Value->Array Value
 | .agg c=>c
 | v=>#[v]
def V3 (w:World) (T:TypeId) (p v:Value):Prop:=∃ g,p=.pointer (some ⟨g,0,none⟩)/\w.heap[g]?=some (.cells (cellsOf v) T (0,0))
def Ue (p:Value) (b:Nat):Prop:=p=.pointer (some ⟨b,0,none⟩)
def Xx (o:Oper) (a:Act):Fact:=match o.op with
 | .store T p v=>⟨λw=>V3 w T (a.eval p) (a.eval v),Ue (a.eval p)⟩
 | _=>Fact.none
theorem jei (o:Oper) (a:Act) (h:∀ d,rel d≠some k):(Xx o a).Good ops rel k:=by
 refine⟨λw w' b _ c _=>?_,λd e=>absurd e (h d)⟩;unfold Xx at b c ⊢
 revert b c
 split
 ·intro b c;obtain⟨g,f,hg⟩:=b;exact⟨g,f,(c g f).trans hg⟩
 ·intro _ _;exact trivial
theorem VB (j:ops[k]?=some o) (h:(Xx o a).fact w):∀ b,(Xx o a).own b->∃ q f,w.heap[b]?=some (.cells q f (0,0))/\jc9 ops f:=by
 intro b c;unfold Xx at h c
 revert h c
 split
 ·rename_i f p v d;intro h c;obtain⟨g,m,hg⟩:=h;have c:a.eval p=.pointer (some ⟨b,0,none⟩):=c;rw[m] at c
  cases c
  exact⟨_,f,hg,k,o,p,v,j,d⟩
 ·intro _ c;exact c.elim
def Yields (P:Program) (md:Region.Mode) (ops:Array Oper) (C:World->Prop) (rel:Nat->Option Nat) (s:Spec) (k:Nat) (o:Oper) (a:Act) (F:Facts) (V:Value->Prop) (Ψ:Value->Fact):Prop :=
 (Region.wanted o (yielded ops a.tmps)=true /\
  ((s=none/\rel k=none/\∃ u,V=(λv=>v=u)/\Ψ=(λ_=>Fact.none)/\∀ w,Has md ops C k F w->JA w u ((execOp a.eval o).run P w)) \/
   (s=some (V,Ψ)/\rel k=none/\∀ w,Has md ops C k F w->JC P w (λv w'=>V v/\(Ψ v).fact w'/\∀ b,(Ψ v).own b->w.heap.size<=b/\b<w'.heap.size) ((execOp a.eval o).run P w)) \/
   (s=none/\V=(λv=>v=undef)/\Ψ=(λ_=>Xx o a)/\∃ j,rel k=some j/\(∀ b,(F j).own b↔(Xx o a).own b)/\∀ w,Has md ops C k F w->QT P w C (Xx o a).own (Xx o a).fact ((execOp a.eval o).run P w)))) \/
 (Region.wanted o (yielded ops a.tmps)=false/\rel k=none/\V=(λv=>v=undef)/\Ψ=λ_=>Fact.none)
theorem Yields.uniq {E:Spec} {o:Oper} {a:Act} {H:Facts} {F s:Value->Prop} {y p:Value->Fact} (D:Has md ops C k H w)
  (f:Yields P md ops C rel E k o a H F y) (b:Yields P md ops C rel E k o a H s p):F=s/\y=p:=by
 have q:∀ {E:Spec},E=some (F,y)->E=some (s,p)->F=s/\y=p:=λd j=>by
  have:=d.symm.trans j;simp only[Option.some.injEq,Prod.mk.injEq] at this;exact this
 rcases f with ⟨m,f | f | f⟩ | ⟨m,t,h,I⟩ <;> rcases b with ⟨c,b | b | b⟩ | ⟨c,L,z,A⟩
 ·obtain⟨_,_,u,rfl,rfl,J⟩:=f;obtain⟨_,_,K,rfl,rfl,B⟩:=b;have d:=J w D;have j:=B w D
  revert d j
  generalize (execOp a.eval o).run P w=r
  intro d j
  have e:u=K:=by
   cases r with
   | ok n w' =>
    cases n <;> simp only[JA] at d j
    ·rw[<- d.2,j.2]
    ·rw[d.2,j.2]
   | halt x w'=>simp only[JA] at d
  rw[e];exact⟨rfl,rfl⟩
 ·rw[f.1] at b;cases b.1
 ·obtain⟨_,t,_⟩:=f;obtain⟨_,_,_,M,h,_⟩:=b
  rw[t] at h;cases h
 ·rw[m] at c;cases c
 ·rw[b.1] at f;cases f.1
 ·exact q f.1 b.1
 ·rw[b.1] at f;cases f.1
 ·rw[m] at c;cases c
 ·obtain⟨_,_,_,M,h,_⟩:=f;obtain⟨_,t,_⟩:=b
  rw[t] at h;cases h
 ·rw[f.1] at b;cases b.1
 ·exact⟨f.2.1.trans b.2.1.symm,f.2.2.1.trans b.2.2.1.symm⟩
 ·rw[m] at c;cases c
 ·rw[m] at c;cases c
 ·rw[m] at c;cases c
 ·rw[m] at c;cases c
 ·exact⟨h.trans z.symm,I.trans A.symm⟩
theorem Yields.keeps {m:Spec} {o:Oper} {a:Act} {p:Facts} {q:Value->Prop} {c:Value->Fact} (b:∀ h,rel k=some h->∀ j,rel j≠some k) (f:m.keeps ops rel k)
  (r:Yields P md ops C rel m k o a p q c):∀ v,(c v).Good ops rel k:=by
 rcases r with ⟨_,⟨_,_,u,rfl,rfl,_⟩ | ⟨rfl,_⟩ | ⟨_,_,rfl,h,d,_⟩⟩ | ⟨_,_,rfl,rfl⟩
 ·exact λ_=>Fact.ZB _ _ _
 ·exact f
 ·exact λ_=>jei o a (b h d)
 ·exact λ_=>Fact.ZB _ _ _
theorem J8 {s:Facts} (hF:s.keeps ops rel) {m:Fact} (f:s.Holds w) (p:Below w.heap.size w w') (x:m.fact w') (r:∀ b,m.own b->w.heap.size<=b/\b<w'.heap.size):(s.put k none m).Holds w':=by
 have ne:∀ {i},i≠k->s.put k none m i=s i:=λh=>Facts.VZ s h (by simp) m
 refine⟨λi=>?_,λi b h=>?_,λi y b q h d=>?_⟩
 ·by_cases c:i=k
  ·subst c;rw[Facts.Q8];exact x
  ·rw[ne c];exact(hF i).keep _ _ (f.all i) (Shaped.of p) (λb j=>p.block b (f.low i b j)) (λb j=>.inl (p.block b j))
 ·by_cases c:i=k
  ·subst c;rw[Facts.Q8] at h;exact(r b h).2
  ·rw[ne c] at h;have:=f.low i b h;have:=p.size;omega
 ·by_cases c:i=k
  ·subst c;rw[Facts.Q8] at h;rw[ne (Ne.symm q)] at d;have:=f.low y b d;have:=(r b h).1;omega
  ·rw[ne c] at h;by_cases t:y=k
   ·subst t;rw[Facts.Q8] at d;have:=f.low i b h;have:=(r b d).1;omega
   ·rw[ne t] at d;exact f.apart i y b q h d
theorem ZC {b:Facts} (hF:b.keeps ops rel) (c:b.Holds w):(b.put k none Fact.none).Holds w :=
 J8 hF c zk trivial (λ_ d=>d.elim)
theorem Uf {s:Facts} (hF:s.keeps ops rel) {j:Nat} (D:j≠k) (K:rel k=some j) {f:Fact} (p:s.Holds w) (E:Shaped w w') (L:w'.heap.size=w.heap.size) (t:∀ b,(s j).own b↔f.own b) (B:∀ b,¬f.own b->w'.heap[b]?=w.heap[b]?) (F:∀ b,f.own b->∃ N M,w'.heap[b]?=some (.cells N M (0,0))/\jc9 ops M) (H:f.fact w'):(s.put k (some j) f).Holds w':=by
 have ne:∀ {i},i≠k->i≠j->s.put k (some j) f i=s i:=λh I=>Facts.VZ s h (by simp;exact λe=>I e.symm) f
 have r:s.put k (some j) f j=⟨(s j).fact,λ_=>False⟩:=Facts.put_rel s D f;refine⟨λi=>?_,λi b h=>?_,λi q b y h d=>?_⟩
 ·by_cases m:i=k
  ·subst m;rw[Facts.Q8];exact H
  ·by_cases c:i=j
   ·subst c;rw[r];exact(hF i).free k K _ _ (p.all i) E
   ·rw[ne m c];exact(hF i).keep _ _ (p.all i) E (λb J=>B b λA=>p.apart i j b c J ((t b).2 A)) (λb _=>(Classical.em (f.own b)).elim (λh=>.inr (F b h)) (λh=>.inl (B b h)))
 ·rw[L];by_cases m:i=k
  ·subst m;rw[Facts.Q8] at h;exact p.low j b ((t b).2 h)
  ·by_cases c:i=j
   ·subst c;rw[r] at h;exact h.elim
   ·rw[ne m c] at h;exact p.low i b h
 ·by_cases m:i=k
  ·subst m;rw[Facts.Q8] at h;by_cases c:q=j
   ·subst c;rw[r] at d;exact d
   ·rw[ne (Ne.symm y) c] at d;exact p.apart j q b (Ne.symm c) ((t b).2 h) d
  ·by_cases c:i=j
   ·subst c;rw[r] at h;exact h
   ·rw[ne m c] at h;by_cases x:q=k
    ·subst x;rw[Facts.Q8] at d;exact p.apart i j b c h ((t b).2 d)
    ·by_cases z:q=j
     ·subst z;rw[r] at d;exact d
     ·rw[ne x z] at d;exact p.apart i q b y h d
theorem Yields.run {K:Spec} {a:Act} {s:Facts} {H:Value->Prop} {D:Value->Fact} {h:World} (z:ops[k]?=some o) (A:∀ k E,rel k=some E->E≠k)
  (p:∀ h w',C h->Below h.heap.size h w'->C w') (hF:s.keeps ops rel) (m:C h) (c:s.Holds h) (J:Yields P md ops C rel K k o a s H D) :
  ∃ v w',H v/\C w'/\(s.put k (rel k) (D v)).Holds w':=by
 have t:Has md ops C k s h:=⟨m,λi _=>c.all i⟩
 rcases J with ⟨_,⟨_,d,u,rfl,rfl,_⟩ | ⟨rfl,d,hg⟩ | ⟨_,rfl,rfl,E,j,F,hg⟩⟩ | ⟨_,d,rfl,rfl⟩
 ·rw[d];exact⟨u,h,rfl,m,ZC hF c⟩
 ·rw[d];have b:=hg h t
  revert b
  generalize (execOp a.eval o).run P h=r
  intro b
  cases r with
  | ok n w' =>
   cases n <;> simp only[JC] at b
   case value x=>exact⟨x,w',b.1.1,p _ _ m b.2,J8 hF c b.2 b.1.2.1 b.1.2.2⟩
   case enter f args =>
    obtain⟨e,B,I,⟨v,rfl,q,y⟩,_⟩:=b []
    exact⟨v,B,q.1,p _ _ m y,J8 hF c y q.2.1 q.2.2⟩
  | halt x w'=>simp only[JC] at b
 ·rw[j];have b:=hg h t
  revert b
  generalize (execOp a.eval o).run P h=r
  intro b
  cases r with
  | ok n w' =>
   cases n <;> simp only[QT] at b
   case skip=>exact⟨undef,w',rfl,b.1.1,Uf hF (A k E j) j c b.1.2.1 b.1.2.2.1 F b.1.2.2.2 (VB z b.2) b.2⟩
  | halt x w'=>simp only[QT] at b
 ·rw[d];exact⟨undef,h,rfl,m,ZC hF c⟩
def Sat (C:World->Prop) (F:Facts):Prop:=∃ w,C w/\F.Holds w
def fOp (P:Program) (md:Region.Mode) (ops:Array Oper) (C:World->Prop) (rel:Nat->Option Nat) (sp:Nat->Spec) (i:Nat) (K:Act->Fact->Prop) (a:Act) (F:Facts):Prop :=
 ∃ o V Ψ,ops[i]?=some o/\Yields P md ops C rel (sp i) i o a F V Ψ/\∀ v,V v->K (a.put o.dst v) (Ψ v)
def Xo (P:Program) (md:Region.Mode) (ops:Array Oper) (C:World->Prop) (rel:Nat->Option Nat) (sp:Nat->Spec) (n:Nat) (L:Array Bool->Act->Facts->Prop):Nat->Array Bool->Act->Facts->Prop
 | 0,listed,a,F=>Sat C F->L listed a F
 | f+1,listed,a,F=>Sat C F->Region.ready md ops listed≠[] /\
   ∀ i∈Region.ready md ops listed,i<n/\fOp P md ops C rel sp i (λa' Φ=>Xo P md ops C rel sp n L f (listed.setIfInBounds i true) a' (F.put i (rel i) Φ)) a F
theorem Z0 {d:Nat->Spec} {n:Nat} {j:Array Bool->Act->Facts->Prop} {f:Nat} {b:Array Bool} {a:Act} {h:Facts}
  (m:Sat C h->Xo P md ops C rel d n j f b a h):Xo P md ops C rel d n j f b a h:=by
 cases f with
 | zero=>exact λc=>m c c
 | succ f=>exact λc=>m c c
structure jgj (md:Region.Mode) (ops:Array Oper) (rel:Nat->Option Nat):Prop where
 ne:∀ k j,rel k=some j->j≠k
 waits:∀ k j,rel k=some j->Region.waitsFor md ops k j=true
 inj:∀ k k' j,rel k=some j->rel k'=some j->k=k'
 last:∀ k j,rel k=some j->∀ k',rel k'≠some k
theorem Kk {N:Nat->Spec} {m:Nat} {a:Act} {D:Facts} {S:Act->Fact->Prop} {F:Act->World->Prop} {O:Exit->Act->World->Prop} {p:World} (H:jgj md ops rel)
  (M:∀ m,(N m).keeps ops rel m) (z:∀ p w',C p->Below p.heap.size p w'->C w') (hF:D.keeps ops rel) (s:C p) (d:D.Holds p)
  (E:∀ a' B w',C w'->(D.put m (rel m) B).keeps ops rel->(D.put m (rel m) B).Holds w'->S a' B->F a' w') (Q:fOp P md ops C rel N m S a D):wpOp P ops O m F a p:=by
 obtain⟨o,W,V,K,I,q⟩:=Q;have A:Has md ops C m D p:=⟨s,λm _=>d.all m⟩
 have c:=λv=>Facts.Vk hF (k:=m) (r:=rel m) (.inr rfl) (I.keeps (H.last m) (M m) v)
 unfold wpOp;simp only[K]
 rcases I with ⟨j,⟨_,h,u,rfl,rfl,R⟩ | ⟨_,h,hg⟩ | ⟨_,rfl,rfl,U,y,L,hg⟩⟩ | ⟨j,h,rfl,rfl⟩
 ·simp only[j,if_true];refine .inl ?_;have b:=R p A;unfold Oper.wp
  revert b
  generalize (execOp a.eval o).run P p=r
  intro b
  cases r with
  | ok n w' =>
   cases n <;> simp only[JA] at b <;> simp only[Oper.upon]
   case value x =>
    obtain⟨rfl,rfl⟩:=b;exact E _ _ _ s (c x) (by rw[h];exact ZC hF d) (q _ rfl)
   case skip =>
    obtain⟨rfl,rfl⟩:=b
    exact E _ _ _ s (c undef) (by rw[h];exact ZC hF d) (q _ rfl)
  | halt x w'=>simp only[JA] at b
 ·simp only[j,if_true];refine .inl ?_;have b:=hg p A;unfold Oper.wp
  revert b
  generalize (execOp a.eval o).run P p=r
  intro b
  cases r with
  | ok n w' =>
   cases n <;> simp only[JC] at b <;> simp only[Oper.upon]
   case value x=>exact E _ _ _ (z _ _ s b.2) (c x) (by rw[h];exact J8 hF d b.2 b.1.2.1 b.1.2.2) (q _ b.1.1)
   case enter f args =>
    refine b.mono λe T t=>?_
    obtain⟨v,rfl,t,J⟩:=t
    exact E _ _ _ (z _ _ s J) (c v) (by rw[h];exact J8 hF d J t.2.1 t.2.2) (q _ t.1)
  | halt x w'=>simp only[JC] at b
 ·simp only[j,if_true];refine .inl ?_;have b:=hg p A;unfold Oper.wp
  revert b
  generalize (execOp a.eval o).run P p=r
  intro b
  cases r with
  | ok n w' =>
   cases n <;> simp only[QT] at b <;> simp only[Oper.upon]
   case skip=>exact E _ _ _ b.1.1 (c undef) (by rw[y];exact Uf hF (H.ne m U y) y d b.1.2.1 b.1.2.2.1 L b.1.2.2.2 (VB K b.2) b.2) (q _ rfl)
  | halt x w'=>simp only[QT] at b
 ·simp only[j,Bool.false_eq_true,if_false];exact E _ _ _ s (c undef) (by rw[h];exact ZC hF d) (q _ rfl)
theorem QR {x:Nat->Spec} {n g:Nat} {B:Array Bool->Act->Facts->Prop} {Q':Exit->Act->World->Prop} (s:jgj md ops rel)
  (j:∀ i,(x i).keeps ops rel i) (d:∀ w w',C w->Below w.heap.size w w'->C w')
  (r:∀ b a c w,C w->c.Holds w->B b a c->wpAny P md ops Q' g b a w) :
  ∀ (f:Nat) (b:Array Bool) (a:Act) (c:Facts) (w:World),c.keeps ops rel->C w->c.Holds w->Xo P md ops C rel x n B f b a c->wpAny P md ops Q' (f+g) b a w
 | 0,b,a,c,w,hF,hw,hFw,h=>by rw[Nat.zero_add];exact r _ _ _ _ hw hFw (h ⟨w,hw,hFw⟩)
 | f+1,b,a,c,w,hF,hw,hFw,h=>by
  rw[show f+1+g=(f+g)+1 by omega];have p:=h ⟨w,hw,hFw⟩;exact⟨λz=>absurd z p.1,λi A=>Kk s j d hF hw hFw (λa' D w' t q m y=>QR s j d r f _ a' _ w' q t m y) (p.2 i A).2⟩
theorem Yields.of_same {H:Spec} {b:Act} {z h:Facts} {F:Value->Prop} {y:Value->Fact} (f:Yields P md ops C rel H k o a z F y)
  (D:execOp b.eval o=execOp a.eval o) (x:Region.wanted o (yielded ops b.tmps)=Region.wanted o (yielded ops a.tmps)) (hF:∀ w,Has md ops C k h w->Has md ops C k z w) (E:∀ q,rel k=some q->h q=z q) (c:∀ I∈o.op.operands,b.eval I=a.eval I) :
  Yields P md ops C rel H k o b h F y:=by
 have t:Xx o b=Xx o a:=by
  unfold Xx;split
  ·rename_i K J v m;rw[m] at c;rw[c J (by simp[Op.operands]),c v (by simp[Op.operands])]
  ·rfl
 unfold Yields at *;rw[D,x,t]
 rcases f with ⟨p,⟨e,j,u,A,B,f⟩ | ⟨e,j,f⟩ | ⟨e,ev,r,q,s,m,f⟩⟩ | f
 ·exact .inl ⟨p,.inl ⟨e,j,u,A,B,λw d=>f w (hF w d)⟩⟩
 ·exact .inl ⟨p,.inr (.inl ⟨e,j,λw d=>f w (hF w d)⟩)⟩
 ·exact .inl ⟨p,.inr (.inr ⟨e,ev,r,q,s,by rw[E q s];exact m,λw d=>f w (hF w d)⟩)⟩
 ·exact .inr f
theorem jbg (o:Oper) (a:Act) (b:Option Tmp) (v:Value) (m:∀ c,b=some c->c ∉ o.looksAt ops):∀ j∈o.op.operands,(a.put b v).eval j=a.eval j :=
 λj h=>Act.eval_put λc f d=>m c f (by
  subst d
  exact List.mem_append_left _ (List.mem_filterMap.2 ⟨.tmp c,by simpa using h,rfl⟩))
theorem jcv {b:Array Bool} (c:HeadInv md ops n b) (j:YQ md ops k i) (m:b.getD k false=true):b.getD i false=true:=by
 induction j with
 | one j =>
  obtain⟨o,h,e,f,d,rfl⟩:=Region.waitsFor_spec j
  exact c.closed _ o h m e f d
 | more j _ ih =>
  obtain⟨o,h,e,f,d,rfl⟩:=Region.waitsFor_spec j;exact ih (c.closed _ o h m e f d)
theorem ZA {b:Array Bool} (q:HeadInv md ops n b) (t:k∈Region.ready md ops b) (s:b.getD i true=false):¬YQ md ops k i:=by
 intro p;have d:=getD_both s;obtain⟨_,r,f,c⟩:=mem_ready.1 t
 cases p with
 | one p =>
  obtain⟨o,m,e,j,h,rfl⟩:=Region.waitsFor_spec p;obtain rfl:o=r:=Option.some.inj (m.symm.trans f);have:=c e j h
  rw[d] at this;cases this
 | more p h2 =>
  obtain⟨o,m,e,j,h,rfl⟩:=Region.waitsFor_spec p;obtain rfl:o=r:=Option.some.inj (m.symm.trans f);have:=jcv q h2 (c e j h)
  rw[d] at this;cases this
theorem Has.of_put {d:Facts} {r:Option Nat} {h:Fact} (f:¬YQ md ops k i) (j:Has md ops C k (d.put i r h) w):Has md ops C k d w:=by
 refine⟨j.1,λm b=>?_⟩
 have c:m≠i:=λe=>f (e▸b)
 have:=j.2 m b;rwa [Facts.jaf d c] at this
theorem Has.to_put {d:Facts} {r:Option Nat} {h:Fact} (f:¬YQ md ops k i) (j:Has md ops C k d w):Has md ops C k (d.put i r h) w:=by
 refine⟨j.1,λm b=>?_⟩
 have c:m≠i:=λe=>f (e▸b)
 rw[Facts.jaf d c];exact j.2 m b
theorem jgk {t:Facts} {m:Nat} {r:Option Nat} {z:Fact} (J:(t.put m r z).Holds w) (s:t m=Fact.none) (K:∀ H,r=some H->H≠m/\∀ b,(t H).own b↔z.own b):t.Holds w:=by
 have own:∀ d b,(t d).own b->∃ y,(t.put m r z y).own b/\((r=some d/\y=m)\/(r≠some d/\y=d)):=λd b c=>by
  have j:d≠m:=λe=>by rw[e,s] at c;exact c
  by_cases f:r=some d
  ·exact⟨m,by rw[Facts.Q8];exact((K d f).2 b).1 c,.inl ⟨f,rfl⟩⟩
  ·exact⟨d,by rw[Facts.VZ t j f];exact c,.inr ⟨f,rfl⟩⟩
 refine⟨λd=>?_,λd b c=>?_,λd y b x c h=>?_⟩
 ·by_cases B:d=m
  ·rw[B,s];exact trivial
  ·have:=J.all d;rwa [Facts.jaf t B] at this
 ·obtain⟨y,L,_⟩:=own d b c;exact J.low y b L
 ·obtain⟨M,D,c1⟩:=own d b c;obtain⟨N,E,c2⟩:=own y b h;refine J.apart M N b (λe=>?_) D E
  have F:y≠m:=λe=>by rw[e,s] at h;exact h
  have j:d≠m:=λe=>by rw[e,s] at c;exact c
  rcases c1 with ⟨I,p⟩ | ⟨_,p⟩ <;> rcases c2 with ⟨A,q⟩ | ⟨_,q⟩
  ·rw[I] at A;exact x (Option.some.inj A)
  ·rw[p,q] at e;exact F e.symm
  ·rw[p,q] at e;exact j e
  ·rw[p,q] at e;exact x e
theorem Z4 {R:Nat->Spec} {n:Nat} {p:Oper} {aQ:Array Bool->Act->Facts->Prop} (E:jgj md ops rel) (aI:∀ i,(R i).keeps ops rel i) (af:∀ w w',C w->Below w.heap.size w w'->C w')
  (V:ops[i]?=some p) (Y:∀ (d:Nat) (o:Oper) cs b,ops[d]?=some o->o.op≠.select cs b)
  (hs:Region.sinkB md ops n=true) (hc:Region.chainB md ops n=true) (hn:n<ops.size) (ah:i<n)
  (ab:∀ c a r,aQ c a r->∀ d∈Region.ready md ops c,n<=d) {aP:Value->Prop} {S:Value->Fact} :
  ∀ (f:Nat) (c:Array Bool) (a:Act) (r:Facts),HeadInv md ops n c->r.keeps ops rel->(∀ k,c.getD k false=false->r k=Fact.none) ->
   (∀ d q,ops[d]?=some q->d≠i->c.getD d true=false->(∀ e∈q.after,Region.binds md e=true->e.on≠i)->p.apart ops q=true) ->
   i∈Region.ready md ops c->Yields P md ops C rel (R i) i p a r aP S ->
   (∀ v,aP v->Xo P md ops C rel R n aQ f (c.setIfInBounds i true) (a.put p.dst v) (r.put i (rel i) (S v)))->Xo P md ops C rel R n aQ (f+1) c a r:=by
 intro f
 induction f with
 | zero =>
  intro c a r x hF U _ A Q ax I;have m:=(mem_ready.1 A).1;obtain⟨w,hw,K⟩:=I;obtain⟨v,w',hv,aL,an⟩:=Q.run V E.ne af hF hw K;have H0:=ax v hv ⟨w',aL,an⟩;refine⟨λD=>(by rw[D] at A;cases A),λd z=>?_⟩
  have M:d<n:=by
   rcases Nat.lt_or_ge d n with D | D
   ·exact D
   ·exact absurd z (tail_waits hs hc hn x _ i rfl ah m d D)
  refine⟨M,?_⟩;by_cases h:d=i
  ·subst h;exact⟨p,aP,S,V,Q,ax⟩
  ·have:=ab _ _ _ H0 d (ready_mono z h)
   omega
 | succ f ih =>
  intro c a r x hF U L A Q ax I;have m:=(mem_ready.1 A).1;obtain⟨w,hw,K⟩:=I;obtain⟨v0,w0,aJ,aM,ao⟩:=Q.run V E.ne af hF hw K;have H0:=ax v0 aJ ⟨w0,aM,ao⟩;refine⟨λD=>(by rw[D] at A;cases A),λd z=>?_⟩
  have M:d<n:=by
   rcases Nat.lt_or_ge d n with D | D
   ·exact D
   ·exact absurd z (tail_waits hs hc hn x _ i rfl ah m d D)
  refine⟨M,?_⟩;by_cases h:d=i
  ·subst h;exact⟨p,aP,S,V,Q,ax⟩
  ·obtain⟨s,q,F,ar⟩:=mem_ready.1 z
   have au:∀ e∈q.after,Region.binds md e=true->e.on≠i:=λe he hb aD=>by
    have h1:=ar e he hb;rw[aD,getD_both m] at h1
    cases h1
   have aa:¬YQ md ops d i:=ZA x z m;have Z:¬YQ md ops i d:=ZA x A s
   have X:rel d≠some i:=λe=>aa (.one (E.waits d i e))
   have N:rel i≠some d:=λe=>Z (.one (E.waits i d e))
   have O:∀ (J:Fact) B,rel d=some B->r.put i (rel i) J B=r B:=λJ B j =>
    Facts.VZ r (λe=>X (by rw[j,e])) (λe=>h (E.inj d i B j e)) J
   have ae:∀ (J:Fact) B,rel i=some B->r.put d (rel d) J B=r B:=λJ B j =>
    Facts.VZ r (λe=>N (by rw[j,e])) (λe=>h (E.inj d i B e j)) J
   have aB:=L d q F h s au;obtain⟨p1,p2,p3⟩:=Oper.apart_spec aB
   have back:∀ (v:Value) {V':Value->Prop} {ak:Value->Fact},Yields P md ops C rel (R d) d q (a.put p.dst v) (r.put i (rel i) (S v)) V' ak->Yields P md ops C rel (R d) d q a r V' ak:=λv _ _ D =>
    D.of_same (execOp_put q (Y d q · · F) a p.dst v p1).symm (wanted_put q a p.dst v p1).symm (λ_ D=>D.to_put aa) (λB j=>(O _ B j).symm) (λaU hx=>(jbg q a p.dst v p1 aU hx).symm)
   obtain⟨t,Vj,am,av,aA,_⟩:=(H0.2 d (ready_mono z h)).2;obtain rfl:t=q:=Option.some.inj (av.symm.trans F);have y:=back v0 aA;refine⟨t,Vj,am,F,y,λH aK=>?_⟩
   have aR:(c.setIfInBounds d true).getD i true=false:=by rw[getD_set_ne true h];exact m
   refine ih (c.setIfInBounds d true) (a.put t.dst H) (r.put d (rel d) (am H)) (x.set z M) (Facts.Vk hF (.inr rfl) (y.keeps (E.last d) (aI d) H)) (λk W=>?_) (λk ok W aF m aH=>?_) (ready_mono A (Ne.symm h))
    (Q.of_same (execOp_put p (Y i p · · V) a t.dst H p3) (wanted_put p a t.dst H p3) (λ_ D=>D.of_put Z) (λB j=>ae _ B j) (jbg p a t.dst H p3)) (λv hv=>Z0 λac=>?_)
   ·have aj:k≠d:=λe=>by
     subst e
     have aG:k<c.size:=by
      rcases Nat.lt_or_ge k c.size with h' | h'
      ·exact h'
      ·simp[Array.getElem?_eq_none h'] at s
     simp[aG] at W
    rw[getD_set_ne false (Ne.symm aj)] at W;have h0:=U k W;unfold Facts.put;rw[if_neg aj];split
    ·rw[h0];rfl
    ·exact h0
   ·refine L k ok W aF ?_ aH;by_cases ai:d=k
    ·subst ai;exact s
    ·rw[getD_set_ne true ai] at m;exact m
   ·obtain⟨w2,aN,ag⟩:=ac;have aE:r d=Fact.none:=U d (getD_both s)
    have ad:Sat C (r.put i (rel i) (S v)):=by
     refine⟨w2,aN,?_⟩;rw[Facts.put_comm r (Ne.symm h) X N] at ag
     refine jgk ag ?_ λB j=>⟨E.ne d B j,λb=>?_⟩
     ·rw[Facts.VZ r h N];exact aE
     ·rw[O _ B j]
      rcases y with ⟨_,⟨_,T,_⟩ | ⟨_,T,_⟩ | ⟨_,ev,ay,d',aC,ho,_⟩⟩ | ⟨_,T,_⟩
      ·rw[T] at j;cases j
      ·rw[T] at j;cases j
      ·rw[aC] at j;obtain rfl:=Option.some.inj j;rw[ay];exact ho b
      ·rw[T] at j;cases j
    obtain⟨aO,aT,aS,aw,aq,az⟩:=((ax v hv ad).2 d (ready_mono z h)).2;obtain rfl:aO=t:=Option.some.inj (aw.symm.trans F);obtain⟨rfl,rfl⟩:=(back v aq).uniq ⟨hw,λk _=>K.all k⟩ y;have h3:=az H aK;rw[Array.setIfInBounds_comm _ _ h,Facts.put_comm r (Ne.symm h) X N,<- Act.put_comm a v H p2];exact h3
def wpF (P:Program) (md:Region.Mode) (ops:Array Oper) (C:World->Prop) (rel:Nat->Option Nat) (sp:Nat->Spec) (Q:Act->Facts->Prop):List Oper->Nat->Act->Facts->Prop
 | [],_,a,F=>Q a F
 | o :: rest,k,a,F=>∃ V Ψ,Yields P md ops C rel (sp k) k o a F V Ψ/\∀ v,V v->wpF P md ops C rel sp Q rest (k+1) (a.put o.dst v) (F.put k (rel k) (Ψ v))
theorem XV {y:Nat->Spec} {n g:Nat} {z:Act->Facts->Prop} (x:jgj md ops rel) (f:∀ i,(y i).keeps ops rel i) (p:∀ w w',C w->Below w.heap.size w w'->C w')
  (d:Region.noSelect ops=true) (J:Region.sinkB md ops n=true) (F:Region.chainB md ops n=true) (I:n<ops.size) :
  ∀ (l:List Oper) (k:Nat) (b:Array Bool) (a:Act) (t:Facts),(∀ j,j<l.length->l[j]?=ops[k+j]?)->k+l.length=n->HeadInv md ops n b->t.keeps ops rel->(∀ k,b.getD k false=false->t k=Fact.none) ->
  Region.lexHead md ops g l.length k b=true->wpF P md ops C rel y z l k a t ->
  Xo P md ops C rel y n (λc a' K=>Region.seqB md ops g n c=true/\z a' K) l.length b a t
 | [],k,b,a,t,_,hk,_,_,_,hB,h=>by
  have:k=n:=by simpa using hk
  subst this
  exact λ_=>⟨by simpa[Region.lexHead] using hB,h⟩
 | o :: l,k,b,a,t,hl,hk,inv,hF,hFt,hB,h=>by
  have A:ops[k]?=some o:=by simpa using (hl 0 (by simp)).symm
  simp only[List.length_cons,Region.lexHead,Bool.and_eq_true] at hB;obtain⟨⟨O,N⟩,D⟩:=hB
  have r:k<n:=by simp only[List.length_cons] at hk;omega
  have s:k∈Region.ready md ops b:=by simpa using O
  obtain⟨S,R,E,L⟩:=h
  refine Z4 x f p A (Region.noSelect_spec d) J F I r (λc a' _ M=>seqB_ready M.1) l.length b a t inv hF hFt (Region.free_spec A N) s E λv Q=>?_
  refine XV x f p d J F I l (k+1) _ _ _ (λj m=>by have:=hl (j+1) (by simp;omega);simpa[Nat.add_assoc,Nat.add_comm 1 j] using this) (by simp only[List.length_cons] at hk;omega) (inv.set s r)
   (Facts.Vk hF (.inr rfl) (E.keeps (x.last k) (f k) v)) (λj m=>?_) D (L v Q)
  have q:j≠k:=λe=>by
   subst e
   have H:j<b.size:=by rw[inv.size];omega
   simp[H] at m
  rw[getD_set_ne false (Ne.symm q)] at m;have B:=hFt j m;unfold Facts.put;rw[if_neg q];split
  ·rw[B];rfl
  ·exact B
theorem jgl (c:World):Facts.Holds (λ_=>Fact.none) c:=⟨λ_=>trivial,λ_ _ b=>False.elim b,λ_ _ _ _ b=>False.elim b⟩
def Ug:List (Nat × Nat)->Nat->Option Nat
 | [],_=>none
 | (k,j) :: l,i=>if i=k then some j else Ug l i
theorem ZE:∀ {l:List (Nat × Nat)} {k b:Nat},Ug l k=some b->(k,b)∈l
 | [],_,_,h=>by cases h
 | (k',j') :: l,k,b,h=>by
  unfold Ug at h;split at h
  ·rename_i e
   cases h
   rw[e];exact List.mem_cons_self ..
  ·exact List.mem_cons_of_mem _ (ZE h)
def relB (md:Region.Mode) (ops:Array Oper) (l:List (Nat × Nat)):Bool:=l.all λp=>p.2 != p.1&&Region.waitsFor md ops p.1 p.2&&l.all λq=>(q.2 != p.2 || q.1==p.1)&&q.2 != p.1
theorem relOk_of {h:List (Nat × Nat)} (f:relB md ops h=true):jgj md ops (Ug h):=by
 unfold relB at f;rw[List.all_eq_true] at f
 have key:=λk b (e:Ug h k=some b)=>f (k,b) (ZE e)
 refine⟨λk b e=>?_,λk b e=>?_,λk d b e c=>?_,λk b e d c=>?_⟩
 ·have:=key k b e;simp only[Bool.and_eq_true,bne_iff_ne] at this;exact this.1.1
 ·have:=key k b e;simp only[Bool.and_eq_true,bne_iff_ne] at this;exact this.1.2
 ·have:=key k b e;simp only[Bool.and_eq_true,List.all_eq_true] at this;have:=(this.2 (d,b) (ZE c)).1;simp only[bne_self_eq_false,Bool.false_or,beq_iff_eq] at this;exact this.symm
 ·have:=key k b e;simp only[Bool.and_eq_true,List.all_eq_true] at this;have:=(this.2 (d,k) (ZE c)).2;simp at this
theorem Jd {id:Nat} {L:Exit->Act->World->Prop} {a:Act} {t:World} {b:List Oper} (n:Nat) (s:List (Nat × Nat)) (K:Nat->Spec) (m:World->Prop) (N:P.follows .mixedOrders=true) (x:Region.lexTailB .any b.toArray n=true) (D:relB .any b.toArray s=true)
  (j:∀ i,(K i).keeps b.toArray (Ug s) i) (f:∀ t w',m t->Below t.heap.size t w'->m w') (y:m { t with drawn:=t.drawn+1 })
  (V:wpF P .any b.toArray m (Ug s) K (λa' S=>∀ w',m w'->S.Holds w'->wpList P b.toArray L (b.drop n) a' w') (b.take n) 0 a (λ_=>Fact.none)):(Code.region id b.toArray true).wp P L a t:=by
 have B:=relOk_of D;simp only[Region.lexTailB,Bool.and_eq_true,decide_eq_true_eq] at x;obtain⟨⟨⟨⟨q,I⟩,O⟩,M⟩,p⟩:=x
 have T:n<b.length:=by simpa using I
 have c:(b.take n).length=n:=by simp;omega
 have h:(b.drop n).length=b.toArray.size-n:=by simp
 have r:HeadInv .any b.toArray n (Array.replicate b.toArray.size false) :=
  ⟨by simp,λR W _ H=>(by rw[getD_replicate_false] at H;cases H),λX _ Q=>getD_in (by simpa using Q) (getD_replicate_false _ _)⟩
 have U:=XV (P:=P) (md:=.any) (C:=m) (g:=b.toArray.size-n) B j f q O M I (b.take n) 0 _ a (λ_=>Fact.none) (λR E=>by
  have F:R<n:=by rw[c] at E;exact E
  simp[F]) (by simpa using c) r (λi=>Fact.ZB _ _ i) (λ_ _=>rfl) (by rw[c];exact p) V
 refine wp_region_any N ?_
 have:=QR (Q':=L) (g:=b.toArray.size-n) B j f (λd a' S w' J z A=>by
  have:=wpAny_of_seq (md:=.any) (Q':=L) (b.drop n) n d a' w' (λR=>by simp[List.getElem?_drop]) (by rw[h];exact A.1) (A.2 w' J z)
  rwa [h] at this) _ _ _ _ _ (λi=>Fact.ZB _ _ i) y (jgl _) U
 rw[c,show n+(b.toArray.size-n)=b.toArray.size by omega] at this;exact this
theorem Jn {b:Nat->Spec} {d:Act->Facts->Prop} {c:Facts} (f:d a c):wpF P md ops C rel b d [] k a c:=f
theorem Jy {b:Nat->Spec} {q:Act->Facts->Prop} {rest:List Oper} {a:Act} {d:Facts} (hg:o.guard=none) (j:b k=none) (c:rel k=none) (p:Value)
  (h:∀ w,Has md ops C k d w->JA w p ((execOp a.eval o).run P w)) (f:wpF P md ops C rel b q rest (k+1) (a.put o.dst p) (d.put k none Fact.none)):wpF P md ops C rel b q (o :: rest) k a d :=
 ⟨_,_,.inl ⟨by simp[Region.wanted,hg],.inl ⟨j,c,p,rfl,rfl,h⟩⟩,λv m=>by cases m;rw[c];exact f⟩
theorem Jc {d:Nat->Spec} {r:Act->Facts->Prop} {rest:List Oper} {a:Act} {j:Facts} (hg:o.guard=none) {h:Value->Prop} {c:Value->Fact} (q:d k=some (h,c)) (f:rel k=none)
  (p:∀ w,Has md ops C k j w->JC P w (λv w'=>h v/\(c v).fact w'/\∀ b,(c v).own b->w.heap.size<=b/\b<w'.heap.size) ((execOp a.eval o).run P w)) (m:∀ v,h v->wpF P md ops C rel d r rest (k+1) (a.put o.dst v) (j.put k none (c v))):wpF P md ops C rel d r (o :: rest) k a j :=
 ⟨h,c,.inl ⟨by simp[Region.wanted,hg],.inr (.inl ⟨q,f,p⟩)⟩,by rw[f];exact m⟩
theorem ZF {f:Nat->Spec} {B:Act->Facts->Prop} {rest:List Oper} {m:Facts} (hg:o.guard=none) (y:f k=none) (q:Nat) (h:rel k=some q) {p:TypeId} {D v:Operand} (j:o.op=.store p D v) {c d:Value} (t:a.eval D=c) (A:a.eval v=d) (s:∀ b,(m q).own b↔Ue c b)
  (x:∀ w,Has md ops C k m w->QT P w C (Ue c) (λw'=>V3 w' p c d) ((execOp a.eval o).run P w)) (r:wpF P md ops C rel f B rest (k+1) (a.put o.dst undef) (m.put k (some q) ⟨λw=>V3 w p c d,Ue c⟩)):wpF P md ops C rel f B (o :: rest) k a m:=by
 have e:Xx o a=⟨λw=>V3 w p c d,Ue c⟩:=by
  unfold Xx;rw[j];simp only[t,A]
 exact⟨_,_,.inl ⟨by simp[Region.wanted,hg],.inr (.inr ⟨y,rfl,rfl,q,h,by rw[e];exact s,by rw[e];exact x⟩)⟩,λu z=>by cases z;rw[h,e];exact r⟩
theorem Yw {b:Nat->Spec} {q:Act->Facts->Prop} {rest:List Oper} {d:Facts} (hg:Region.wanted o (yielded ops a.tmps)=true) (j:b k=none) (c:rel k=none) (p:Value)
  (h:∀ w,Has md ops C k d w->JA w p ((execOp a.eval o).run P w)) (f:wpF P md ops C rel b q rest (k+1) (a.put o.dst p) (d.put k none Fact.none)):wpF P md ops C rel b q (o :: rest) k a d :=
 ⟨_,_,.inl ⟨hg,.inl ⟨j,c,p,rfl,rfl,h⟩⟩,λv m=>by cases m;rw[c];exact f⟩
theorem QZ {c:Nat->Spec} {j:Act->Facts->Prop} {rest:List Oper} {h:Facts} (hg:Region.wanted o (yielded ops a.tmps)=false) (b:rel k=none)
  (d:wpF P md ops C rel c j rest (k+1) (a.put o.dst undef) (h.put k none Fact.none)):wpF P md ops C rel c j (o :: rest) k a h :=
 ⟨_,_,.inr ⟨hg,b,rfl,rfl⟩,λv f=>by cases f;rw[b];exact d⟩
theorem JJ {d:Nat->Spec} {r:Act->Facts->Prop} {rest:List Oper} {j:Facts} (hg:Region.wanted o (yielded ops a.tmps)=true) {h:Value->Prop} {c:Value->Fact} (q:d k=some (h,c)) (f:rel k=none)
  (p:∀ w,Has md ops C k j w->JC P w (λv w'=>h v/\(c v).fact w'/\∀ b,(c v).own b->w.heap.size<=b/\b<w'.heap.size) ((execOp a.eval o).run P w)) (m:∀ v,h v->wpF P md ops C rel d r rest (k+1) (a.put o.dst v) (j.put k none (c v))):wpF P md ops C rel d r (o :: rest) k a j :=
 ⟨h,c,.inl ⟨hg,.inr (.inl ⟨q,f,p⟩)⟩,by rw[f];exact m⟩
theorem rdw {b:Nat->Spec} {p:Act->Facts->Prop} {m:Facts} (h:∀ w,C w->JA w u ((execOp a.eval o).run P w)) (d:wpF P md ops C rel b p rest (k+1) a' (m.put k none Fact.none)) (hg:o.guard=none:=by rfl) (j:b k=none:=by rfl) (c:rel k=none:=by rfl) (f:a.put o.dst u=a':=by simp only[Act.put,List.setIfInBounds_toArray,List.set_cons_succ,List.set_cons_zero];exact rfl):wpF P md ops C rel b p (o :: rest) k a m:=Jy hg j c u (λw q=>h w q.1) (f ▸ d)
theorem rdg {b:Nat->Spec} {p:Act->Facts->Prop} {m:Facts} (h:∀ w,C w->JA w u ((execOp a.eval o).run P w)) (d:wpF P md ops C rel b p rest (k+1) a' (m.put k none Fact.none)) (hg:Region.wanted o (yielded ops a.tmps)=true:=by rfl) (j:b k=none:=by rfl) (c:rel k=none:=by rfl) (f:a.put o.dst u=a':=by simp only[Act.put,List.setIfInBounds_toArray,List.set_cons_succ,List.set_cons_zero];exact rfl):wpF P md ops C rel b p (o :: rest) k a m:=Yw hg j c u (λw q=>h w q.1) (f ▸ d)
theorem rd0 {b:Nat->Spec} {p:Act->Facts->Prop} {m:Facts} (d:wpF P md ops C rel b p rest (k+1) a' (m.put k none Fact.none)) (h:∀ w,C w->JA w u ((execOp a.eval o).run P w):=by intro w _;go_simp;try rfl) (hg:o.guard=none:=by rfl) (j:b k=none:=by rfl) (c:rel k=none:=by rfl) (f:a.put o.dst u=a':=by simp only[Act.put,List.setIfInBounds_toArray,List.set_cons_succ,List.set_cons_zero];exact rfl):wpF P md ops C rel b p (o :: rest) k a m:=rdw h d hg j c f
theorem rdz {b:Nat->Spec} {p:Act->Facts->Prop} {m:Facts} (d:wpF P md ops C rel b p rest (k+1) a' (m.put k none Fact.none)) (h:∀ w,C w->JA w u ((execOp a.eval o).run P w):=by intro w _;go_simp;try rfl) (hg:Region.wanted o (yielded ops a.tmps)=true:=by rfl) (j:b k=none:=by rfl) (c:rel k=none:=by rfl) (f:a.put o.dst u=a':=by simp only[Act.put,List.setIfInBounds_toArray,List.set_cons_succ,List.set_cons_zero];exact rfl):wpF P md ops C rel b p (o :: rest) k a m:=rdg h d hg j c f
theorem Has.world {b:Facts} (c:Has md ops C k b w):C w:=c.1
theorem Has.fact {d:Facts} (f:Has md ops C k d w) (c:Nat) (b:Region.waitsFor md ops k c=true):(d c).fact w:=f.2 c (.one b)
theorem Has.jdz {f:Facts} (j:Has md ops C k f w) (h d:Nat) (c:Region.waitsFor md ops k h=true) (b:Region.waitsFor md ops h d=true):(f d).fact w:=j.2 d (.more c (.one b))
theorem Jm {c:Value->World->Prop} {r:Result Next} (b:Value->World->Prop) (d:JC P w b r) (k:∀ v w',b v w'->c v w'):JC P w c r:=by
 cases r with
 | ok n w' =>
  cases n <;> simp only[JC] at d ⊢
  case value x=>exact⟨k _ _ d.1,d.2⟩
  case enter f args=>exact d.mono λe p ⟨v,j,m,h⟩=>⟨v,j,k _ _ m,h⟩
 | halt x w'=>simp only[JC] at d
theorem ZG {c:World} {own:Nat->Prop} {d:World->Prop} {r:Result Next} (f:r=.ok .skip c) (k:(C c/\Shaped w c/\c.heap.size=w.heap.size/\∀ b,¬own b->c.heap[b]?=w.heap[b]?)/\d c):QT P w C own d r:=by
 rw[f];exact k
abbrev Sp:=(Value->Prop) × (Value->Fact)
def Sp.keeps (ops:Array Oper) (rel:Nat->Option Nat) (k:Nat) (s:Sp):Prop:=∀ v,(s.2 v).Good ops rel k
def Sp.know (u:Value):Sp:=(λv=>v=u,λ_=>Fact.none)
def Sp.made {α:Type} (val:α->Value) (Φ:α->World->Prop) (own:α->Nat->Prop):Sp:=(λv=>∃ x,v=val x,λv=>⟨λw=>∃ x,v=val x/\Φ x w,λb=>∃ x,v=val x/\own x b⟩)
def Shp (w:World) (g:Nat) (T:TypeId) (n:Nat):Prop:=∃ c,w.heap[g]?=some (.cells c T (0,0))/\c.size=n
def Sp.box (T:TypeId) (n lo:Nat):Sp:=(λv=>∃ g:Nat,v=.pointer (some ⟨g,0,none⟩),λv=>⟨λw=>∃ g:Nat,v=.pointer (some ⟨g,0,none⟩)/\Shp w g T n/\lo<=g,Ue v⟩)
def PK (u:Value) (v:Value) (_:World):Prop:=v=u
theorem PK.post {d:Nat->Prop} (c:PK u v w):(Sp.know u).1 v/\((Sp.know u).2 v).fact w/\∀ b,((Sp.know u).2 v).own b->d b:=⟨c,trivial,λ_ c=>False.elim c⟩
def PM {α:Type} (val:α->Value) (Φ:α->World->Prop) (own:α->Nat->Prop) (n:Nat) (v:Value) (w:World):Prop:=∃ x,v=val x/\Φ x w/\∀ b,own x b->n<=b/\b<w.heap.size
theorem PM.post {f:Type} {c:f->Value} {d:f->World->Prop} {own:f->Nat->Prop} (q:∀ h r,c h=c r->h=r) (s:PM c d own n v w):(Sp.made c d own).1 v/\((Sp.made c d own).2 v).fact w/\∀ b,((Sp.made c d own).2 v).own b->n<=b/\b<w.heap.size:=by
 obtain⟨h,rfl,j,m⟩:=s;exact⟨⟨h,rfl⟩,⟨h,rfl,j⟩,λb ⟨r,e,p⟩=>m b (by rw[q _ _ e];exact p)⟩
def PB (T:TypeId) (n lo m:Nat) (v:Value) (w:World):Prop:=∃ g:Nat,v=.pointer (some ⟨g,0,none⟩)/\Shp w g T n/\lo<=g/\m<=g/\g<w.heap.size
theorem PB.post {c:TypeId} {m:Nat} (p:PB c n lo m v w):(Sp.box c n lo).1 v/\((Sp.box c n lo).2 v).fact w/\∀ b,((Sp.box c n lo).2 v).own b->m<=b/\b<w.heap.size:=by
 obtain⟨g,rfl,d,f,h,j⟩:=p;exact⟨⟨g,rfl⟩,⟨g,rfl,d,f⟩,λb (e:Value.pointer (some ⟨g,0,none⟩)=.pointer (some ⟨b,0,none⟩))=>by cases e;exact⟨h,j⟩⟩
theorem PB.new {d:TypeId} (b:Array Value) (c:b.size=n) (f:lo<=w.heap.size):PB d n lo w.heap.size (.pointer (some ⟨w.heap.size,0,none⟩)) (w.alloc (.cells b d)) :=
 ⟨_,rfl,⟨b,by show(w.heap.push _)[w.heap.size]?=_;simp,c⟩,f,zj,by rw[World.size_alloc];omega⟩
theorem JQ {b:Type} {val:b->Value} {Φ:b->World->Prop} {d:b} (h:∀ d c,val d=val c->d=c) (f:∃ c,val d=val c/\Φ c w):Φ d w:=by
 obtain⟨c,e,f⟩:=f;rw[h _ _ e];exact f
theorem Yd {d:TypeId} {c:Nat} (b:∃ g:Nat,Value.pointer (some ⟨c,0,none⟩)=.pointer (some ⟨g,0,none⟩)/\Shp w g d n/\lo<=g):Shp w c d n/\lo<=c:=by
 obtain⟨g,e,b⟩:=b
 cases e
 exact b
theorem Sp.Jk (k:Nat) (b:Value):(Sp.know b).keeps ops rel k:=λ_=>Fact.ZB _ _ _
theorem Sp.Jf (k:Nat) {h:Type} {j:h->Value} {f:h->World->Prop} {own:h->Nat->Prop} (t:∀ d w w',f d w->Shaped w w'->(∀ b,own d b->w'.heap[b]?=w.heap[b]?)->f d w') (q:∀ c,rel c≠some k):(Sp.made j f own).keeps ops rel k :=
 λ_=>⟨λw w' ⟨d,e,s⟩ r p _=>⟨d,e,t d w w' s r λb m=>p b ⟨d,e,m⟩⟩,λc e=>absurd e (q c)⟩
theorem Sp.Qf (k:Nat) (row:TypeId->Bool) {j:Type} {x:j->Value} {h:j->World->Prop} {own:j->Nat->Prop} (L:∀ y w w',h y w->(∀ (b:Nat) (A:Array Value) (d:TypeId),w.heap[b]?=some (.cells A d (0,0))->row d=true->w'.heap[b]?=w.heap[b]?)->h y w')
  (t:(ops.all λo=>match o.op with | .store d _ _=>!row d | _=>true)=true) (H:∀ c,rel c≠some k):(Sp.made x h own).keeps ops rel k :=
 λ_=>⟨λw w' ⟨y,e,J⟩ I _ F=>⟨y,e,L y w w' J λb A d q E=>(F b (Array.getElem?_eq_some_iff.1 q).1).elim id λ⟨K,z,B,c,o,M,v,r,s⟩=>by
   obtain⟨c2,m,_⟩:=I.shape b A d q;rw[B] at m
   have p:z=d:=by
    have D:=Option.some.inj m;injection D
   subst p;have f:=Array.all_eq_true.1 t c (Array.getElem?_eq_some_iff.1 r).1;rw[(Array.getElem?_eq_some_iff.1 r).2] at f;rw[s] at f
   simp[E] at f⟩,λc e=>absurd e (H c)⟩
theorem Sp.XQ (k:Nat) (h:TypeId) (n c:Nat):(Sp.box h n c).keeps ops rel k:=by
 have key:∀ v w w',((Sp.box h n c).2 v).fact w->Shaped w w'->((Sp.box h n c).2 v).fact w':=λv w w' ⟨g,e,⟨s,p,r⟩,q⟩ b=>by
  obtain⟨j,d,f⟩:=b.shape g s h p;exact⟨g,e,⟨j,d,f.trans r⟩,q⟩
 exact λv=>⟨λw w' m b _ _=>key v w w' m b,λ_ _ w w' m b=>key v w w' m b⟩
theorem JG {d:List (Nat × Nat)} (c:(d.all λf=>f.2 != k)=true):∀ b,Ug d b≠some k:=λb e=>by
 rw[List.all_eq_true] at c;have:=c (b,k) (ZE e);simp at this
def JI:List (Nat × Sp)->Nat->Spec
 | [],_=>none
 | (k,s) :: l,i=>if i=k then some s else JI l i
theorem Jh:∀ i,(JI [] i).keeps ops rel i:=λ_=>trivial
theorem Jb {h:Sp} {f:List (Nat × Sp)} (d:h.keeps ops rel k) (c:∀ i,(JI f i).keeps ops rel i):∀ i,(JI ((k,h) :: f) i).keeps ops rel i:=by
 intro i;unfold JI;by_cases b:i=k
 ·rw[if_pos b];subst b;exact d
 ·rw[if_neg b];exact c i
end Go.FS
namespace Go.Proofs.YthacfgmdihcffaaGreatDoor
open Go.RowKit in
abbrev Cl:=Calls prog
namespace LawPost
open Go.ChangeShapes Go.WideShapes Go.ChangeAt Go.RowKit
variable {W W' w:World} {base fuel n:Nat}
variable {H:Type} {enc:TypeId × Value->H} {P:Program}
theorem Ye (q:laidOutB P=true) (p:Bl W W'):∀ (c:List TypeId) (j:List Value) (f:List (DataW H)) (ps:List MemPlace),
  c.all (λx=>P.readableRec x&&decide (x<P.types.size))=true->DataW.TrodAll enc P W 0 (λ_=>true) true c j f ps->(∀ r∈ps,r.block<W.heap.size) ->
  DataW.TrodAll enc P W' 0 (λb=>decide (b<W.heap.size)) true c j f ps
 | [],[],[],ps,_,h,_=>h
 | x :: c,v :: j,d :: f,ps,hr,h,hlt=>by
  obtain⟨z,y,s,t,rfl⟩:=h;simp only[List.all_cons,Bool.and_eq_true,decide_eq_true_eq] at hr
  exact⟨z,y,Below.trod q hr.1.1 hr.1.2 s p (λr m=>hlt r (List.mem_append_left _ m)),Ye q p c j f y hr.2 t (λr m=>hlt r (List.mem_append_right _ m)),rfl⟩
 | [],[],_ :: _,_,_,h,_=>h.elim
 | [],_ :: _,_,_,_,h,_=>by simp[DataW.TrodAll] at h
 | _ :: _,[],_,_,_,h,_=>by simp[DataW.TrodAll] at h
 | _ :: _,_ :: _,[],_,_,h,_=>by simp[DataW.TrodAll] at h
theorem law_post {f:Func} {B:ChangeSpec} {D p:World} {b:Array Value} {d:List (DataW H)} {c:List MemPlace} {A:TypeId} (E:laidOutB P=true)
  (I:f.params.toList.all (λM=>P.readableRec M&&decide (M<P.types.size))=true) (y:f.resultTypes=#[A]) (z:P.underlying A=some .bool)
  (r:DataW.Whole enc P f.params.toList B.vars false D b.toList d [] c) (m:B.vars=[])
  (j:B.fn H (d++[]) = { results:=[.lit (.bool true)],args:=d,vars:=[] }) (s:Bl D p) :
  B.post enc P f false true false false D b (.bool true) p:=by
 have t:=r.lt;obtain⟨L,Q,q,h,x,K,F⟩:=r;rw[m] at h;obtain⟨_,rfl⟩:=trodVars_none h;subst x;refine⟨d,[],_,[],L,[],⟨L,[],q,by rw[m];exact h,rfl,K,F⟩,?_,?_,?_,s.frame _,λN=>by cases N⟩
 ·rw[j,y];exact trodAll_mk1 (shut_bool z _)
 ·rw[j];exact Ye E s _ _ _ _ I q (λO J=>t O (by simpa using J))
 ·rw[j,m];rfl
theorem mapM_each {d h:Type} (f:d->Option h):∀ (l:List d) (c:List h),l.mapM f=some c->∀ a∈l,∃ p,f a=some p:=by
 intro l
 induction l with
 | nil=>intro c _ a b;cases b
 | cons x l ih =>
  intro c r a b;simp only[List.mapM_cons,Option.bind_eq_bind,Option.bind_eq_some_iff] at r;obtain⟨p,j,q,m,_⟩:=r
  rcases List.mem_cons.1 b with rfl | b
  ·exact⟨p,j⟩
  ·exact ih q m a b
theorem je4 {s:World} {base:Nat} {d:Nat->Bool} {held:Bool} {m e:TypeId} {b:Nat} {f:List Value} {t:DataW H × List MemPlace} (q:P.underlying m=some (.array n e))
  (h:DataW.trod enc P s base d held b m f=some t):f.length=P.cellsOf m/\∃ j,b=j+1/\∀ i,i<n->∃ x,DataW.trod enc P s base d held j e ((f.drop (i*P.cellsOf e)).take (P.cellsOf e))=some x:=by
 cases b with
 | zero=>simp[DataW.trod] at h
 | succ j =>
  unfold DataW.trod at h;rw[q] at h;dsimp only at h;by_cases c:f.length=P.cellsOf m
  ·rw[if_pos c] at h;obtain⟨y,r,_⟩:=Option.map_eq_some_iff.1 h;exact⟨c,j,rfl,λi p=>mapM_each _ _ _ r i (List.mem_range.2 p)⟩
  ·rw[if_neg c] at h;cases h
theorem jjd {B:World} {base:Nat} {c:Nat->Bool} {held:Bool} {z e:TypeId} {f:Nat} {b:List Value} {D:DataW H × List MemPlace} (x:P.underlying z=some (.array n e)) (s:P.underlying e=some (.int .u16)) (m:P.cellsOf e=1)
  (A:DataW.trod enc P B base c held f z b=some D):∀ i,i<n->i<b.length->∃ a:Int,b[i]?=some (.int .u16 a)/\0<=a/\a<=65535:=by
 intro i t p;obtain⟨_,E,_,r⟩:=je4 x A;obtain⟨F,h⟩:=r i t;rw[m,Nat.mul_one] at h
 have q:(b.drop i).take 1=[b[i]]:=by rw[List.drop_eq_getElem_cons p];rfl
 rw[q] at h;obtain⟨a,j,_,y⟩:=DataW.trod_int s h;simp only[List.cons.injEq,and_true] at j;have d:=bounds_u16 y;exact⟨a,by rw[List.getElem?_eq_getElem p,j],d.1,d.2⟩
theorem four_u16 {L:World} {base:Nat} {b:Nat->Bool} {held:Bool} {I e:TypeId} {d:Nat} {c:List Value} {M:DataW H × List MemPlace} (j:P.underlying I=some (.array 4 e)) (E:P.underlying e=some (.int .u16)) (f:P.cellsOf e=1) (h:P.cellsOf I=4)
  (J:DataW.trod enc P L base b held d I c=some M):∃ a:Nat->Int,c=[.int .u16 (a 0),.int .u16 (a 1),.int .u16 (a 2),.int .u16 (a 3)]/\∀ i,i<4->0<=a i/\a i<=65535:=by
 have K:c.length=4:=(je4 j J).1.trans h;have g:=jjd j E f J;obtain⟨m,z,s⟩:=g 0 Zo Zo;obtain⟨p,A,t⟩:=g 1 Zo Zo;obtain⟨q,B,x⟩:=g 2 Zo Zo;obtain⟨r,D,y⟩:=g 3 Zo Zo;refine⟨λi=>match i with | 0=>m | 1=>p | 2=>q | _=>r,?_,?_⟩
 ·apply List.ext_getElem?;intro i
  match i with
  | 0=>exact z
  | 1=>exact A
  | 2=>exact B
  | 3=>exact D
  | n+4=>rw[List.getElem?_eq_none Zo];rfl
 ·intro i F
  match i,F with
  | 0,_=>exact s
  | 1,_=>exact t
  | 2,_=>exact x
  | 3,_=>exact y
end LawPost
namespace Limb
variable {m n:Nat} {o:Nat->Int} {s:Bool}
abbrev BN:Nat:=1000000000
def pw (n:Nat):Nat:=BN ^ n
theorem Qj:pw 0=1:=rfl
theorem JR (n:Nat):pw (n+1)=pw n*1000000000:=by show BN ^ (n+1)=BN ^ n*BN;exact Nat.pow_succ BN n
theorem Q5 (n:Nat):0<pw n:=Nat.pow_pos Ze
theorem V4 (b n:Nat):pw (b+n)=pw b*pw n:=Nat.pow_add _ _ _
theorem jd0 (b:m<=n):pw m<=pw n:=Nat.pow_le_pow_right Ze b
def dg (m i:Nat):Nat:=m/pw i%1000000000
def Ja (m:Nat):Nat:=if h:m=0 then 0 else Ja (m/1000000000)+1
termination_by m
decreasing_by omega
theorem Jw:Ja 0=0:=by unfold Ja;simp
theorem X6 (b:m≠0):Ja m=Ja (m/1000000000)+1:=by rw[Ja,dif_neg b]
theorem Yf (b:Nat):dg b 0=b%1000000000:=by unfold dg;rw[Qj,Nat.div_one]
theorem dg_succ (c b:Nat):dg c (b+1)=dg (c/1000000000) b:=by
 unfold dg;rw[JR,Nat.mul_comm,<- Nat.div_div_eq_div_mul]
theorem dg_lt (c b:Nat):dg c b<1000000000:=Nat.mod_lt _ Ze
theorem JE (b:Nat):b<pw (Ja b):=by
 induction b using Nat.strongRecOn with
 | _ b ih =>
  by_cases c:b=0
  ·subst c;rw[Jw,Qj];omega
  ·rw[X6 c,JR];have:=ih (b/1000000000) Zo;omega
theorem Xg (c:m<pw n):Ja m<=n:=by
 induction n generalizing m with
 | zero=>rw[Qj] at c;rw[show m=0 by omega,Jw];omega
 | succ n ih =>
  by_cases b:m=0
  ·subst b;rw[Jw];omega
  ·rw[X6 b];have:=ih (m:=m/1000000000) (by rw[JR] at c;omega);omega
theorem jib (c:pw n<=m):n<Ja m:=by
 rcases Nat.lt_or_ge n (Ja m) with b | b
 ·exact b
 ·have:=JE m;have:=jd0 b;omega
theorem Zl (c:n<Ja m):pw n<=m:=by
 rcases Nat.lt_or_ge m (pw n) with b | b
 ·have:=Xg b;omega
 ·exact b
theorem JP (b:m<=n):Ja m<=Ja n:=Xg (Nat.lt_of_le_of_lt b (JE n))
theorem QI:Ja m=0↔m=0:=by
 constructor
 ·intro c
  rcases Nat.eq_zero_or_pos m with b | b
  ·exact b
  ·rw[X6 Zo] at c;omega
 ·intro c;subst c;exact Jw
theorem dg_out {b:Nat} (c:Ja m<=b):dg m b=0:=by
 unfold dg;have d:=JE m;have f:=jd0 c;rw[Nat.div_eq_of_lt Zo]
theorem Uh (c:m≠0):dg m (Ja m-1)≠0:=by
 induction m using Nat.strongRecOn with
 | _ m ih =>
  rw[X6 c,Nat.add_sub_cancel];by_cases b:m/1000000000=0
  ·rw[b,Jw,Yf];omega
  ·have:=ih (m/1000000000) Zo b
   have e:Ja (m/1000000000)=(Ja (m/1000000000)-1)+1:=by
    have:=X6 b;omega
   rw[e,dg_succ];exact this
def Jj (o:Nat->Int):Nat->Int
 | 0=>0
 | n+1=>Jj o n+o n*(pw n:Int)
theorem Qb {o':Nat->Int} (b:∀ i,i<n->o i=o' i):Jj o n=Jj o' n:=by
 induction n with
 | zero=>rfl
 | succ n ih=>rw[Jj,Jj,ih λi c=>b i Zo,b n Zo]
theorem JB (c:∀ i,i<n->0<=o i/\o i<1000000000):0<=Jj o n/\Jj o n<(pw n:Int):=by
 induction n with
 | zero=>rw[Jj,Qj];omega
 | succ n ih =>
  have d:=ih λi p=>c i Zo
  obtain⟨b,f⟩:=c n Zo;rw[Jj,JR];have h:0<=o n*(pw n:Int):=Int.mul_nonneg b Zo;have j:o n*(pw n:Int)<=999999999*(pw n:Int):=Int.mul_le_mul_of_nonneg_right Zo Zo;omega
theorem Z5 (o:Nat->Int) (n:Nat):Jj o (n+1)=o 0+1000000000*Jj (λi=>o (i+1)) n:=by
 induction n with
 | zero=>show 0+o 0*((pw 0:Nat):Int)=o 0+1000000000*0;rw[Qj];omega
 | succ n ih =>
  rw[Jj,ih,Jj,JR,Int.natCast_mul,Int.mul_add]
  have:o (n+1)*((pw n:Int)*((1000000000:Nat):Int))=1000000000*(o (n+1)*(pw n:Int)):=by
   rw[<- Int.mul_assoc,Int.mul_comm];rfl
  omega
theorem QP (o:Nat->Int) (b n:Nat):Jj o (b+n)=Jj o b+(pw b:Int)*Jj (λi=>o (b+i)) n:=by
 induction n with
 | zero=>simp[Jj]
 | succ n ih =>
  rw[<- Nat.add_assoc,Jj,ih,Jj,V4,Int.natCast_mul,Int.mul_add]
  have:o (b+n)*((pw b:Int)*(pw n:Int))=(pw b:Int)*(o (b+n)*(pw n:Int)):=by
   rw[<- Int.mul_assoc,Int.mul_comm (o (b+n)),Int.mul_assoc]
  omega
theorem ZH (b:∀ i,i<n->o i=0):Jj o n=0:=by
 induction n with
 | zero=>rfl
 | succ n ih=>rw[Jj,ih λi c=>b i Zo,b n Zo];simp
theorem sumB_dg (b:Nat):∀ n,b<pw n->Jj (λi=>(dg b i:Int)) n=b:=by
 intro n
 induction n generalizing b with
 | zero=>intro c;rw[Qj] at c;rw[Jj];omega
 | succ n ih =>
  intro c;rw[Z5]
  have e:(λi=>((dg b (i+1):Nat):Int))=λi=>((dg (b/1000000000) i:Nat):Int):=by funext i;rw[dg_succ]
  rw[e,ih (b/1000000000) (by rw[JR] at c;omega),Yf];omega
theorem Zt:∀ {n:Nat},(∀ i,i<n->0<=o i/\o i<1000000000)->∀ i,i<n->(dg (Jj o n).toNat i:Int)=o i:=by
 intro n
 induction n generalizing o with
 | zero=>intro _ i b;omega
 | succ n ih =>
  intro d i b;have f:=d 0 Zo
  have h:=JB (o:=λi=>o (i+1)) (n:=n) λi b=>d (i+1) Zo
  have c:=Z5 o n
  cases i with
  | zero=>rw[Yf,c];omega
  | succ i =>
   have:=ih (o:=λi=>o (i+1)) (λi b=>d (i+1) Zo) i Zo;rw[dg_succ]
   have e:(Jj o (n+1)).toNat/1000000000=(Jj (λi=>o (i+1)) n).toNat:=by rw[c];omega
   rw[e];exact this
theorem jje (c:∀ i,i<n->0<=o i/\o i<1000000000) (f:0<n->o (n-1)≠0):Ja (Jj o n).toNat=n:=by
 have x:=JB c;have h:Ja (Jj o n).toNat<=n:=Xg Zo
 rcases Nat.eq_zero_or_pos n with b | b
 ·omega
 ·have j:n-1<Ja (Jj o n).toNat:=by
   refine jib ?_;obtain⟨k,rfl⟩:∃ k,n=k+1:=⟨n-1,Zo⟩;have p:=(JB (o:=o) (n:=k) λi y=>c i Zo).1;have q:=c k Zo;have d:=f b;simp only[Nat.add_sub_cancel] at d ⊢
   have r:(pw k:Int)<=o k*(pw k:Int):=by
    have:=Int.mul_le_mul_of_nonneg_right (show(1:Int)<=o k by omega) (show(0:Int)<=(pw k:Int) by omega);omega
   have t:Jj o (k+1)=Jj o k+o k*(pw k:Int):=rfl;omega
  omega
def okN (s:Bool) (n:Nat) (o:Nat->Int):Prop:=(∀ i,i<n->o i<1000000000)/\(n=0->s=false)/\(0<n->o (n-1)≠0)
open Classical in
noncomputable def Jp (s:Bool) (n:Nat) (o:Nat->Int):Int:=if okN s n o then (if s=true then-Jj o n else Jj o n) else 0
theorem je5 (b:¬okN s n o):Jp s n o=0:=by unfold Jp;rw[if_neg b]
theorem jag (f:okN s n o) (d:∀ i,i<n->0<=o i):(Jp s n o).natAbs=(Jj o n).toNat:=by
 have:=(JB (o:=o) (n:=n) λi b=>⟨d i b,f.1 i b⟩).1;unfold Jp;rw[if_pos f];by_cases c:s=true
 ·rw[if_pos c];omega
 ·rw[if_neg c];omega
theorem je6 (d:okN s n o) (b:∀ i,i<n->0<=o i):Ja (Jp s n o).natAbs=n:=by
 rw[jag d b];exact jje (λi c=>⟨b i c,d.1 i c⟩) d.2.2
theorem valN_dg (f:okN s n o) (d:∀ b,b<n->0<=o b) (b:Nat) (c:b<n):(dg (Jp s n o).natAbs b:Int)=o b:=by
 rw[jag f d];exact Zt (λb c=>⟨d b c,f.1 b c⟩) b c
theorem valN_neg (c:okN s n o) (b:∀ i,i<n->0<=o i):decide (Jp s n o<0)=s:=by
 have j:=(JB (o:=o) (n:=n) λi d=>⟨b i d,c.1 i d⟩).1;have f:=je6 c b;rw[jag c b] at f;have h:=c.2.1;unfold Jp;rw[if_pos c]
 cases s with
 | false=>simp;omega
 | true =>
  have p:n≠0:=λe=>by have:=h e;contradiction
  have:(Jj o n).toNat≠0:=λe=>by rw[e,Jw] at f;omega
  simp;omega
end Limb
namespace Mono
open Go.RowKit
variable {w wr:World} {B T k:Nat} {a b n:Nat->Int}
abbrev mv (a b c d:Int):Value:=.agg #[.int .u16 a,.int .u16 b,.int .u16 c,.int .u16 d]
theorem mulFn (c d:Int) (f:World) (h:0<=c) (j:c<=65535) (p:0<=d) (q:d<=65535) :
  Cl 184 #[.int .i64 c,.int .i64 d] f λe w'=>e=.returned (.int .i64 (c+d))/\w'=f:=by
 go_enter func184,ntmps184;go_wp2;go_ret;exact⟨rfl,rfl⟩
theorem jgm (c d:Int) (f:World) (h:0<=c) (j:c<=65535) (p:0<=d) (q:d<=65535) :
  Cl 182 #[.int .i64 c,.int .i64 d] f λe w'=>e=.returned (.int .i64 (c-d))/\w'=f:=by
 go_enter func182,ntmps182;go_wp2;go_ret;exact⟨rfl,rfl⟩
theorem cf_mul (c:Array Value) (d:World):(callFunc 184 c).run prog d=.ok (.enter 184 c) d:=by kernel_rfl
theorem ja0 (c:Array Value) (d:World):(callFunc 182 c).run prog d=.ok (.enter 182 c) d:=by kernel_rfl
abbrev cell (a:Nat->Int) (i:Nat):Value:=.int .u16 (a i)
abbrev mvf (a:Nat->Int):Value:=.agg #[.int .u16 (a 0),.int .u16 (a 1),.int .u16 (a 2),.int .u16 (a 3)]
def Small (a:Nat->Int):Prop:=∀ i,i<4->0<=a i/\a i<=65535
abbrev Qu (a:Nat->Int):Array Value:=#[.int .u16 (a 0),.int .u16 (a 1),.int .u16 (a 2),.int .u16 (a 3)]
theorem four (a:Nat->Int) (c:Nat) (f:c<(Qu a).size):(Qu a)[c]?=some (cell a c):=by
 have d:c<4:=f
 match c,d with
 | 0,_=>rfl
 | 1,_=>rfl
 | 2,_=>rfl
 | 3,_=>rfl
theorem jah {b:Nat} {x:TypeId} {f:Nat->Value} (z:w.rowIs b x 4 f):w.heap[b]?=some (.cells #[f 0,f 1,f 2,f 3] x (0,0)):=by
 obtain⟨y,q,t,r⟩:=z;rw[q]
 have e:y=#[f 0,f 1,f 2,f 3]:=by
  apply Array.ext
  ·simpa using t
  ·intro i h j;have c:=r i Zo;rw[Array.getElem?_eq_getElem h] at c;have p:i<4:=Zo
   have d:#[f 0,f 1,f 2,f 3][i]?=some (f i):=by
    match i,p with
    | 0,_=>rfl
    | 1,_=>rfl
    | 2,_=>rfl
    | 3,_=>rfl
   rw[Array.getElem?_eq_getElem j] at d;simp only[Option.some.injEq] at c d;rw[c,d]
 rw[e]
theorem JO {t:Program} {h:Func} {E F:Tmp} {f:TypeId} (J:h.results=#[.cell E f,.tmp F]) (c:Array Value) (r:World) (q:Nat) (I:TypeId) (d:Array Value) (j:Nat × Nat) (x:TypeDesc)
  (A:c.getD E undef=.pointer (some ⟨q,0,none⟩)) (hg:r.heap[q]?=some (.cells d I j))
  (D:t.underlying f=some x) (y:(match x with | .struct _ | .array _ _=>true | _=>false)=true) (z:(t.info? f).map (·.size)=some d.size) :
  (results h c).run t r=.ok (.tuple #[.agg d,c.getD F undef]) r:=by
 have p:c[E]?.getD undef=.pointer (some ⟨q,0,none⟩):=by simpa using A
 simp[results,J,p,asAddr,run_loadVar_row r q I f d j x hg D y z]
def Qy (_:Nat):Int:=0
def part (n:Nat->Int) (k:Nat) (j:Nat):Int:=if j<k then n j else 0
structure Rel (B T:Nat) (a b n:Nat->Int) (w wr:World) (k:Nat):Prop where
 one:wr.rowIs B T 4 (cell a)
 two:wr.rowIs (B+1) T 4 (cell b)
 out:wr.rowIs (B+1+1) T 4 (cell (part n k))
 below:Below B w wr
theorem Rel.o (c:Rel B T a b n w wr k):wr.rowIs (B+1+1) T 4 (cell (part n k)):=c.out
theorem jbh (d:World) (c:TypeId) (a b n:Nat->Int):Rel d.heap.size c a b n d
  (((d.alloc (.cells #[.int .u16 (a 0),.int .u16 (a 1),.int .u16 (a 2),.int .u16 (a 3)] c)).alloc (.cells #[.int .u16 (b 0),.int .u16 (b 1),.int .u16 (b 2),.int .u16 (b 3)] c)).alloc (.cells #[.int .u16 0,.int .u16 0,.int .u16 0,.int .u16 0] c)) 0:=by
 refine⟨((d.rowIs_alloc (Qu a) c (cell a) (four a)).alloc _).alloc _,?_,?_,?_⟩
 ·have f:=(World.rowIs_alloc (d.alloc (.cells (Qu a) c)) (Qu b) c (cell b) (four b)).alloc (.cells (Qu (part n 0)) c);rw[World.size_alloc] at f;exact f
 ·have f:=World.rowIs_alloc ((d.alloc (.cells (Qu a) c)).alloc (.cells (Qu b) c)) (Qu (part n 0)) c (cell (part n 0)) (four (part n 0));rw[World.size_alloc,World.size_alloc] at f;exact f
 ·go_grown
theorem Rel.drewN (c:Rel B T a b n w wr k) (d:Nat):Rel B T a b n w (wr.drewN d) k :=
 ⟨c.one.of_block rfl,c.two.of_block rfl,c.o.of_block rfl,below_drewN c.below d⟩
theorem Rel.step (d:Rel B T a b n w wr k):Rel B T a b n w (wr.setCell ⟨B+1+1,k,none⟩ (.int .u16 (n k))) (k+1) :=
 ⟨d.one.setOther (by simp;omega) _,d.two.setOther (by simp) _,(d.o.set k _).congr (λf _=>by
  by_cases e:f=k
  ·subst e;simp[part]
  ·simp only[if_neg e,cell,part];by_cases c:f<k
   ·rw[if_pos c,if_pos Zo]
   ·rw[if_neg c,if_neg Zo]),d.below.setCell (by simp;omega) _⟩
theorem jic (y:Nat) (a b n:Nat->Int) (f:World) (q:Small a) (j:Small b)
  (L:∀ (h:Array Value) (f:World),(callFunc y h).run prog f=.ok (.enter y h) f)
  (hF:∀ k,k<4->∀ f,Cl y #[.int .i64 (a k),.int .i64 (b k)] f λe w'=>e=.returned (.int .i64 (n k))/\w'=f)
  (x:Small n) :
  Cl 181 #[mvf a,mvf b,.func (.func y) #[] #[]] f λe w'=>e=.returned (.tuple #[mvf n,.bool true])/\Bl f w':=by
 have D:=qh hF;clear hF;have z:=qh q;clear q;have A:=qh j;clear j;have p:=qh x;clear x;have I:=jbh f 35 a b n;go_enter func181,ntmps181;go_wp2;go_loopw [10] (λi wr=>∃ k:Nat,k<=4/\i=.int .i64 k/\Rel f.heap.size 35 a b n f wr k) (λi _=>4-(intOf i).toNat)
 case atStart=>exact⟨0,Zo,rfl,I⟩
 case round =>
  obtain⟨k,X,rfl,d⟩:=hrel;by_cases c:k<4
  ·have r:=d.one.cell c;have t:=d.two.cell c;have N:=d.o.frozen k;obtain⟨vo,M⟩:∃ v,wr.cell? ⟨f.heap.size+1+1,k,none⟩=some v:=⟨_,d.o.cell c⟩;have Q:=IntWalk.i64_in (a k) (by have:=z.o k c;omega);have R:=IntWalk.i64_in (b k) (by have:=A.o k c;omega);have S:=(p.o k c).1;have U:=(p.o k c).2;go_wp2;go_quiet (exact Calls.quiet_of_same (D.o k c _));go_wp2;go_roundw
   case rel=>exact⟨k+1,Zo,by go_num,(d.drewN _).step⟩
   case measure=>simp[intOf];omega
  ·obtain rfl:k=4:=Zo;have J:=d.o.cell (i:=0) Zo;have r:=d.o.cell (i:=1) Zo;have t:=d.o.cell (i:=2) Zo;have K:=d.o.cell (i:=3) Zo
   have V:=λi=>d.o.frozen i
   have O:=d.o.lt;go_wp2;have E:=(((d.o.set 0 (.int .u16 (part n 4 0))).set 1 (.int .u16 (part n 4 1))).set 2 (.int .u16 (part n 4 2))).set 3 (.int .u16 (part n 4 3))
   have R2:=jah (E.congr (g:=cell n) (λZ F=>by
    match Z,F with
    | 0,_=>simp[part]
    | 1,_=>simp[part]
    | 2,_=>simp[part]
    | 3,_=>simp[part]))
   refine bodyPost_ret (JO rfl _ _ _ _ _ _ _ rfl R2 underlying35 rfl Zk) rfl ⟨rfl,?_⟩;have j:=d.below;have Y:=j.size;go_grown
theorem jid (J:Nat) (a b n:Nat->Int) (d:World) (A:Small a) (q:Small b)
  (Q:∀ (p:Array Value) (d:World),(callFunc J p).run prog d=.ok (.enter J p) d)
  (hF:∀ k,k<4->∀ d,Cl J #[.int .i64 (a k),.int .i64 (b k)] d λe w'=>e=.returned (.int .i64 (n k))/\w'=d)
  (j:Nat) (F:j<4) (I:∀ k,k<j->0<=n k/\n k<=65535) (h:n j<0\/65535<n j) :
  Cl 181 #[mvf a,mvf b,.func (.func J) #[] #[]] d λe w'=>e=.returned (.tuple #[mvf Qy,.bool false])/\Bl d w':=by
 have y:=qh hF;clear hF;have t:=qh A;clear A;have x:=qh q;clear q;have z:=qh I;clear I;have O:=jbh d 35 a b n;go_enter func181,ntmps181;go_wp2;go_loopw [10] (λi wr=>∃ k:Nat,k<=j/\i=.int .i64 k/\Rel d.heap.size 35 a b n d wr k) (λi _=>4-(intOf i).toNat)
 case atStart=>exact⟨0,Zo,rfl,O⟩
 case round =>
  obtain⟨k,Z,rfl,f⟩:=hrel;by_cases r:k<j
  ·have c:k<4:=Zo;have D:=f.one.cell c;have E:=f.two.cell c;have S:=f.o.frozen k;obtain⟨vo,R⟩:∃ v,wr.cell? ⟨d.heap.size+1+1,k,none⟩=some v:=⟨_,f.o.cell c⟩;have L:=IntWalk.i64_in (a k) (by have:=t.o k c;omega);have M:=IntWalk.i64_in (b k) (by have:=x.o k c;omega);have V:=(z.o k r).1;have X:=(z.o k r).2;go_wp2;go_quiet (exact Calls.quiet_of_same (y.o k c _));go_wp2;go_roundw
   case rel=>exact⟨k+1,Zo,by go_num,(f.drewN _).step⟩
   case measure=>simp[intOf];omega
  ·obtain rfl:k=j:=Zo;have c:k<4:=F;have D:=f.one.cell c;have E:=f.two.cell c;obtain⟨v0,q0⟩:∃ v,wr.cell? ⟨d.heap.size+1+1,0,none⟩=some v:=⟨_,f.o.cell Zo⟩;obtain⟨v1,q1⟩:∃ v,wr.cell? ⟨d.heap.size+1+1,1,none⟩=some v:=⟨_,f.o.cell Zo⟩;obtain⟨v2,q2⟩:∃ v,wr.cell? ⟨d.heap.size+1+1,2,none⟩=some v:=⟨_,f.o.cell Zo⟩;obtain⟨v3,q3⟩:∃ v,wr.cell? ⟨d.heap.size+1+1,3,none⟩=some v:=⟨_,f.o.cell Zo⟩
   have Y:=λi=>f.o.frozen i
   have U:=f.o.lt;have L:=IntWalk.i64_in (a k) (by have:=t.o k c;omega);have M:=IntWalk.i64_in (b k) (by have:=x.o k c;omega)
   rcases h with h | h
   all_goals
    go_wp2;go_quiet (exact Calls.quiet_of_same (y.o k c _));go_wp2;have K:=(((((f.drewN nq).o.set 0 (.int .u16 0)).set 1 (.int .u16 0)).set 2 (.int .u16 0)).set 3 (.int .u16 0))
    have R2:=jah (K.congr (g:=cell Qy) (λaa N=>by
     match aa,N with
     | 0,_=>simp[Qy]
     | 1,_=>simp[Qy]
     | 2,_=>simp[Qy]
     | 3,_=>simp[Qy]))
    refine bodyPost_ret (JO rfl _ _ _ _ _ _ _ rfl R2 underlying35 rfl Zk) rfl ⟨rfl,?_⟩;have q:=(f.drewN nq).below;have hl:=q.size;go_grown
def Yg (a b:Nat->Int):Bool:=decide (a 0+b 0<=65535/\a 1+b 1<=65535/\a 2+b 2<=65535/\a 3+b 3<=65535)
def mulM (a b:Nat->Int) (k:Nat):Int:=if Yg a b=true then a k+b k else 0
def Ui (a b:Nat->Int):Int:=if Yg a b=true then 0 else 3
def Yh (a b:Nat->Int):Bool:=decide (b 0<=a 0/\b 1<=a 1/\b 2<=a 2/\b 3<=a 3)
def Z6 (a b:Nat->Int) (k:Nat):Int:=if Yh a b=true then a k-b k else 0
def JF (a:Nat->Int):Int:=a 0+a 1+a 2+a 3
theorem Xh (h:Nat->Prop) [DecidablePred h] (n:Nat) (r:¬ ∀ k,k<n->h k):∃ c,c<n/\(∀ k,k<c->h k)/\¬h c:=by
 induction n with
 | zero=>exact absurd (λk f=>absurd f Zo) r
 | succ n ih =>
  by_cases d:∀ k,k<n->h k
  ·refine⟨n,Zo,d,λq=>r λk f=>?_⟩;by_cases e:k=n
   ·rw[e];exact q
   ·exact d k Zo
  ·obtain⟨c,t,j,p⟩:=ih d;exact⟨c,Zo,j,p⟩
theorem all4 (c:Nat->Prop):(∀ k,k<4->c k)↔c 0/\c 1/\c 2/\c 3:=by
 constructor
 ·intro d;exact⟨d 0 Zo,d 1 Zo,d 2 Zo,d 3 Zo⟩
 ·intro ⟨f,h,j,p⟩ k hk
  match k,hk with
  | 0,_=>exact f
  | 1,_=>exact h
  | 2,_=>exact j
  | 3,_=>exact p
theorem YR (a b:Nat->Int):Yg a b=true↔∀ k,k<4->a k+b k<=65535:=by rw[all4 λk=>a k+b k<=65535,Yg,decide_eq_true_iff]
theorem YS (a b:Nat->Int):Yh a b=true↔∀ k,k<4->b k<=a k:=by rw[all4 λk=>b k<=a k,Yh,decide_eq_true_iff]
theorem each_mul (a b:Nat->Int) (h:World) (d:Small a) (f:Small b) :
  Cl 181 #[mvf a,mvf b,.func (.func 184) #[] #[]] h λe w'=>e=.returned (.tuple #[mvf (mulM a b),.bool (Yg a b)])/\Bl h w':=by
 by_cases p:Yg a b=true
 ·have j:=(YR a b).1 p
  have e:mulM a b=λk=>a k+b k:=by funext k;simp[mulM,p]
  rw[p,e];exact jic _ a b (λk=>a k+b k) h d f cf_mul (λk c h=>mulFn _ _ h (d k c).1 (d k c).2 (f k c).1 (f k c).2) (λk c=>by have:=d k c;have:=f k c;have:=j k c;refine⟨?_,?_⟩ <;> dsimp only <;> omega)
 ·have j:=λx=>p ((YR a b).2 x)
  obtain⟨y,r,t,z⟩:=Xh _ _ j
  have e:mulM a b=Qy:=by funext k;simp[mulM,p,Qy]
  have q:Yg a b=false:=by simpa using p
  rw[q,e];exact jid _ a b (λk=>a k+b k) h d f cf_mul (λk c h=>mulFn _ _ h (d k c).1 (d k c).2 (f k c).1 (f k c).2) y r (λk c=>by have:=d k Zo;have:=f k Zo;have:=t k c;omega) Zo
theorem each_div (a b:Nat->Int) (h:World) (d:Small a) (f:Small b) :
  Cl 181 #[mvf a,mvf b,.func (.func 182) #[] #[]] h λe w'=>e=.returned (.tuple #[mvf (Z6 a b),.bool (Yh a b)])/\Bl h w':=by
 by_cases p:Yh a b=true
 ·have j:=(YS a b).1 p
  have e:Z6 a b=λk=>a k-b k:=by funext k;simp[Z6,p]
  rw[p,e];exact jic _ a b (λk=>a k-b k) h d f ja0 (λk c h=>jgm _ _ h (d k c).1 (d k c).2 (f k c).1 (f k c).2) (λk c=>by have:=d k c;have:=f k c;have:=j k c;refine⟨?_,?_⟩ <;> dsimp only <;> omega)
 ·have j:=λx=>p ((YS a b).2 x)
  obtain⟨y,r,t,z⟩:=Xh _ _ j
  have e:Z6 a b=Qy:=by funext k;simp[Z6,p,Qy]
  have q:Yh a b=false:=by simpa using p
  rw[q,e];exact jid _ a b (λk=>a k-b k) h d f ja0 (λk c h=>jgm _ _ h (d k c).1 (d k c).2 (f k c).1 (f k c).2) y r (λk c=>by have:=d k Zo;have:=f k Zo;have:=t k c;omega) Zo
end Mono
end Go.Proofs.YthacfgmdihcffaaGreatDoor
namespace Go.FreshH
open Go.RowKit
variable {G:World->World->Prop} {P:Program} {ops:Array Oper} {md:Region.Mode} {C:World->Prop}
theorem JJ {d:Nat->Spec} {r:Act->Facts->Prop} {o:Oper} {rest:List Oper} {k:Nat} {a:Act} {h:Facts} (hg:Region.wanted o (yielded ops a.tmps)=true) {f:Value->Prop} {c:Value->World->Prop} (q:d k=some (f,c))
  (p:∀ w,Has md ops C k h w->JC P G w (λv w'=>f v/\c v w') ((execOp a.eval o).run P w)) (j:∀ v,f v->wpF P G md ops C d r rest (k+1) (a.put o.dst v) (h.set k (c v))):wpF P G md ops C d r (o :: rest) k a h :=
 ⟨f,c,.inl ⟨hg,.inr ⟨q,p⟩⟩,j⟩
end Go.FreshH
namespace Go.Proofs.YthacfgmdihcffaaGreatDoor
namespace Limb
variable {k m n:Nat} {a b f:Nat->Int}
def Js (x y:Int):Int:=if x<y then -1 else if y<x then 1 else 0
theorem JK {x y:Int} (c:x<y):Js x y = -1:=by unfold Js;rw[if_pos c]
theorem JS {x y:Int} (c:y<x):Js x y=1:=by unfold Js;rw[if_neg Zo,if_pos c]
theorem J7 {x y:Int} (c:x=y):Js x y=0:=by unfold Js;rw[if_neg Zo,if_neg Zo]
theorem Qg {j p q v:Int} (d:j<p↔q<v) (h:p<j↔v<q):Js j p=Js q v:=by
 rcases Int.lt_trichotomy j p with c | c | c
 ·rw[JK c,JK (d.1 c)]
 ·rw[J7 c,J7 (by have r:=mt d.2 Zo;have t:=mt h.2 Zo;omega)]
 ·rw[JS c,JS (h.1 c)]
abbrev Dig (o:Nat->Int) (n:Nat):Prop:=∀ i,i<n->0<=o i/\o i<1000000000
theorem jie (q:Dig a n) (r:Dig b n) (D:k<n) (c:∀ h,k<h->h<n->a h=b h) (E:a k<b k):Jj a n<Jj b n:=by
 obtain⟨m,rfl⟩:∃ m,n=(k+1)+m:=⟨n-(k+1),Zo⟩;have j:=QP a (k+1) m;have y:=QP b (k+1) m;rw[Qb (o:=λi=>a (k+1+i)) (o':=λi=>b (k+1+i)) λi d=>c _ Zo Zo] at j
 have z:=JB (o:=a) (n:=k) λi d=>q i Zo
 have A:=JB (o:=b) (n:=k) λi d=>r i Zo
 have t:Jj a (k+1)=Jj a k+a k*(pw k:Int):=rfl;have x:Jj b (k+1)=Jj b k+b k*(pw k:Int):=rfl;have p:(a k+1)*(pw k:Int)<=b k*(pw k:Int):=Int.mul_le_mul_of_nonneg_right Zo Zo;rw[Int.add_mul] at p;omega
def jif (a b:Nat->Int) (n k:Nat):Prop:=k<=n/\(∀ j,k<=j->j<n->a j=b j)/\(0<k->a (k-1)≠b (k-1))
theorem VC (a b:Nat->Int) (n:Nat):∃ k,jif a b n k:=by
 induction n with
 | zero=>exact⟨0,Zo,λh _ d=>Zo,λd=>Zo⟩
 | succ n ih =>
  by_cases d:a n=b n
  ·obtain⟨k,r,j,p⟩:=ih
   exact⟨k,Zo,λh c q=>by
    by_cases e:h=n
    ·rw[e];exact d
    ·exact j h c Zo,p⟩
  ·exact⟨n+1,Zo,λh c q=>Zo,λ_=>d⟩
theorem VD (j:Dig a n) (p:Dig b n) (A:jif a b n k):Js (Jj a n) (Jj b n)=if k=0 then 0 else Js (a (k-1)) (b (k-1)):=by
 obtain⟨D,d,r⟩:=A;by_cases q:k=0
 ·rw[if_pos q,Qb (o:=a) (o':=b) λi x=>d i Zo x];exact J7 rfl
 ·rw[if_neg q];have t:=r Zo
  rcases Int.lt_or_gt_of_ne t with c | c
  ·rw[JK c,JK (jie j p (show k-1<n by omega) (λz y h=>d z Zo h) c)]
  ·rw[JS c,JS (jie p j (show k-1<n by omega) (λz y h=>(d z Zo h).symm) c)]
abbrev dgi (m:Nat) (i:Nat):Int:=(dg m i:Int)
theorem Jr (c n:Nat):Dig (dgi c) n:=λi _=>⟨by show(0:Int)<=(dg c i:Int);omega,by have:=dg_lt c i;show((dg c i:Nat):Int)<_;omega⟩
theorem Jz (c:Nat):Jj (dgi c) (Ja c)=c:=sumB_dg c _ (JE c)
theorem Y5 (c:Ja m<Ja n):m<n:=by
 have d:=JE m;have h:=Zl (m:=n) (n:=Ja m) c;omega
def cS (f:Nat->Int):Nat->Int
 | 0=>0
 | i+1=>(f i+cS f i)/1000000000
def cD (f:Nat->Int) (i:Nat):Int:=(f i+cS f i)%1000000000
theorem QM (f:Nat->Int) (n:Nat):Dig (cD f) n:=λi _=>by unfold cD;omega
theorem cS_sum (f:Nat->Int) (n:Nat):Jj (cD f) n+cS f n*(pw n:Int)=Jj f n:=by
 induction n with
 | zero=>show 0+0*((pw 0:Nat):Int)=0;omega
 | succ n ih =>
  rw[Jj,Jj,<- ih,cS,JR,Int.natCast_mul]
  have e:f n+cS f n=(f n+cS f n)/1000000000*1000000000+cD f n:=by unfold cD;omega
  have c:(f n+cS f n)*(pw n:Int)=((f n+cS f n)/1000000000*1000000000+cD f n)*(pw n:Int):=by rw[<- e]
  rw[Int.add_mul,Int.add_mul] at c
  have d:(f n+cS f n)/1000000000*((pw n:Int)*((1000000000:Nat):Int))=(f n+cS f n)/1000000000*1000000000*(pw n:Int):=by
   rw[Int.mul_comm (pw n:Int),<- Int.mul_assoc];rfl
  omega
theorem cS_bd {lo hi:Int} (d:lo<=0) (c:0<=hi) (h:∀ i,i<n->lo*999999999<=f i/\f i<=hi*999999999):lo<=cS f n/\cS f n<=hi:=by
 induction n with
 | zero=>exact⟨d,c⟩
 | succ n ih =>
  have j:=ih λi hi=>h i Zo
  have p:=h n Zo;rw[cS];omega
theorem Yi (j:0<=Jj f n) (p:Jj f n<(pw n:Int)):cS f n=0/\Jj (cD f) n=Jj f n:=by
 have h:=cS_sum f n;have q:=JB (QM f n)
 have r:(0:Int)<(pw n:Int):=by have:=Q5 n;omega
 have c:cS f n=0:=by
  rcases Int.lt_trichotomy (cS f n) 0 with d | d | d
  ·have:cS f n*(pw n:Int)<=-1*(pw n:Int):=Int.mul_le_mul_of_nonneg_right Zo Zo;omega
  ·exact d
  ·have:1*(pw n:Int)<=cS f n*(pw n:Int):=Int.mul_le_mul_of_nonneg_right Zo Zo;omega
 rw[c] at h;exact⟨c,Zo⟩
theorem ZI (f c:Nat->Int) (n:Nat):Jj (λi=>f i+c i) n=Jj f n+Jj c n:=by
 induction n with
 | zero=>rfl
 | succ n ih=>rw[Jj,Jj,Jj,ih,Int.add_mul];omega
theorem XW (f:Nat->Int) (c:Int) (n:Nat):Jj (λi=>f i*c) n=Jj f n*c:=by
 induction n with
 | zero=>show(0:Int)=0*c;omega
 | succ n ih =>
  rw[Jj,Jj,ih,Int.add_mul]
  have:f n*c*(pw n:Int)=f n*(pw n:Int)*c:=by rw[Int.mul_assoc,Int.mul_comm c,<- Int.mul_assoc]
  omega
def part (o:Nat->Int) (n i:Nat):Int:=if i<n then o i else 0
theorem Q4 (o:Nat->Int) (d:n<=m):Jj (part o n) m=Jj o n:=by
 obtain⟨k,rfl⟩:∃ k,m=n+k:=⟨m-n,Zo⟩;rw[QP,ZH (o:=λi=>part o n (n+i)) (n:=k) λi _=>by unfold part;rw[if_neg Zo]];rw[Qb (o:=part o n) (o':=o) λi c=>by unfold part;rw[if_pos c]];omega
end Limb
namespace Mono
open Go.RowKit
theorem VU {d c:World} (h:Bl d c):(∀ b o,b<d.heap.size->c.cell? ⟨b,o,none⟩=d.cell? ⟨b,o,none⟩)/\(∀ b o,b<d.heap.size->c.frozen? ⟨b,o,none⟩=d.frozen? ⟨b,o,none⟩) :=
 ⟨λb o j=>h.cell (p:=⟨b,o,none⟩) j,λb o j=>h.frozen (p:=⟨b,o,none⟩) j⟩
theorem set4 {j:World} {b:Nat} {h:TypeId} {f:Nat->Value} (p:j.rowIs b h 4 f) (c:Nat->Int) :
  ((((j.setCell ⟨b,0,none⟩ (.int .u16 (c 0))).setCell ⟨b,1,none⟩ (.int .u16 (c 1))).setCell ⟨b,2,none⟩ (.int .u16 (c 2))).setCell ⟨b,3,none⟩ (.int .u16 (c 3))).heap[b]?=some (.cells (Qu c) h (0,0)) :=
 jah (((((p.set 0 (.int .u16 (c 0))).set 1 (.int .u16 (c 1))).set 2 (.int .u16 (c 2))).set 3 (.int .u16 (c 3))).congr (g:=cell c) (λq d=>by
  match q,d with
  | 0,_=>simp
  | 1,_=>simp
  | 2,_=>simp
  | 3,_=>simp))
theorem set4a {j:World} {b:Nat} {h:TypeId} {f:Nat->Value} (d:j.rowIs b h 4 f) (c:Nat->Int) (o:Obj) :
  (((((j.setCell ⟨b,0,none⟩ (.int .u16 (c 0))).setCell ⟨b,1,none⟩ (.int .u16 (c 1))).setCell ⟨b,2,none⟩ (.int .u16 (c 2))).setCell ⟨b,3,none⟩ (.int .u16 (c 3))).alloc o).heap[b]?=some (.cells (Qu c) h (0,0)) :=
 (Below.heap_alloc _ o b (by have:=d.lt;simpa using this)).trans (set4 d c)
theorem third (q j:World) (c d:Obj) (p:TypeId) (h:Below (((q.alloc c).alloc d).alloc (.cells (Qu Qy) p)).heap.size (((q.alloc c).alloc d).alloc (.cells (Qu Qy) p)) j) :
  j.rowIs (q.heap.size+1+1) p 4 (cell Qy):=by
 have r:=World.rowIs_alloc ((q.alloc c).alloc d) (Qu Qy) p (cell Qy) (four Qy);rw[World.size_alloc,World.size_alloc] at r;exact r.of_block (h.block _ (by simp))
theorem Kb (a b:Nat->Int) (q:World) (j:Small a) (p:Small b) :
  Cl 146 #[mvf a,mvf b] q λe w'=>e=.returned (.tuple #[mvf (mulM a b),.int .i64 (Ui a b)])/\Bl q w':=by
 have t:=qh j;clear j;have x:=qh p;clear p;go_enter func146,ntmps146;go_wp2_with fail
 refine(each_mul a b _ t.o x.o).mono ?_;rintro e d ⟨rfl,c⟩;obtain⟨A,D⟩:=VU c;have h:=qh<|third q d _ _ _ c
 have E:q.heap.size+1+1<d.heap.size:=by have:=c.size;simp at this;omega
 have z:Bl q d:=((zk.alloc (by go_size) _ |>.alloc (by go_size) _).alloc (by go_size) _).trans (c.mono (by go_size));by_cases y:Yg a b=true
 ·have r:=qh (show Ui a b=0 by simp[Ui,y]);go_wp2;refine bodyPost_ret (JO rfl _ _ _ _ _ _ _ rfl (set4a h.o (mulM a b) _) underlying35 rfl Zk) rfl ⟨by rw[r.o];rfl,?_⟩;go_grown
 ·have r:=qh (show Ui a b=3 by simp[Ui,y]);go_wp2;refine bodyPost_ret (JO rfl _ _ _ _ _ _ _ rfl (set4a h.o (mulM a b) _) underlying35 rfl Zk) rfl ⟨by rw[r.o];rfl,?_⟩;go_grown
theorem jig (a b:Nat->Int) (p:World) (h:Small a) (j:Small b) :
  Cl 144 #[mvf a,mvf b] p λe w'=>e=.returned (.tuple #[mvf (Z6 a b),.bool (Yh a b)])/\Bl p w':=by
 have r:=qh h;clear h;have t:=qh j;clear j;go_enter func144,ntmps144;go_wp2_with fail
 refine(each_div a b _ r.o t.o).mono ?_;rintro e d ⟨rfl,c⟩;obtain⟨y,z⟩:=VU c;have q:=qh<|third p d _ _ _ c
 have A:p.heap.size+1+1<d.heap.size:=by have:=c.size;simp at this;omega
 have x:Bl p d:=((zk.alloc (by go_size) _ |>.alloc (by go_size) _).alloc (by go_size) _).trans (c.mono (by go_size));go_wp2;refine bodyPost_ret (JO rfl _ _ _ _ _ _ _ rfl (set4 q.o (Z6 a b)) underlying35 rfl Zk) rfl ⟨rfl,?_⟩;go_grown
theorem Uj (a:Nat->Int) (c:World) (d:Small a) :
  Cl 199 #[mvf a] c λe w'=>e=.returned (.int .i64 (JF a))/\Bl c w':=by
 obtain⟨r,q0⟩:=d 0 Zo;obtain⟨t,z⟩:=d 1 Zo;obtain⟨x,A⟩:=d 2 Zo;obtain⟨y,D⟩:=d 3 Zo;clear d
 have h:∀ c,(Instr.index 35 (mvf a) (.int .i64 0)).run prog c=.ok (.int .u16 (a 0)) c:=λ_=>Zk
 have j:∀ c,(Instr.index 35 (mvf a) (.int .i64 1)).run prog c=.ok (.int .u16 (a 1)) c:=λ_=>Zk
 have p:∀ c,(Instr.index 35 (mvf a) (.int .i64 2)).run prog c=.ok (.int .u16 (a 2)) c:=λ_=>Zk
 have q:∀ c,(Instr.index 35 (mvf a) (.int .i64 3)).run prog c=.ok (.int .u16 (a 3)) c:=λ_=>Zk
 go_enter func199,ntmps199;go_wp2;go_rounds 5;go_ret;exact⟨rfl,by go_grown⟩
end Mono
namespace Limb
open Go.RowKit Go.Sort
variable {w w':World} {a:Option Addr} {B T base cap n:Nat} {o:Nat->Int}
abbrev uc (o:Nat->Int) (i:Nat):Value:=.int .u32 (o i)
abbrev Jv (s:Bool) (a:Option Addr) (n cap:Nat):Value:=.agg #[.bool s,.slice a n cap]
structure Rd (w:World) (a:Option Addr) (n:Nat) (o:Nat->Int):Prop where
 cells:0<n->∃ b off,a=some ⟨b,off,none⟩/\∀ i,i<n->w.cell? ⟨b,off+i,none⟩=some (uc o i)
 rng:∀ i,i<n->0<=o i/\o i<=4294967295
theorem Rd.nil (d:World) (a:Option Addr) (o:Nat->Int):Rd d a 0 o:=⟨λc=>absurd c Zo,λi c=>absurd c Zo⟩
theorem Rd.below (x:Rd w a n o) (j:Bl w w'):Rd w' a n o:=by
 refine⟨λt=>?_,x.rng⟩;obtain⟨b,off,h,q⟩:=x.cells t;refine⟨b,off,h,λi r=>?_⟩;have c:=q i r;have d:b<w.heap.size:=block_lt_of_cell c;exact(j.cell (p:=⟨b,off+i,none⟩) d).trans c
theorem Rd.drewN (c:Rd w a n o) (d:Nat):Rd (w.drewN d) a n o:=⟨c.cells,c.rng⟩
theorem Rd.le {p:Nat} (j:Rd w a n o) (q:p<=n):Rd w a p o:=by
 refine⟨λr=>?_,λi h=>j.rng i Zo⟩;obtain⟨b,off,c,d⟩:=j.cells Zo;exact⟨b,off,c,λi h=>d i Zo⟩
theorem Rd.congr {d:Nat->Int} (q:Rd w a n o) (e:∀ i,i<n->o i=d i):Rd w a n d:=by
 refine⟨λp=>?_,λi c=>by rw[<- e i c];exact q.rng i c⟩;obtain⟨b,off,h,j⟩:=q.cells p;exact⟨b,off,h,λi c=>by rw[j i c];show some (Value.int .u32 (o i))=_;rw[e i c]⟩
structure Own (T:Nat) (w:World) (base:Nat) (a:Option Addr) (n cap:Nat) (o:Nat->Int):Prop where
 le:n<=cap
 place:(a=none/\n=0/\cap=0)\/∃ g cur,a=some ⟨g,0,none⟩/\base<=g/\w.heap[g]?=some (.cells cur T (0,0))/\cap<=cur.size/\∀ i,i<n->cur[i]?=some (uc o i)
 rng:∀ i,i<n->0<=o i/\o i<=4294967295
theorem Own.rd (p:Own T w base a n cap o):Rd w a n o:=by
 refine⟨λr=>?_,p.rng⟩
 rcases p.place with ⟨_,q,_⟩ | ⟨g,j,c,_,hg,_,d⟩
 ·omega
 ·exact⟨g,0,c,λi h=>by rw[cell_of_row _ _ _ _ _ _ hg,Nat.zero_add];exact d i h⟩
theorem Own.below (j:Own T w base a n cap o) (r:Bl w w'):Own T w' base a n cap o:=by
 refine⟨j.le,?_,j.rng⟩
 rcases j.place with p | ⟨g,d,q,h,hg,c,t⟩
 ·exact Or.inl p
 ·exact Or.inr ⟨g,d,q,h,(r.block g (lt_of_block hg)).trans hg,c,t⟩
theorem Own.mono {c:Nat} (j:Own T w base a n cap o) (x:c<=base):Own T w c a n cap o:=by
 refine⟨j.le,?_,j.rng⟩
 rcases j.place with p | ⟨g,h,q,t,hg,d,r⟩
 ·exact Or.inl p
 ·exact Or.inr ⟨g,h,q,Zo,hg,d,r⟩
theorem Je {r:Program} {j:Func} {E:Tmp} {h:TypeId} (I:j.results=#[.cell E h]) (c:Array Value) (q:World) (x:Nat) (F:TypeId) (d:Array Value) (p:Nat × Nat) (t:TypeDesc)
  (A:c.getD E undef=.pointer (some ⟨x,0,none⟩)) (hg:q.heap[x]?=some (.cells d F p))
  (D:r.underlying h=some t) (y:(match t with | .struct _ | .array _ _=>true | _=>false)=true) (z:(r.info? h).map (·.size)=some d.size) :
  (results j c).run r q=.ok (.agg d) q:=results_cell_row I c q x F d p t A hg D y z
theorem VU {d c:World} (h:Bl d c):(∀ b o,b<d.heap.size->c.cell? ⟨b,o,none⟩=d.cell? ⟨b,o,none⟩)/\(∀ b o,b<d.heap.size->c.frozen? ⟨b,o,none⟩=d.frozen? ⟨b,o,none⟩) :=
 ⟨λb o j=>h.cell (p:=⟨b,o,none⟩) j,λb o j=>h.frozen (p:=⟨b,o,none⟩) j⟩
theorem QC {a:World} (c:Below B a w) (n:Nat):Below B a (w.drewN n):=⟨c.os,c.tape,c.output,c.size,c.block⟩
theorem qg {c:World} (d:Below B c w:=by(repeat' (first | (with_reducible exact zk) | (with_reducible assumption) | (with_reducible refine Below.alloc ?_ ?_ _) | (with_reducible refine Below.drew ?_) | (with_reducible refine QC ?_ _) | (with_reducible refine Below.setCell ?_ ?_ _) | (with_reducible refine Below.frame ?_ _) | go_size))):Below B c w:=d
end Limb
namespace Limb
variable {i j k lb n:Nat} {x y:Nat->Int}
def upd (o:Nat->Int) (j:Nat) (v:Int):Nat->Int:=λt=>if t=j then v else o t
theorem upd_same (o:Nat->Int) (c:Nat) (v:Int):upd o c v c=v:=by simp[upd]
theorem upd_ne (o:Nat->Int) {c:Nat} (v:Int) (d:c≠j):upd o j v c=o c:=by simp[upd,d]
theorem jej (o:Nat->Int) (v:Int):∀ {n:Nat},n<=j->Jj (upd o j v) n=Jj o n:=λd =>
 Qb λi c=>upd_ne o v Zo
theorem jai (o:Nat->Int) (v:Int) (c:j<n):Jj (upd o j v) n=Jj o n+(v-o j)*(pw j:Int):=by
 induction n with
 | zero=>omega
 | succ n ih =>
  rw[Jj,Jj];by_cases e:j=n
  ·subst e;rw[jej o v zj,upd_same,Int.sub_mul];omega
  ·rw[ih Zo,upd_ne o v Zo];omega
theorem Y6 {o:Nat->Int} (p:Dig o n) (h:Nat) {v:Int} (d:0<=v/\v<1000000000):Dig (upd o h v) n:=by
 intro i c;by_cases e:i=h
 ·subst e;rw[upd_same];exact d
 ·rw[upd_ne o v e];exact p i c
structure Zm (x y:Nat->Int) (lb n i:Nat) (o:Nat->Int):Prop where
 dig:Dig o n
 sum:Jj o n=Jj x i*Jj y lb
 out:∀ j,i+lb<=j->j<n->o j=0
theorem Zm.o {o:Nat->Int} (c:Zm x y lb n i o):∀ j,i+lb<=j->j<n->o j=0:=c.out
structure YT (x y:Nat->Int) (lb n i k:Nat) (o:Nat->Int) (on:Int):Prop where
 dig:Dig o n
 on0:0<=on/\on<1000000000
 sum:Jj o n+on*(pw (i+k):Int)=Jj x i*Jj y lb+x i*Jj y k*(pw i:Int)
 out:∀ j,i+lb<=j->j<n->o j=0
theorem YT.o {o:Nat->Int} {c:Int} (d:YT x y lb n i k o c):∀ j,i+lb<=j->j<n->o j=0:=d.out
theorem Zm.start (d h:Nat->Int) (c n:Nat):Zm d h c n 0 (λ_=>0) :=
 ⟨λi _=>Zo,by rw[ZH (λ_ _=>rfl)];show(0:Int)=0*_;omega,λ_ _ _=>rfl⟩
theorem Zm.inner {o:Nat->Int} (c:Zm x y lb n i o):YT x y lb n i 0 o 0 :=
 ⟨c.dig,Zo,by rw[c.sum];show _+0*_=_+x i*0*_;rw[Int.mul_zero];omega,c.o⟩
theorem jh2 {a b:Int} (d:0<=a/\a<1000000000) (c:0<=b/\b<1000000000):0<=a*b/\a*b<=999999998000000001:=by
 constructor
 ·exact Int.mul_nonneg d.1 c.1
 ·calc a*b<=999999999*b:=Int.mul_le_mul_of_nonneg_right Zo c.1
   _<=999999999*999999999:=Int.mul_le_mul_of_nonneg_left Zo Zo
   _=999999998000000001:=Ze
theorem YT.step {o:Nat->Int} {c:Int} (d:YT x y lb n i k o c) (r:0<=x i/\x i<1000000000) (t:0<=y k/\y k<1000000000) (K:k<lb) (L:i+lb<=n) :
  (0<=c+(x i*y k+o (i+k))/\c+(x i*y k+o (i+k))<=999999999999999999) /\
  YT x y lb n i (k+1) (upd o (i+k) ((c+(x i*y k+o (i+k)))%1000000000)) ((c+(x i*y k+o (i+k)))/1000000000):=by
 have I:=jh2 r t;have J:=d.dig (i+k) Zo;have F:=d.on0;have M:=d.sum;refine⟨Zo,Y6 d.dig _ Zo,Zo,?_,λj q h=>by rw[upd_ne o _ Zo];exact d.o j q h⟩;rw[jai o _ (show i+k<n by omega),<- Nat.add_assoc,JR,Int.natCast_mul]
 generalize p:c+(x i*y k+o (i+k))=T
 have z:T=1000000000*(T/1000000000)+T%1000000000:=Zo
 have A:(T%1000000000-o (i+k))*(pw (i+k):Int)+T/1000000000*((pw (i+k):Int)*((1000000000:Nat):Int))=(T-o (i+k))*(pw (i+k):Int):=by
  have:T/1000000000*((pw (i+k):Int)*((1000000000:Nat):Int))=1000000000*(T/1000000000)*(pw (i+k):Int):=by
   rw[Int.mul_comm (pw (i+k):Int),<- Int.mul_assoc,Int.mul_comm (T/1000000000)];rfl
  rw[this,<- Int.add_mul]
  congr 1
  omega
 have D:(T-o (i+k))*(pw (i+k):Int)=c*(pw (i+k):Int)+x i*y k*(pw (i+k):Int):=by
  rw[<- Int.add_mul,<- p];congr 1;omega
 have E:x i*Jj y (k+1)*(pw i:Int)=x i*Jj y k*(pw i:Int)+x i*y k*(pw (i+k):Int):=by
  rw[Jj,Int.mul_add,Int.add_mul,V4,Int.natCast_mul]
  congr 1
  rw[Int.mul_assoc,Int.mul_assoc,Int.mul_assoc,Int.mul_comm (pw k:Int)]
 omega
theorem YT.row {o:Nat->Int} {p:Int} (c:YT x y lb n i lb o p) (h:i+lb<n):Zm x y lb n (i+1) (upd o (i+lb) p):=by
 have r:=c.sum;have q:=c.o (i+lb) zj h;refine⟨Y6 c.dig _ c.on0,?_,λj t d=>by rw[upd_ne o _ Zo];exact c.o j Zo d⟩;rw[jai o _ h,q,Int.sub_zero,r,Jj,Int.add_mul]
 congr 1
 rw[Int.mul_assoc,Int.mul_assoc,Int.mul_comm (Jj y lb)]
end Limb
end Go.Proofs.YthacfgmdihcffaaGreatDoor
