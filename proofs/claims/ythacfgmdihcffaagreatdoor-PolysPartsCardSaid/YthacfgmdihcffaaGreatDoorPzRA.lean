/-
  Lists of parts in memory: what may be read, what a call has made itself.
-/
import Derived.Test.YthacfgmdihcffaaGreatDoorRows
import Derived.Deep.Quiet
import Derived.StillTail
import Derived.StillTailTactics
import Derived.Below
import Derived.WalkKit
import Derived.ProofKit
import Derived.OpenShut
import Derived.WalkSpells
import Derived.WalkLawsBesides
import Derived.BigQuiet
import Derived.Handy
import Derived.Deep.OwnRows
import Derived.Lib.Hide
import Derived.Test.YthacfgmdihcffaaGreatDoorProg
import Derived.Lib.QuietBelow
set_option linter.unusedSimpArgs false
set_option linter.unusedVariables false
set_option maxHeartbeats 16000000
set_option maxRecDepth 100000
namespace Go
theorem RowKit.Hid.o {p:Prop} (h:RowKit.Hid p):p:=h
open RowKit in
theorem RowKit.Below.sc {B:Nat} {a w:World} (h:Below B a w) {p:Addr} {u:Value} (hp:B<=p.block:=by dsimp only;omega):Below B a (w.setCell p u):=h.setCell hp u
theorem zj {n:Nat}:n<=n:=Nat.le_refl n
open RowKit in
theorem zk {b:Nat} {w:World}:Below b w w:=Below.refl b w
theorem zm {a b c:Nat} (h:a<=b) (k:b<=c):a<=c:=Nat.le_trans h k
theorem zo {p:Prop} [Decidable p] (h:¬p):decide p=false:=decide_eq_false h
theorem zx {α:Type _} {a:α} {l:List α} {i:Nat}:(a :: l).take (i+1)=a :: l.take i:=rfl
theorem zy {α:Type _} {l:List α}:l.take 0=[]:=rfl
theorem zv {α:Type _} {a:α} {l:List α} {i:Nat}:(a :: l).drop (i+1)=l.drop i:=rfl
theorem zw {α:Type _} {l:List α}:l.drop 0=l:=rfl
theorem zu {α:Type _} {a b:List α}:List.append a b=a++b:=rfl
theorem zi {α:Type _} {a:α} {l m:List α}:(a :: l)++m=a :: (l++m):=rfl
theorem ze {α:Type _} {l:List α}:[]++l=l:=rfl
theorem zq0 {α:Type} (l:List α) (i:Nat) (a:α):l.toArray.setIfInBounds i a=(l.set i a).toArray:=List.setIfInBounds_toArray ..
theorem zq1 {α:Type} (a b:α) (l:List α) (i:Nat):(a :: l).set (i+1) b=a :: l.set i b:=rfl
theorem qh {p:Prop} (h:p):RowKit.Hid p:=h
open RowKit in
theorem qk {u v w:World} (h:Hid (Below u.heap.size u v)) (hb:Below v.heap.size v w):Hid (Below u.heap.size u w):=h.o.trans (hb.mono h.o.size)
theorem zq2 {α:Type} (a b:α) (l:List α):(a :: l).set 0 b=b :: l:=rfl
end Go
namespace Go.Fresh
open Go.RowKit
variable {P:Program} {ops:Array Oper} {md:Region.Mode} {C:World->Prop}
abbrev Spec:=Option ((Value->Prop) × (Value->World->Prop))
def Spec.keeps (s:Spec):Prop:=match s with
 | none=>True
 | some s=>∀ v w w',s.2 v w->Below w.heap.size w w'->s.2 v w'
abbrev Facts:=Nat->World->Prop
def Facts.set (F:Facts) (k:Nat) (Φ:World->Prop):Facts:=fun i w=>if i=k then Φ w else F i w
def Facts.keeps (F:Facts):Prop:=∀ i w w',F i w->Below w.heap.size w w'->F i w'
theorem Facts.set_same (F:Facts) (k:Nat) (Φ:World->Prop) (w:World):F.set k Φ k w=Φ w:=by simp[Facts.set]
theorem Facts.set_ne (F:Facts) {i k:Nat} (h:i≠k) (Φ:World->Prop) (w:World):F.set k Φ i w=F i w:=by simp[Facts.set,h]
theorem Facts.set_comm (F:Facts) {i k:Nat} (h:i≠k) (Φ Ψ:World->Prop):(F.set k Φ).set i Ψ=(F.set i Ψ).set k Φ:=by
 funext j w;unfold Facts.set;by_cases h1:j=i
 ·by_cases h2:j=k
  ·omega
  ·simp[h1,h]
 ·simp[h1]
theorem Facts.keeps_set {F:Facts} (hF:F.keeps) {k:Nat} {Φ:World->Prop} (hΦ:∀ w w',Φ w->Below w.heap.size w w'->Φ w'):(F.set k Φ).keeps:=by
 intro i w w' h hb;unfold Facts.set at *;by_cases hi:i=k
 ·simp only[hi,if_true] at h ⊢;exact hΦ _ _ h hb
 ·simp only[hi,if_false] at h ⊢;exact hF _ _ _ h hb
def readsUpon (w:World) (u:Value):Result Next->Prop
 | .ok (.value x) w'=>w'=w/\x=u
 | .ok .skip w'=>w'=w/\u=undef
 | _=>False
def givesUpon (P:Program) (w:World) (Post:Value->World->Prop):Result Next->Prop
 | .ok (.value x) w'=>Post x w'/\Below w.heap.size w w'
 | .ok (.enter f args) w'=>Calls P f args w' fun e w''=>∃ v,e=.returned v/\Post v w''/\Below w.heap.size w w''
 | _=>False
attribute [go_sem] readsUpon givesUpon
def Has (md:Region.Mode) (ops:Array Oper) (C:World->Prop) (k:Nat) (F:Facts) (w:World):Prop:=C w/\∀ i,Region.waitsFor md ops k i=true->F i w
def Yields (P:Program) (md:Region.Mode) (ops:Array Oper) (C:World->Prop) (s:Spec) (k:Nat) (o:Oper) (a:Act) (F:Facts) (V:Value->Prop) (Ψ:Value->World->Prop):Prop :=
 (Region.wanted o (yielded ops a.tmps)=true /\
  ((s=none/\∃ u,V=(fun v=>v=u)/\Ψ=(fun _ _=>True)/\∀ w,Has md ops C k F w->readsUpon w u ((execOp a.eval o).run P w)) \/
   (s=some (V,Ψ)/\∀ w,Has md ops C k F w->givesUpon P w (fun v w'=>V v/\Ψ v w') ((execOp a.eval o).run P w)))) \/
 (Region.wanted o (yielded ops a.tmps)=false/\V=(fun v=>v=undef)/\Ψ=fun _ _=>True)
theorem Yields.uniq {s:Spec} {k:Nat} {o:Oper} {a:Act} {F:Facts} {V V':Value->Prop} {Ψ Ψ':Value->World->Prop} {w:World} (hw:Has md ops C k F w)
  (h:Yields P md ops C s k o a F V Ψ) (h':Yields P md ops C s k o a F V' Ψ'):V=V'/\Ψ=Ψ':=by
 rcases h with ⟨w1,h | h⟩ | ⟨w1,e1,e2⟩ <;> rcases h' with ⟨w2,h' | h'⟩ | ⟨w2,e1',e2'⟩
 ·obtain⟨_,u,rfl,rfl,hr⟩:=h;obtain⟨_,u',rfl,rfl,hr'⟩:=h';have h1:=hr w hw;have h2:=hr' w hw
  revert h1 h2
  generalize (execOp a.eval o).run P w=r
  intro h1 h2
  have e:u=u':=by
   cases r with
   | ok n w' =>
    cases n <;> simp only[readsUpon] at h1 h2
    ·rw[<- h1.2,h2.2]
    ·rw[h1.2,h2.2]
   | halt x w'=>simp only[readsUpon] at h1
  rw[e];exact⟨rfl,rfl⟩
 ·rw[h.1] at h';cases h'.1
 ·rw[w1] at w2;cases w2
 ·rw[h'.1] at h;cases h.1
 ·have:=h.1.symm.trans h'.1;simp only[Option.some.injEq,Prod.mk.injEq] at this;exact this
 ·rw[w1] at w2;cases w2
 ·rw[w1] at w2;cases w2
 ·rw[w1] at w2;cases w2
 ·exact⟨e1.trans e1'.symm,e2.trans e2'.symm⟩
theorem Yields.keeps {s:Spec} {k:Nat} {o:Oper} {a:Act} {F:Facts} {V:Value->Prop} {Ψ:Value->World->Prop} (hs:s.keeps)
  (h:Yields P md ops C s k o a F V Ψ):∀ v w w',Ψ v w->Below w.heap.size w w'->Ψ v w':=by
 rcases h with ⟨_,⟨_,u,rfl,rfl,_⟩ | ⟨rfl,_⟩⟩ | ⟨_,rfl,rfl⟩
 ·exact fun _ _ _ _ _=>trivial
 ·exact hs
 ·exact fun _ _ _ _ _=>trivial
theorem keep_all {F:Facts} (hF:F.keeps) {k:Nat} {Φ:World->Prop} {w w':World} (hw:∀ i,F i w) (hb:Below w.heap.size w w') (hΦ:Φ w'):∀ i,F.set k Φ i w':=by
 intro i;unfold Facts.set;by_cases hi:i=k
 ·simp only[hi,if_true];exact hΦ
 ·simp only[hi,if_false];exact hF _ _ _ (hw i) hb
theorem Yields.run {s:Spec} {k:Nat} {o:Oper} {a:Act} {F:Facts} {V:Value->Prop} {Ψ:Value->World->Prop} {w:World}
  (hCg:∀ w w',C w->Below w.heap.size w w'->C w') (hF:F.keeps) (hw:C w) (hFw:∀ i,F i w) (h:Yields P md ops C s k o a F V Ψ) :
  ∃ v w',V v/\C w'/\∀ i,F.set k (Ψ v) i w':=by
 have hH:Has md ops C k F w:=⟨hw,fun i _=>hFw i⟩
 rcases h with ⟨_,⟨_,u,rfl,rfl,_⟩ | ⟨rfl,hg⟩⟩ | ⟨_,rfl,rfl⟩
 ·exact⟨u,w,rfl,hw,keep_all hF hFw zk trivial⟩
 ·have h1:=hg w hH
  revert h1
  generalize (execOp a.eval o).run P w=r
  intro h1
  cases r with
  | ok n w' =>
   cases n <;> simp only[givesUpon] at h1
   case value x=>exact⟨x,w',h1.1.1,hCg _ _ hw h1.2,keep_all hF hFw h1.2 h1.1.2⟩
   case enter f args =>
    obtain⟨e,w'',fr,⟨v,rfl,hp,hb⟩,_⟩:=h1 []
    exact⟨v,w'',hp.1,hCg _ _ hw hb,keep_all hF hFw hb hp.2⟩
  | halt x w'=>simp only[givesUpon] at h1
 ·exact⟨undef,w,rfl,hw,keep_all hF hFw zk trivial⟩
def Sat (C:World->Prop) (F:Facts):Prop:=∃ w,C w/\∀ i,F i w
def fOp (P:Program) (md:Region.Mode) (ops:Array Oper) (C:World->Prop) (sp:Nat->Spec) (i:Nat) (K:Act->(World->Prop)->Prop) (a:Act) (F:Facts):Prop :=
 ∃ o V Ψ,ops[i]?=some o/\Yields P md ops C (sp i) i o a F V Ψ/\∀ v,V v->K (a.put o.dst v) (Ψ v)
def wpAnyF (P:Program) (md:Region.Mode) (ops:Array Oper) (C:World->Prop) (sp:Nat->Spec) (n:Nat) (L:Array Bool->Act->Facts->Prop):Nat->Array Bool->Act->Facts->Prop
 | 0,listed,a,F=>Sat C F->L listed a F
 | f+1,listed,a,F=>Sat C F->Region.ready md ops listed≠[] /\
   ∀ i∈Region.ready md ops listed,i<n/\fOp P md ops C sp i (fun a' Φ=>wpAnyF P md ops C sp n L f (listed.setIfInBounds i true) a' (F.set i Φ)) a F
theorem wpAnyF_guard {sp:Nat->Spec} {n:Nat} {L:Array Bool->Act->Facts->Prop} {f:Nat} {listed:Array Bool} {a:Act} {F:Facts}
  (h:Sat C F->wpAnyF P md ops C sp n L f listed a F):wpAnyF P md ops C sp n L f listed a F:=by
 cases f with
 | zero=>exact fun hs=>h hs hs
 | succ f=>exact fun hs=>h hs hs
theorem wpOp_of_fOp {sp:Nat->Spec} {i:Nat} {a:Act} {F:Facts} {K:Act->(World->Prop)->Prop} {K':Act->World->Prop} {Q':Exit->Act->World->Prop} {w:World}
  (hsp:∀ i,(sp i).keeps) (hCg:∀ w w',C w->Below w.heap.size w w'->C w') (hF:F.keeps) (hw:C w) (hFw:∀ i,F i w)
  (h:∀ a' Φ w',C w'->(F.set i Φ).keeps->(∀ j,F.set i Φ j w')->K a' Φ->K' a' w') (hh:fOp P md ops C sp i K a F):wpOp P ops Q' i K' a w:=by
 obtain⟨o,V,Ψ,ho,hY,hK⟩:=hh;have hH:Has md ops C i F w:=⟨hw,fun i _=>hFw i⟩
 have hkeep:=fun v=>Facts.keeps_set hF (k:=i) (hY.keeps (hsp i) v)
 unfold wpOp;simp only[ho]
 rcases hY with ⟨hwd,⟨_,u,rfl,rfl,hr⟩ | ⟨_,hg⟩⟩ | ⟨hwd,rfl,rfl⟩
 ·simp only[hwd,if_true];refine .inl ?_;have h1:=hr w hH;unfold Oper.wp
  revert h1
  generalize (execOp a.eval o).run P w=r
  intro h1
  cases r with
  | ok n w' =>
   cases n <;> simp only[readsUpon] at h1 <;> simp only[Oper.upon]
   case value x =>
    obtain⟨rfl,rfl⟩:=h1;exact h _ _ _ hw (hkeep x) (keep_all hF hFw zk trivial) (hK _ rfl)
   case skip =>
    obtain⟨rfl,rfl⟩:=h1
    exact h _ _ _ hw (hkeep undef) (keep_all hF hFw zk trivial) (hK _ rfl)
  | halt x w'=>simp only[readsUpon] at h1
 ·simp only[hwd,if_true];refine .inl ?_;have h1:=hg w hH;unfold Oper.wp
  revert h1
  generalize (execOp a.eval o).run P w=r
  intro h1
  cases r with
  | ok n w' =>
   cases n <;> simp only[givesUpon] at h1 <;> simp only[Oper.upon]
   case value x=>exact h _ _ _ (hCg _ _ hw h1.2) (hkeep x) (keep_all hF hFw h1.2 h1.1.2) (hK _ h1.1.1)
   case enter f args =>
    refine h1.mono fun e w'' hp=>?_
    obtain⟨v,rfl,hp,hb⟩:=hp
    exact h _ _ _ (hCg _ _ hw hb) (hkeep v) (keep_all hF hFw hb hp.2) (hK _ hp.1)
  | halt x w'=>simp only[givesUpon] at h1
 ·simp only[hwd,Bool.false_eq_true,if_false];exact h _ _ _ hw (hkeep undef) (keep_all hF hFw zk trivial) (hK _ rfl)
theorem wpAny_of_headF {sp:Nat->Spec} {n g:Nat} {L:Array Bool->Act->Facts->Prop} {Q':Exit->Act->World->Prop}
  (hsp:∀ i,(sp i).keeps) (hCg:∀ w w',C w->Below w.heap.size w w'->C w')
  (hL:∀ listed a F w,C w->(∀ i,F i w)->L listed a F->wpAny P md ops Q' g listed a w) :
  ∀ (f:Nat) (listed:Array Bool) (a:Act) (F:Facts) (w:World),F.keeps->C w->(∀ i,F i w)->wpAnyF P md ops C sp n L f listed a F->wpAny P md ops Q' (f+g) listed a w
 | 0,listed,a,F,w,hF,hw,hFw,h=>by rw[Nat.zero_add];exact hL _ _ _ _ hw hFw (h ⟨w,hw,hFw⟩)
 | f+1,listed,a,F,w,hF,hw,hFw,h=>by
  rw[show f+1+g=(f+g)+1 by omega];have h1:=h ⟨w,hw,hFw⟩;exact⟨fun h0=>absurd h0 h1.1,fun i hi=>wpOp_of_fOp hsp hCg hF hw hFw (fun a' Φ w' hw' hF' hFw' h'=>wpAny_of_headF hsp hCg hL f _ a' _ w' hF' hw' hFw' h') (h1.2 i hi).2⟩
theorem Yields.of_same {s:Spec} {k:Nat} {o:Oper} {a a':Act} {F F':Facts} {V:Value->Prop} {Ψ:Value->World->Prop} (h:Yields P md ops C s k o a F V Ψ)
  (he:execOp a'.eval o=execOp a.eval o) (hwd:Region.wanted o (yielded ops a'.tmps)=Region.wanted o (yielded ops a.tmps)) (hF:∀ w,Has md ops C k F' w->Has md ops C k F w) :
  Yields P md ops C s k o a' F' V Ψ:=by
 unfold Yields at *;rw[he,hwd]
 rcases h with ⟨w1,⟨e,u,e1,e2,h⟩ | ⟨e,h⟩⟩ | h
 ·exact .inl ⟨w1,.inl ⟨e,u,e1,e2,fun w hw=>h w (hF w hw)⟩⟩
 ·exact .inl ⟨w1,.inr ⟨e,fun w hw=>h w (hF w hw)⟩⟩
 ·exact .inr h
theorem not_waits {k i:Nat} {o:Oper} (ho:ops[k]?=some o) (h:∀ e∈o.after,Region.binds md e=true->e.on≠i):Region.waitsFor md ops k i=false:=by
 cases hb:Region.waitsFor md ops k i with
 | false=>rfl
 | true =>
  obtain⟨o',ho',e,he,hb,hon⟩:=Region.waitsFor_spec hb;have:o'=o:=Option.some.inj (ho'.symm.trans ho);subst this;exact absurd hon (h e he hb)
theorem Has.of_set {F:Facts} {k i:Nat} {Φ:World->Prop} {w:World} (hn:Region.waitsFor md ops k i=false) (h:Has md ops C k (F.set i Φ) w):Has md ops C k F w:=by
 refine⟨h.1,fun j hj=>?_⟩
 have hji:j≠i:=fun e=>by rw[e,hn] at hj;cases hj
 have:=h.2 j hj;rwa [Facts.set_ne F hji] at this
theorem Has.to_set {F:Facts} {k i:Nat} {Φ:World->Prop} {w:World} (hn:Region.waitsFor md ops k i=false) (h:Has md ops C k F w):Has md ops C k (F.set i Φ) w:=by
 refine⟨h.1,fun j hj=>?_⟩
 have hji:j≠i:=fun e=>by rw[e,hn] at hj;cases hj
 rw[Facts.set_ne F hji];exact h.2 j hj
theorem wpAnyF_first {sp:Nat->Spec} {n i:Nat} {oi:Oper} {L:Array Bool->Act->Facts->Prop} (hsp:∀ i,(sp i).keeps) (hCg:∀ w w',C w->Below w.heap.size w w'->C w')
  (hi:ops[i]?=some oi) (hsel:∀ (j:Nat) (o:Oper) cs b,ops[j]?=some o->o.op≠.select cs b)
  (hs:Region.sinkB md ops n=true) (hc:Region.chainB md ops n=true) (hn:n<ops.size) (hin:i<n)
  (hdone:∀ listed a F,L listed a F->∀ j∈Region.ready md ops listed,n<=j) {V:Value->Prop} {Ψ:Value->World->Prop} :
  ∀ (f:Nat) (listed:Array Bool) (a:Act) (F:Facts),HeadInv md ops n listed->F.keeps->(∀ k,listed.getD k false=false->∀ w,F k w) ->
   (∀ j oj,ops[j]?=some oj->j≠i->listed.getD j true=false->(∀ e∈oj.after,Region.binds md e=true->e.on≠i)->oi.apart ops oj=true) ->
   i∈Region.ready md ops listed->Yields P md ops C (sp i) i oi a F V Ψ ->
   (∀ v,V v->wpAnyF P md ops C sp n L f (listed.setIfInBounds i true) (a.put oi.dst v) (F.set i (Ψ v)))->wpAnyF P md ops C sp n L (f+1) listed a F:=by
 intro f
 induction f with
 | zero =>
  intro listed a F inv hF hFt _ hr hy H hsat;have hun:=(mem_ready.1 hr).1;obtain⟨w,hw,hFw⟩:=hsat;obtain⟨v,w',hv,hw',hFw'⟩:=hy.run hCg hF hw hFw;have H0:=H v hv ⟨w',hw',hFw'⟩;refine⟨fun h=>(by rw[h] at hr;cases hr),fun j hj=>?_⟩
  have hjn:j<n:=by
   rcases Nat.lt_or_ge j n with h | h
   ·exact h
   ·exact absurd hj (tail_waits hs hc hn inv _ i rfl hin hun j h)
  refine⟨hjn,?_⟩;by_cases hji:j=i
  ·subst hji;exact⟨oi,V,Ψ,hi,hy,H⟩
  ·have:=hdone _ _ _ H0 j (ready_mono hj hji)
   omega
 | succ f ih =>
  intro listed a F inv hF hFt hfree hr hy H hsat;have hun:=(mem_ready.1 hr).1;obtain⟨w,hw,hFw⟩:=hsat;obtain⟨v0,w0,hv0,hw0,hFw0⟩:=hy.run hCg hF hw hFw;have H0:=H v0 hv0 ⟨w0,hw0,hFw0⟩;refine⟨fun h=>(by rw[h] at hr;cases hr),fun j hj=>?_⟩
  have hjn:j<n:=by
   rcases Nat.lt_or_ge j n with h | h
   ·exact h
   ·exact absurd hj (tail_waits hs hc hn inv _ i rfl hin hun j h)
  refine⟨hjn,?_⟩;by_cases hji:j=i
  ·subst hji;exact⟨oi,V,Ψ,hi,hy,H⟩
  ·obtain⟨hjun,oj,hoj,hall⟩:=mem_ready.1 hj
   have hnot:∀ e∈oj.after,Region.binds md e=true->e.on≠i:=fun e he hb heq=>by
    have h1:=hall e he hb;rw[heq,getD_both hun] at h1
    cases h1
   have hwji:=not_waits (md:=md) hoj hnot
   have hwij:Region.waitsFor md ops i j=false:=by
    obtain⟨_,o',ho',hall'⟩:=mem_ready.1 hr
    refine not_waits ho' fun e he hb heq=>?_
    have h1:=hall' e he hb;rw[heq,getD_both hjun] at h1
    cases h1
   have hap:=hfree j oj hoj hji hjun hnot;obtain⟨p1,p2,p3⟩:=Oper.apart_spec hap
   have back:∀ (v:Value) {V':Value->Prop} {Ψ':Value->World->Prop},Yields P md ops C (sp j) j oj (a.put oi.dst v) (F.set i (Ψ v)) V' Ψ'->Yields P md ops C (sp j) j oj a F V' Ψ':=fun v _ _ h =>
    h.of_same (execOp_put oj (hsel j oj · · hoj) a oi.dst v p1).symm (wanted_put oj a oi.dst v p1).symm (fun _ h=>h.to_set hwji)
   obtain⟨oj',Vj,Ψj,hoj',hYj,_⟩:=(H0.2 j (ready_mono hj hji)).2;obtain rfl:oj'=oj:=Option.some.inj (hoj'.symm.trans hoj);have hYj0:=back v0 hYj;refine⟨oj',Vj,Ψj,hoj,hYj0,fun vj hvj=>?_⟩
   have hun':(listed.setIfInBounds j true).getD i true=false:=by rw[getD_set_ne true hji];exact hun
   refine ih (listed.setIfInBounds j true) (a.put oj'.dst vj) (F.set j (Ψj vj)) (inv.set hj hjn) (Facts.keeps_set hF (hYj0.keeps (hsp j) vj)) (fun k hk w=>?_) (fun k ok hk hki hun hno=>?_) (ready_mono hr (Ne.symm hji))
    (hy.of_same (execOp_put oi (hsel i oi · · hi) a oj'.dst vj p3) (wanted_put oi a oj'.dst vj p3) (fun _ h=>h.of_set hwij)) (fun v hv=>wpAnyF_guard fun hsat2=>?_)
   ·have hkj:k≠j:=fun e=>by
     subst e
     have hlt:k<listed.size:=by
      rcases Nat.lt_or_ge k listed.size with h' | h'
      ·exact h'
      ·simp[Array.getElem?_eq_none h'] at hjun
     simp[hlt] at hk
    rw[Facts.set_ne F hkj];rw[getD_set_ne false (Ne.symm hkj)] at hk;exact hFt k hk w
   ·refine hfree k ok hk hki ?_ hno;by_cases hjk:j=k
    ·subst hjk;exact hjun
    ·rw[getD_set_ne true hjk] at hun;exact hun
   ·obtain⟨w2,hw2,hF2⟩:=hsat2
    have hsat3:Sat C (F.set i (Ψ v)):=⟨w2,hw2,fun k=>by
     by_cases hk:k=i
     ·subst hk;have:=hF2 k;rw[Facts.set_same] at this ⊢;exact this
     ·rw[Facts.set_ne F hk];by_cases hkj:k=j
      ·subst hkj;exact hFt k (getD_both hjun) w2
      ·have:=hF2 k;rw[Facts.set_ne _ hk,Facts.set_ne _ hkj] at this
       exact this⟩
    obtain⟨oj2,Vj2,Ψj2,hoj2,hYj2,hK2⟩:=((H v hv hsat3).2 j (ready_mono hj hji)).2;obtain rfl:oj2=oj':=Option.some.inj (hoj2.symm.trans hoj);obtain⟨rfl,rfl⟩:=(back v hYj2).uniq ⟨hw,fun k _=>hFw k⟩ hYj0;have h3:=hK2 vj hvj;rw[Array.setIfInBounds_comm _ _ hji,Facts.set_comm F (Ne.symm hji),<- Act.put_comm a v vj p2];exact h3
def wpF (P:Program) (md:Region.Mode) (ops:Array Oper) (C:World->Prop) (sp:Nat->Spec) (Q:Act->Facts->Prop):List Oper->Nat->Act->Facts->Prop
 | [],_,a,F=>Q a F
 | o :: rest,k,a,F=>∃ V Ψ,Yields P md ops C (sp k) k o a F V Ψ/\∀ v,V v->wpF P md ops C sp Q rest (k+1) (a.put o.dst v) (F.set k (Ψ v))
theorem wpAnyF_lex {sp:Nat->Spec} {n g:Nat} {Lq:Act->Facts->Prop} (hsp:∀ i,(sp i).keeps) (hCg:∀ w w',C w->Below w.heap.size w w'->C w')
  (hsel:Region.noSelect ops=true) (hs:Region.sinkB md ops n=true) (hc:Region.chainB md ops n=true) (hn:n<ops.size) :
  ∀ (l:List Oper) (k:Nat) (listed:Array Bool) (a:Act) (F:Facts),(∀ j,j<l.length->l[j]?=ops[k+j]?)->k+l.length=n->HeadInv md ops n listed->F.keeps->(∀ k,listed.getD k false=false->∀ w,F k w) ->
  Region.lexHead md ops g l.length k listed=true->wpF P md ops C sp Lq l k a F ->
  wpAnyF P md ops C sp n (fun listed' a' F'=>Region.seqB md ops g n listed'=true/\Lq a' F') l.length listed a F
 | [],k,listed,a,F,_,hk,_,_,_,hB,h=>by
  have:k=n:=by simpa using hk
  subst this
  exact fun _=>⟨by simpa[Region.lexHead] using hB,h⟩
 | o :: l,k,listed,a,F,hl,hk,inv,hF,hFt,hB,h=>by
  have h0:ops[k]?=some o:=by simpa using (hl 0 (by simp)).symm
  simp only[List.length_cons,Region.lexHead,Bool.and_eq_true] at hB;obtain⟨⟨hr,hf⟩,hB'⟩:=hB
  have hkn:k<n:=by simp only[List.length_cons] at hk;omega
  have hr':k∈Region.ready md ops listed:=by simpa using hr
  obtain⟨V,Ψ,hY,hK⟩:=h
  refine wpAnyF_first hsp hCg h0 (Region.noSelect_spec hsel) hs hc hn hkn (fun listed' a' _ hL=>seqB_ready hL.1) l.length listed a F inv hF hFt (Region.free_spec h0 hf) hr' hY fun v hv=>?_
  refine wpAnyF_lex hsp hCg hsel hs hc hn l (k+1) _ _ _ (fun j hj=>by have:=hl (j+1) (by simp;omega);simpa[Nat.add_assoc,Nat.add_comm 1 j] using this) (by simp only[List.length_cons] at hk;omega) (inv.set hr' hkn)
   (Facts.keeps_set hF (hY.keeps (hsp k) v)) (fun j hj w=>?_) hB' (hK v hv)
  have hjk:j≠k:=fun e=>by
   subst e
   have hlt:j<listed.size:=by rw[inv.size];omega
   simp[hlt] at hj
  rw[Facts.set_ne F hjk];rw[getD_set_ne false (Ne.symm hjk)] at hj;exact hFt j hj w
theorem wp_region_fresh {id:Nat} {Q:Exit->Act->World->Prop} {a:Act} {w:World} {l:List Oper} (n:Nat) (sp:Nat->Spec) (C:World->Prop) (hm:P.follows .mixedOrders=true) (hB:Region.lexTailB .any l.toArray n=true)
  (hsp:∀ i,(sp i).keeps) (hCg:∀ w w',C w->Below w.heap.size w w'->C w') (hC0:C { w with drawn:=w.drawn+1 })
  (h:wpF P .any l.toArray C sp (fun a' F=>∀ w',C w'->(∀ i,F i w')->wpList P l.toArray Q (l.drop n) a' w') (l.take n) 0 a (fun _ _=>True)):(Code.region id l.toArray true).wp P Q a w:=by
 simp only[Region.lexTailB,Bool.and_eq_true,decide_eq_true_eq] at hB;obtain⟨⟨⟨⟨hsel,hn⟩,hs⟩,hc⟩,hlex⟩:=hB
 have hn':n<l.length:=by simpa using hn
 have htl:(l.take n).length=n:=by simp;omega
 have hdl:(l.drop n).length=l.toArray.size-n:=by simp
 have inv0:HeadInv .any l.toArray n (Array.replicate l.toArray.size false) :=
  ⟨by simp,fun j oj _ hl=>(by rw[getD_replicate_false] at hl;cases hl),fun t _ ht=>getD_in (by simpa using ht) (getD_replicate_false _ _)⟩
 have H:=wpAnyF_lex (P:=P) (md:=.any) (C:=C) (g:=l.toArray.size-n) hsp hCg hsel hs hc hn (l.take n) 0 _ a (fun _ _=>True) (fun j hj=>by
  have hj':j<n:=by rw[htl] at hj;exact hj
  simp[hj']) (by simpa using htl) inv0 (fun _ _ _ _ _=>trivial) (fun _ _ _=>trivial) (by rw[htl];exact hlex) h
 refine wp_region_any hm ?_
 have:=wpAny_of_headF (Q':=Q) (g:=l.toArray.size-n) hsp hCg (fun listed a' F w' hw' hF' hL=>by
  have:=wpAny_of_seq (md:=.any) (Q':=Q) (l.drop n) n listed a' w' (fun j=>by simp[List.getElem?_drop]) (by rw[hdl];exact hL.1) (hL.2 w' hw' hF')
  rwa [hdl] at this) _ _ _ _ _ (fun _ _ _ _ _=>trivial) hC0 (fun _=>trivial) H
 rw[htl,show n+(l.toArray.size-n)=l.toArray.size by omega] at this;exact this
theorem wpF_nil {sp:Nat->Spec} {Q:Act->Facts->Prop} {k:Nat} {a:Act} {F:Facts} (h:Q a F):wpF P md ops C sp Q [] k a F:=h
theorem wpF_reads {sp:Nat->Spec} {Q:Act->Facts->Prop} {o:Oper} {rest:List Oper} {k:Nat} {a:Act} {F:Facts} (hg:o.guard=none) (hs:sp k=none) (u:Value)
  (hr:∀ w,Has md ops C k F w->readsUpon w u ((execOp a.eval o).run P w)) (hK:wpF P md ops C sp Q rest (k+1) (a.put o.dst u) (F.set k (fun _=>True))):wpF P md ops C sp Q (o :: rest) k a F :=
 ⟨_,_,.inl ⟨by simp[Region.wanted,hg],.inl ⟨hs,u,rfl,rfl,hr⟩⟩,fun v hv=>by cases hv;exact hK⟩
theorem wpF_spec {sp:Nat->Spec} {Q:Act->Facts->Prop} {o:Oper} {rest:List Oper} {k:Nat} {a:Act} {F:Facts} (hg:o.guard=none) {V:Value->Prop} {Ψ:Value->World->Prop} (hs:sp k=some (V,Ψ))
  (hr:∀ w,Has md ops C k F w->givesUpon P w (fun v w'=>V v/\Ψ v w') ((execOp a.eval o).run P w)) (hK:∀ v,V v->wpF P md ops C sp Q rest (k+1) (a.put o.dst v) (F.set k (Ψ v))):wpF P md ops C sp Q (o :: rest) k a F :=
 ⟨V,Ψ,.inl ⟨by simp[Region.wanted,hg],.inr ⟨hs,hr⟩⟩,hK⟩
theorem wpF_readsG {sp:Nat->Spec} {Q:Act->Facts->Prop} {o:Oper} {rest:List Oper} {k:Nat} {a:Act} {F:Facts} (hg:Region.wanted o (yielded ops a.tmps)=true) (hs:sp k=none) (u:Value)
  (hr:∀ w,Has md ops C k F w->readsUpon w u ((execOp a.eval o).run P w)) (hK:wpF P md ops C sp Q rest (k+1) (a.put o.dst u) (F.set k (fun _=>True))):wpF P md ops C sp Q (o :: rest) k a F :=
 ⟨_,_,.inl ⟨hg,.inl ⟨hs,u,rfl,rfl,hr⟩⟩,fun v hv=>by cases hv;exact hK⟩
theorem wpF_skip {sp:Nat->Spec} {Q:Act->Facts->Prop} {o:Oper} {rest:List Oper} {k:Nat} {a:Act} {F:Facts} (hg:Region.wanted o (yielded ops a.tmps)=false)
  (hK:wpF P md ops C sp Q rest (k+1) (a.put o.dst undef) (F.set k (fun _=>True))):wpF P md ops C sp Q (o :: rest) k a F :=
 ⟨_,_,.inr ⟨hg,rfl,rfl⟩,fun v hv=>by cases hv;exact hK⟩
theorem Has.world {F:Facts} {k:Nat} {w:World} (h:Has md ops C k F w):C w:=h.1
theorem Has.fact {F:Facts} {k:Nat} {w:World} (h:Has md ops C k F w) (i:Nat) (hi:Region.waitsFor md ops k i=true):F i w:=h.2 i hi
abbrev Sp:=(Value->Prop) × (Value->World->Prop)
def Sp.know (u:Value):Sp:=(fun v=>v=u,fun _ _=>True)
def Sp.made {α:Type} (val:α->Value) (Φ:α->World->Prop):Sp:=(fun v=>∃ x,v=val x,fun v w=>∃ x,v=val x/\Φ x w)
def Sp.keeps (s:Sp):Prop:=∀ v w w',s.2 v w->Below w.heap.size w w'->s.2 v w'
theorem Sp.know_keeps (u:Value):(Sp.know u).keeps:=fun _ _ _ _ _=>trivial
theorem Sp.made_keeps {α:Type} {val:α->Value} {Φ:α->World->Prop} (h:∀ x w w',Φ x w->Below w.heap.size w w'->Φ x w'):(Sp.made val Φ).keeps:=fun _ _ _ ⟨x,e,hx⟩ hb=>⟨x,e,h x _ _ hx hb⟩
def spOf:List (Nat × Sp)->Nat->Spec
 | [],_=>none
 | (k,s) :: l,i=>if i=k then some s else spOf l i
theorem spOf_nil:∀ i,(spOf [] i).keeps:=fun _=>trivial
theorem spOf_cons {k:Nat} {s:Sp} {l:List (Nat × Sp)} (hs:s.keeps) (hl:∀ i,(spOf l i).keeps):∀ i,(spOf ((k,s) :: l) i).keeps:=by
 intro i;unfold spOf;by_cases h:i=k
 ·rw[if_pos h];exact hs
 ·rw[if_neg h];exact hl i
end Go.Fresh
namespace Go.FreshG
open Go.RowKit
variable {G:World->World->Prop} {P:Program} {ops:Array Oper} {md:Region.Mode} {C:World->Prop}
abbrev Spec:=Option ((Value->Prop) × (Value->World->Prop))
def Spec.keeps (s:Spec) (G:World->World->Prop):Prop:=match s with
 | none=>True
 | some s=>∀ v w w',s.2 v w->G w w'->s.2 v w'
abbrev Facts:=Nat->World->Prop
def Facts.set (F:Facts) (k:Nat) (Φ:World->Prop):Facts:=fun i w=>if i=k then Φ w else F i w
def Facts.keeps (F:Facts) (G:World->World->Prop):Prop:=∀ i w w',F i w->G w w'->F i w'
theorem Facts.set_same (F:Facts) (k:Nat) (Φ:World->Prop) (w:World):F.set k Φ k w=Φ w:=by simp[Facts.set]
theorem Facts.set_ne (F:Facts) {i k:Nat} (h:i≠k) (Φ:World->Prop) (w:World):F.set k Φ i w=F i w:=by simp[Facts.set,h]
theorem Facts.set_comm (F:Facts) {i k:Nat} (h:i≠k) (Φ Ψ:World->Prop):(F.set k Φ).set i Ψ=(F.set i Ψ).set k Φ:=by
 funext j w;unfold Facts.set;by_cases h1:j=i
 ·by_cases h2:j=k
  ·omega
  ·simp[h1,h]
 ·simp[h1]
theorem Facts.keeps_set {F:Facts} (hF:F.keeps G) {k:Nat} {Φ:World->Prop} (hΦ:∀ w w',Φ w->G w w'->Φ w'):(F.set k Φ).keeps G:=by
 intro i w w' h hb;unfold Facts.set at *;by_cases hi:i=k
 ·simp only[hi,if_true] at h ⊢;exact hΦ _ _ h hb
 ·simp only[hi,if_false] at h ⊢;exact hF _ _ _ h hb
def readsUpon (w:World) (u:Value):Result Next->Prop
 | .ok (.value x) w'=>w'=w/\x=u
 | .ok .skip w'=>w'=w/\u=undef
 | _=>False
def givesUpon (P:Program) (G:World->World->Prop) (w:World) (Post:Value->World->Prop):Result Next->Prop
 | .ok (.value x) w'=>Post x w'/\G w w'
 | .ok (.enter f args) w'=>Calls P f args w' fun e w''=>∃ v,e=.returned v/\Post v w''/\G w w''
 | _=>False
attribute [go_sem] readsUpon givesUpon
def Has (md:Region.Mode) (ops:Array Oper) (C:World->Prop) (k:Nat) (F:Facts) (w:World):Prop:=C w/\∀ i,Region.waitsFor md ops k i=true->F i w
def Yields (P:Program) (G:World->World->Prop) (md:Region.Mode) (ops:Array Oper) (C:World->Prop) (s:Spec) (k:Nat) (o:Oper) (a:Act) (F:Facts) (V:Value->Prop) (Ψ:Value->World->Prop):Prop :=
 (Region.wanted o (yielded ops a.tmps)=true /\
  ((s=none/\∃ u,V=(fun v=>v=u)/\Ψ=(fun _ _=>True)/\∀ w,Has md ops C k F w->readsUpon w u ((execOp a.eval o).run P w)) \/
   (s=some (V,Ψ)/\∀ w,Has md ops C k F w->givesUpon P G w (fun v w'=>V v/\Ψ v w') ((execOp a.eval o).run P w)))) \/
 (Region.wanted o (yielded ops a.tmps)=false/\V=(fun v=>v=undef)/\Ψ=fun _ _=>True)
theorem Yields.uniq {s:Spec} {k:Nat} {o:Oper} {a:Act} {F:Facts} {V V':Value->Prop} {Ψ Ψ':Value->World->Prop} {w:World} (hw:Has md ops C k F w)
  (h:Yields P G md ops C s k o a F V Ψ) (h':Yields P G md ops C s k o a F V' Ψ'):V=V'/\Ψ=Ψ':=by
 rcases h with ⟨w1,h | h⟩ | ⟨w1,e1,e2⟩ <;> rcases h' with ⟨w2,h' | h'⟩ | ⟨w2,e1',e2'⟩
 ·obtain⟨_,u,rfl,rfl,hr⟩:=h;obtain⟨_,u',rfl,rfl,hr'⟩:=h';have h1:=hr w hw;have h2:=hr' w hw
  revert h1 h2
  generalize (execOp a.eval o).run P w=r
  intro h1 h2
  have e:u=u':=by
   cases r with
   | ok n w' =>
    cases n <;> simp only[readsUpon] at h1 h2
    ·rw[<- h1.2,h2.2]
    ·rw[h1.2,h2.2]
   | halt x w'=>simp only[readsUpon] at h1
  rw[e];exact⟨rfl,rfl⟩
 ·rw[h.1] at h';cases h'.1
 ·rw[w1] at w2;cases w2
 ·rw[h'.1] at h;cases h.1
 ·have:=h.1.symm.trans h'.1;simp only[Option.some.injEq,Prod.mk.injEq] at this;exact this
 ·rw[w1] at w2;cases w2
 ·rw[w1] at w2;cases w2
 ·rw[w1] at w2;cases w2
 ·exact⟨e1.trans e1'.symm,e2.trans e2'.symm⟩
theorem Yields.keeps {s:Spec} {k:Nat} {o:Oper} {a:Act} {F:Facts} {V:Value->Prop} {Ψ:Value->World->Prop} (hs:s.keeps G)
  (h:Yields P G md ops C s k o a F V Ψ):∀ v w w',Ψ v w->G w w'->Ψ v w':=by
 rcases h with ⟨_,⟨_,u,rfl,rfl,_⟩ | ⟨rfl,_⟩⟩ | ⟨_,rfl,rfl⟩
 ·exact fun _ _ _ _ _=>trivial
 ·exact hs
 ·exact fun _ _ _ _ _=>trivial
theorem keep_all {F:Facts} (hF:F.keeps G) {k:Nat} {Φ:World->Prop} {w w':World} (hw:∀ i,F i w) (hb:G w w') (hΦ:Φ w'):∀ i,F.set k Φ i w':=by
 intro i;unfold Facts.set;by_cases hi:i=k
 ·simp only[hi,if_true];exact hΦ
 ·simp only[hi,if_false];exact hF _ _ _ (hw i) hb
theorem Yields.run {s:Spec} {k:Nat} {o:Oper} {a:Act} {F:Facts} {V:Value->Prop} {Ψ:Value->World->Prop} {w:World}
  (hCg:(∀ w,G w w)/\∀ w w',C w->G w w'->C w') (hF:F.keeps G) (hw:C w) (hFw:∀ i,F i w) (h:Yields P G md ops C s k o a F V Ψ) :
  ∃ v w',V v/\C w'/\∀ i,F.set k (Ψ v) i w':=by
 have hH:Has md ops C k F w:=⟨hw,fun i _=>hFw i⟩
 rcases h with ⟨_,⟨_,u,rfl,rfl,_⟩ | ⟨rfl,hg⟩⟩ | ⟨_,rfl,rfl⟩
 ·exact⟨u,w,rfl,hw,keep_all hF hFw (hCg.1 _) trivial⟩
 ·have h1:=hg w hH
  revert h1
  generalize (execOp a.eval o).run P w=r
  intro h1
  cases r with
  | ok n w' =>
   cases n <;> simp only[givesUpon] at h1
   case value x=>exact⟨x,w',h1.1.1,hCg.2 _ _ hw h1.2,keep_all hF hFw h1.2 h1.1.2⟩
   case enter f args =>
    obtain⟨e,w'',fr,⟨v,rfl,hp,hb⟩,_⟩:=h1 []
    exact⟨v,w'',hp.1,hCg.2 _ _ hw hb,keep_all hF hFw hb hp.2⟩
  | halt x w'=>simp only[givesUpon] at h1
 ·exact⟨undef,w,rfl,hw,keep_all hF hFw (hCg.1 _) trivial⟩
def Sat (C:World->Prop) (F:Facts):Prop:=∃ w,C w/\∀ i,F i w
def fOp (P:Program) (G:World->World->Prop) (md:Region.Mode) (ops:Array Oper) (C:World->Prop) (sp:Nat->Spec) (i:Nat) (K:Act->(World->Prop)->Prop) (a:Act) (F:Facts):Prop :=
 ∃ o V Ψ,ops[i]?=some o/\Yields P G md ops C (sp i) i o a F V Ψ/\∀ v,V v->K (a.put o.dst v) (Ψ v)
def wpAnyF (P:Program) (G:World->World->Prop) (md:Region.Mode) (ops:Array Oper) (C:World->Prop) (sp:Nat->Spec) (n:Nat) (L:Array Bool->Act->Facts->Prop):Nat->Array Bool->Act->Facts->Prop
 | 0,listed,a,F=>Sat C F->L listed a F
 | f+1,listed,a,F=>Sat C F->Region.ready md ops listed≠[] /\
   ∀ i∈Region.ready md ops listed,i<n/\fOp P G md ops C sp i (fun a' Φ=>wpAnyF P G md ops C sp n L f (listed.setIfInBounds i true) a' (F.set i Φ)) a F
theorem wpAnyF_guard {sp:Nat->Spec} {n:Nat} {L:Array Bool->Act->Facts->Prop} {f:Nat} {listed:Array Bool} {a:Act} {F:Facts}
  (h:Sat C F->wpAnyF P G md ops C sp n L f listed a F):wpAnyF P G md ops C sp n L f listed a F:=by
 cases f with
 | zero=>exact fun hs=>h hs hs
 | succ f=>exact fun hs=>h hs hs
theorem wpOp_of_fOp {sp:Nat->Spec} {i:Nat} {a:Act} {F:Facts} {K:Act->(World->Prop)->Prop} {K':Act->World->Prop} {Q':Exit->Act->World->Prop} {w:World}
  (hsp:∀ i,(sp i).keeps G) (hCg:(∀ w,G w w)/\∀ w w',C w->G w w'->C w') (hF:F.keeps G) (hw:C w) (hFw:∀ i,F i w)
  (h:∀ a' Φ w',C w'->(F.set i Φ).keeps G->(∀ j,F.set i Φ j w')->K a' Φ->K' a' w') (hh:fOp P G md ops C sp i K a F):wpOp P ops Q' i K' a w:=by
 obtain⟨o,V,Ψ,ho,hY,hK⟩:=hh;have hH:Has md ops C i F w:=⟨hw,fun i _=>hFw i⟩
 have hkeep:=fun v=>Facts.keeps_set hF (k:=i) (hY.keeps (hsp i) v)
 unfold wpOp;simp only[ho]
 rcases hY with ⟨hwd,⟨_,u,rfl,rfl,hr⟩ | ⟨_,hg⟩⟩ | ⟨hwd,rfl,rfl⟩
 ·simp only[hwd,if_true];refine .inl ?_;have h1:=hr w hH;unfold Oper.wp
  revert h1
  generalize (execOp a.eval o).run P w=r
  intro h1
  cases r with
  | ok n w' =>
   cases n <;> simp only[readsUpon] at h1 <;> simp only[Oper.upon]
   case value x =>
    obtain⟨rfl,rfl⟩:=h1;exact h _ _ _ hw (hkeep x) (keep_all hF hFw (hCg.1 _) trivial) (hK _ rfl)
   case skip =>
    obtain⟨rfl,rfl⟩:=h1
    exact h _ _ _ hw (hkeep undef) (keep_all hF hFw (hCg.1 _) trivial) (hK _ rfl)
  | halt x w'=>simp only[readsUpon] at h1
 ·simp only[hwd,if_true];refine .inl ?_;have h1:=hg w hH;unfold Oper.wp
  revert h1
  generalize (execOp a.eval o).run P w=r
  intro h1
  cases r with
  | ok n w' =>
   cases n <;> simp only[givesUpon] at h1 <;> simp only[Oper.upon]
   case value x=>exact h _ _ _ (hCg.2 _ _ hw h1.2) (hkeep x) (keep_all hF hFw h1.2 h1.1.2) (hK _ h1.1.1)
   case enter f args =>
    refine h1.mono fun e w'' hp=>?_
    obtain⟨v,rfl,hp,hb⟩:=hp
    exact h _ _ _ (hCg.2 _ _ hw hb) (hkeep v) (keep_all hF hFw hb hp.2) (hK _ hp.1)
  | halt x w'=>simp only[givesUpon] at h1
 ·simp only[hwd,Bool.false_eq_true,if_false];exact h _ _ _ hw (hkeep undef) (keep_all hF hFw (hCg.1 _) trivial) (hK _ rfl)
theorem wpAny_of_headF {sp:Nat->Spec} {n g:Nat} {L:Array Bool->Act->Facts->Prop} {Q':Exit->Act->World->Prop}
  (hsp:∀ i,(sp i).keeps G) (hCg:(∀ w,G w w)/\∀ w w',C w->G w w'->C w')
  (hL:∀ listed a F w,C w->(∀ i,F i w)->L listed a F->wpAny P md ops Q' g listed a w) :
  ∀ (f:Nat) (listed:Array Bool) (a:Act) (F:Facts) (w:World),F.keeps G->C w->(∀ i,F i w)->wpAnyF P G md ops C sp n L f listed a F->wpAny P md ops Q' (f+g) listed a w
 | 0,listed,a,F,w,hF,hw,hFw,h=>by rw[Nat.zero_add];exact hL _ _ _ _ hw hFw (h ⟨w,hw,hFw⟩)
 | f+1,listed,a,F,w,hF,hw,hFw,h=>by
  rw[show f+1+g=(f+g)+1 by omega];have h1:=h ⟨w,hw,hFw⟩;exact⟨fun h0=>absurd h0 h1.1,fun i hi=>wpOp_of_fOp hsp hCg hF hw hFw (fun a' Φ w' hw' hF' hFw' h'=>wpAny_of_headF hsp hCg hL f _ a' _ w' hF' hw' hFw' h') (h1.2 i hi).2⟩
theorem Yields.of_same {s:Spec} {k:Nat} {o:Oper} {a a':Act} {F F':Facts} {V:Value->Prop} {Ψ:Value->World->Prop} (h:Yields P G md ops C s k o a F V Ψ)
  (he:execOp a'.eval o=execOp a.eval o) (hwd:Region.wanted o (yielded ops a'.tmps)=Region.wanted o (yielded ops a.tmps)) (hF:∀ w,Has md ops C k F' w->Has md ops C k F w) :
  Yields P G md ops C s k o a' F' V Ψ:=by
 unfold Yields at *;rw[he,hwd]
 rcases h with ⟨w1,⟨e,u,e1,e2,h⟩ | ⟨e,h⟩⟩ | h
 ·exact .inl ⟨w1,.inl ⟨e,u,e1,e2,fun w hw=>h w (hF w hw)⟩⟩
 ·exact .inl ⟨w1,.inr ⟨e,fun w hw=>h w (hF w hw)⟩⟩
 ·exact .inr h
theorem not_waits {k i:Nat} {o:Oper} (ho:ops[k]?=some o) (h:∀ e∈o.after,Region.binds md e=true->e.on≠i):Region.waitsFor md ops k i=false:=by
 cases hb:Region.waitsFor md ops k i with
 | false=>rfl
 | true =>
  obtain⟨o',ho',e,he,hb,hon⟩:=Region.waitsFor_spec hb;have:o'=o:=Option.some.inj (ho'.symm.trans ho);subst this;exact absurd hon (h e he hb)
theorem Has.of_set {F:Facts} {k i:Nat} {Φ:World->Prop} {w:World} (hn:Region.waitsFor md ops k i=false) (h:Has md ops C k (F.set i Φ) w):Has md ops C k F w:=by
 refine⟨h.1,fun j hj=>?_⟩
 have hji:j≠i:=fun e=>by rw[e,hn] at hj;cases hj
 have:=h.2 j hj;rwa [Facts.set_ne F hji] at this
theorem Has.to_set {F:Facts} {k i:Nat} {Φ:World->Prop} {w:World} (hn:Region.waitsFor md ops k i=false) (h:Has md ops C k F w):Has md ops C k (F.set i Φ) w:=by
 refine⟨h.1,fun j hj=>?_⟩
 have hji:j≠i:=fun e=>by rw[e,hn] at hj;cases hj
 rw[Facts.set_ne F hji];exact h.2 j hj
theorem wpAnyF_first {sp:Nat->Spec} {n i:Nat} {oi:Oper} {L:Array Bool->Act->Facts->Prop} (hsp:∀ i,(sp i).keeps G) (hCg:(∀ w,G w w)/\∀ w w',C w->G w w'->C w')
  (hi:ops[i]?=some oi) (hsel:∀ (j:Nat) (o:Oper) cs b,ops[j]?=some o->o.op≠.select cs b)
  (hs:Region.sinkB md ops n=true) (hc:Region.chainB md ops n=true) (hn:n<ops.size) (hin:i<n)
  (hdone:∀ listed a F,L listed a F->∀ j∈Region.ready md ops listed,n<=j) {V:Value->Prop} {Ψ:Value->World->Prop} :
  ∀ (f:Nat) (listed:Array Bool) (a:Act) (F:Facts),HeadInv md ops n listed->F.keeps G->(∀ k,listed.getD k false=false->∀ w,F k w) ->
   (∀ j oj,ops[j]?=some oj->j≠i->listed.getD j true=false->(∀ e∈oj.after,Region.binds md e=true->e.on≠i)->oi.apart ops oj=true) ->
   i∈Region.ready md ops listed->Yields P G md ops C (sp i) i oi a F V Ψ ->
   (∀ v,V v->wpAnyF P G md ops C sp n L f (listed.setIfInBounds i true) (a.put oi.dst v) (F.set i (Ψ v)))->wpAnyF P G md ops C sp n L (f+1) listed a F:=by
 intro f
 induction f with
 | zero =>
  intro listed a F inv hF hFt _ hr hy H hsat;have hun:=(mem_ready.1 hr).1;obtain⟨w,hw,hFw⟩:=hsat;obtain⟨v,w',hv,hw',hFw'⟩:=hy.run hCg hF hw hFw;have H0:=H v hv ⟨w',hw',hFw'⟩;refine⟨fun h=>(by rw[h] at hr;cases hr),fun j hj=>?_⟩
  have hjn:j<n:=by
   rcases Nat.lt_or_ge j n with h | h
   ·exact h
   ·exact absurd hj (tail_waits hs hc hn inv _ i rfl hin hun j h)
  refine⟨hjn,?_⟩;by_cases hji:j=i
  ·subst hji;exact⟨oi,V,Ψ,hi,hy,H⟩
  ·have:=hdone _ _ _ H0 j (ready_mono hj hji)
   omega
 | succ f ih =>
  intro listed a F inv hF hFt hfree hr hy H hsat;have hun:=(mem_ready.1 hr).1;obtain⟨w,hw,hFw⟩:=hsat;obtain⟨v0,w0,hv0,hw0,hFw0⟩:=hy.run hCg hF hw hFw;have H0:=H v0 hv0 ⟨w0,hw0,hFw0⟩;refine⟨fun h=>(by rw[h] at hr;cases hr),fun j hj=>?_⟩
  have hjn:j<n:=by
   rcases Nat.lt_or_ge j n with h | h
   ·exact h
   ·exact absurd hj (tail_waits hs hc hn inv _ i rfl hin hun j h)
  refine⟨hjn,?_⟩;by_cases hji:j=i
  ·subst hji;exact⟨oi,V,Ψ,hi,hy,H⟩
  ·obtain⟨hjun,oj,hoj,hall⟩:=mem_ready.1 hj
   have hnot:∀ e∈oj.after,Region.binds md e=true->e.on≠i:=fun e he hb heq=>by
    have h1:=hall e he hb;rw[heq,getD_both hun] at h1
    cases h1
   have hwji:=not_waits (md:=md) hoj hnot
   have hwij:Region.waitsFor md ops i j=false:=by
    obtain⟨_,o',ho',hall'⟩:=mem_ready.1 hr
    refine not_waits ho' fun e he hb heq=>?_
    have h1:=hall' e he hb;rw[heq,getD_both hjun] at h1
    cases h1
   have hap:=hfree j oj hoj hji hjun hnot;obtain⟨p1,p2,p3⟩:=Oper.apart_spec hap
   have back:∀ (v:Value) {V':Value->Prop} {Ψ':Value->World->Prop},Yields P G md ops C (sp j) j oj (a.put oi.dst v) (F.set i (Ψ v)) V' Ψ'->Yields P G md ops C (sp j) j oj a F V' Ψ':=fun v _ _ h =>
    h.of_same (execOp_put oj (hsel j oj · · hoj) a oi.dst v p1).symm (wanted_put oj a oi.dst v p1).symm (fun _ h=>h.to_set hwji)
   obtain⟨oj',Vj,Ψj,hoj',hYj,_⟩:=(H0.2 j (ready_mono hj hji)).2;obtain rfl:oj'=oj:=Option.some.inj (hoj'.symm.trans hoj);have hYj0:=back v0 hYj;refine⟨oj',Vj,Ψj,hoj,hYj0,fun vj hvj=>?_⟩
   have hun':(listed.setIfInBounds j true).getD i true=false:=by rw[getD_set_ne true hji];exact hun
   refine ih (listed.setIfInBounds j true) (a.put oj'.dst vj) (F.set j (Ψj vj)) (inv.set hj hjn) (Facts.keeps_set hF (hYj0.keeps (hsp j) vj)) (fun k hk w=>?_) (fun k ok hk hki hun hno=>?_) (ready_mono hr (Ne.symm hji))
    (hy.of_same (execOp_put oi (hsel i oi · · hi) a oj'.dst vj p3) (wanted_put oi a oj'.dst vj p3) (fun _ h=>h.of_set hwij)) (fun v hv=>wpAnyF_guard fun hsat2=>?_)
   ·have hkj:k≠j:=fun e=>by
     subst e
     have hlt:k<listed.size:=by
      rcases Nat.lt_or_ge k listed.size with h' | h'
      ·exact h'
      ·simp[Array.getElem?_eq_none h'] at hjun
     simp[hlt] at hk
    rw[Facts.set_ne F hkj];rw[getD_set_ne false (Ne.symm hkj)] at hk;exact hFt k hk w
   ·refine hfree k ok hk hki ?_ hno;by_cases hjk:j=k
    ·subst hjk;exact hjun
    ·rw[getD_set_ne true hjk] at hun;exact hun
   ·obtain⟨w2,hw2,hF2⟩:=hsat2
    have hsat3:Sat C (F.set i (Ψ v)):=⟨w2,hw2,fun k=>by
     by_cases hk:k=i
     ·subst hk;have:=hF2 k;rw[Facts.set_same] at this ⊢;exact this
     ·rw[Facts.set_ne F hk];by_cases hkj:k=j
      ·subst hkj;exact hFt k (getD_both hjun) w2
      ·have:=hF2 k;rw[Facts.set_ne _ hk,Facts.set_ne _ hkj] at this
       exact this⟩
    obtain⟨oj2,Vj2,Ψj2,hoj2,hYj2,hK2⟩:=((H v hv hsat3).2 j (ready_mono hj hji)).2;obtain rfl:oj2=oj':=Option.some.inj (hoj2.symm.trans hoj);obtain⟨rfl,rfl⟩:=(back v hYj2).uniq ⟨hw,fun k _=>hFw k⟩ hYj0;have h3:=hK2 vj hvj;rw[Array.setIfInBounds_comm _ _ hji,Facts.set_comm F (Ne.symm hji),<- Act.put_comm a v vj p2];exact h3
def wpF (P:Program) (G:World->World->Prop) (md:Region.Mode) (ops:Array Oper) (C:World->Prop) (sp:Nat->Spec) (Q:Act->Facts->Prop):List Oper->Nat->Act->Facts->Prop
 | [],_,a,F=>Q a F
 | o :: rest,k,a,F=>∃ V Ψ,Yields P G md ops C (sp k) k o a F V Ψ/\∀ v,V v->wpF P G md ops C sp Q rest (k+1) (a.put o.dst v) (F.set k (Ψ v))
theorem wpAnyF_lex {sp:Nat->Spec} {n g:Nat} {Lq:Act->Facts->Prop} (hsp:∀ i,(sp i).keeps G) (hCg:(∀ w,G w w)/\∀ w w',C w->G w w'->C w')
  (hsel:Region.noSelect ops=true) (hs:Region.sinkB md ops n=true) (hc:Region.chainB md ops n=true) (hn:n<ops.size) :
  ∀ (l:List Oper) (k:Nat) (listed:Array Bool) (a:Act) (F:Facts),(∀ j,j<l.length->l[j]?=ops[k+j]?)->k+l.length=n->HeadInv md ops n listed->F.keeps G->(∀ k,listed.getD k false=false->∀ w,F k w) ->
  Region.lexHead md ops g l.length k listed=true->wpF P G md ops C sp Lq l k a F ->
  wpAnyF P G md ops C sp n (fun listed' a' F'=>Region.seqB md ops g n listed'=true/\Lq a' F') l.length listed a F
 | [],k,listed,a,F,_,hk,_,_,_,hB,h=>by
  have:k=n:=by simpa using hk
  subst this
  exact fun _=>⟨by simpa[Region.lexHead] using hB,h⟩
 | o :: l,k,listed,a,F,hl,hk,inv,hF,hFt,hB,h=>by
  have h0:ops[k]?=some o:=by simpa using (hl 0 (by simp)).symm
  simp only[List.length_cons,Region.lexHead,Bool.and_eq_true] at hB;obtain⟨⟨hr,hf⟩,hB'⟩:=hB
  have hkn:k<n:=by simp only[List.length_cons] at hk;omega
  have hr':k∈Region.ready md ops listed:=by simpa using hr
  obtain⟨V,Ψ,hY,hK⟩:=h
  refine wpAnyF_first hsp hCg h0 (Region.noSelect_spec hsel) hs hc hn hkn (fun listed' a' _ hL=>seqB_ready hL.1) l.length listed a F inv hF hFt (Region.free_spec h0 hf) hr' hY fun v hv=>?_
  refine wpAnyF_lex hsp hCg hsel hs hc hn l (k+1) _ _ _ (fun j hj=>by have:=hl (j+1) (by simp;omega);simpa[Nat.add_assoc,Nat.add_comm 1 j] using this) (by simp only[List.length_cons] at hk;omega) (inv.set hr' hkn)
   (Facts.keeps_set hF (hY.keeps (hsp k) v)) (fun j hj w=>?_) hB' (hK v hv)
  have hjk:j≠k:=fun e=>by
   subst e
   have hlt:j<listed.size:=by rw[inv.size];omega
   simp[hlt] at hj
  rw[Facts.set_ne F hjk];rw[getD_set_ne false (Ne.symm hjk)] at hj;exact hFt j hj w
theorem wp_region_fresh {id:Nat} {Q:Exit->Act->World->Prop} {a:Act} {w:World} {l:List Oper} (n:Nat) (sp:Nat->Spec) (C:World->Prop) (hm:P.follows .mixedOrders=true) (hB:Region.lexTailB .any l.toArray n=true)
  (hsp:∀ i,(sp i).keeps G) (hCg:(∀ w,G w w)/\∀ w w',C w->G w w'->C w') (hC0:C { w with drawn:=w.drawn+1 })
  (h:wpF P G .any l.toArray C sp (fun a' F=>∀ w',C w'->(∀ i,F i w')->wpList P l.toArray Q (l.drop n) a' w') (l.take n) 0 a (fun _ _=>True)):(Code.region id l.toArray true).wp P Q a w:=by
 simp only[Region.lexTailB,Bool.and_eq_true,decide_eq_true_eq] at hB;obtain⟨⟨⟨⟨hsel,hn⟩,hs⟩,hc⟩,hlex⟩:=hB
 have hn':n<l.length:=by simpa using hn
 have htl:(l.take n).length=n:=by simp;omega
 have hdl:(l.drop n).length=l.toArray.size-n:=by simp
 have inv0:HeadInv .any l.toArray n (Array.replicate l.toArray.size false) :=
  ⟨by simp,fun j oj _ hl=>(by rw[getD_replicate_false] at hl;cases hl),fun t _ ht=>getD_in (by simpa using ht) (getD_replicate_false _ _)⟩
 have H:=wpAnyF_lex (P:=P) (md:=.any) (C:=C) (g:=l.toArray.size-n) hsp hCg hsel hs hc hn (l.take n) 0 _ a (fun _ _=>True) (fun j hj=>by
  have hj':j<n:=by rw[htl] at hj;exact hj
  simp[hj']) (by simpa using htl) inv0 (fun _ _ _ _ _=>trivial) (fun _ _ _=>trivial) (by rw[htl];exact hlex) h
 refine wp_region_any hm ?_
 have:=wpAny_of_headF (Q':=Q) (g:=l.toArray.size-n) hsp hCg (fun listed a' F w' hw' hF' hL=>by
  have:=wpAny_of_seq (md:=.any) (Q':=Q) (l.drop n) n listed a' w' (fun j=>by simp[List.getElem?_drop]) (by rw[hdl];exact hL.1) (hL.2 w' hw' hF')
  rwa [hdl] at this) _ _ _ _ _ (fun _ _ _ _ _=>trivial) hC0 (fun _=>trivial) H
 rw[htl,show n+(l.toArray.size-n)=l.toArray.size by omega] at this;exact this
theorem wpF_nil {sp:Nat->Spec} {Q:Act->Facts->Prop} {k:Nat} {a:Act} {F:Facts} (h:Q a F):wpF P G md ops C sp Q [] k a F:=h
theorem wpF_reads {sp:Nat->Spec} {Q:Act->Facts->Prop} {o:Oper} {rest:List Oper} {k:Nat} {a:Act} {F:Facts} (hg:o.guard=none) (hs:sp k=none) (u:Value)
  (hr:∀ w,Has md ops C k F w->readsUpon w u ((execOp a.eval o).run P w)) (hK:wpF P G md ops C sp Q rest (k+1) (a.put o.dst u) (F.set k (fun _=>True))):wpF P G md ops C sp Q (o :: rest) k a F :=
 ⟨_,_,.inl ⟨by simp[Region.wanted,hg],.inl ⟨hs,u,rfl,rfl,hr⟩⟩,fun v hv=>by cases hv;exact hK⟩
theorem wpF_spec {sp:Nat->Spec} {Q:Act->Facts->Prop} {o:Oper} {rest:List Oper} {k:Nat} {a:Act} {F:Facts} (hg:o.guard=none) {V:Value->Prop} {Ψ:Value->World->Prop} (hs:sp k=some (V,Ψ))
  (hr:∀ w,Has md ops C k F w->givesUpon P G w (fun v w'=>V v/\Ψ v w') ((execOp a.eval o).run P w)) (hK:∀ v,V v->wpF P G md ops C sp Q rest (k+1) (a.put o.dst v) (F.set k (Ψ v))):wpF P G md ops C sp Q (o :: rest) k a F :=
 ⟨V,Ψ,.inl ⟨by simp[Region.wanted,hg],.inr ⟨hs,hr⟩⟩,hK⟩
theorem Has.world {F:Facts} {k:Nat} {w:World} (h:Has md ops C k F w):C w:=h.1
theorem Has.fact {F:Facts} {k:Nat} {w:World} (h:Has md ops C k F w) (i:Nat) (hi:Region.waitsFor md ops k i=true):F i w:=h.2 i hi
abbrev Sp:=(Value->Prop) × (Value->World->Prop)
def Sp.made {α:Type} (val:α->Value) (Φ:α->World->Prop):Sp:=(fun v=>∃ x,v=val x,fun v w=>∃ x,v=val x/\Φ x w)
def Sp.keeps (s:Sp) (G:World->World->Prop):Prop:=∀ v w w',s.2 v w->G w w'->s.2 v w'
theorem Sp.made_keeps {α:Type} {val:α->Value} {Φ:α->World->Prop} (h:∀ x w w',Φ x w->G w w'->Φ x w'):(Sp.made val Φ).keeps G:=fun _ _ _ ⟨x,e,hx⟩ hb=>⟨x,e,h x _ _ hx hb⟩
def spOf:List (Nat × Sp)->Nat->Spec
 | [],_=>none
 | (k,s) :: l,i=>if i=k then some s else spOf l i
theorem spOf_nil:∀ i,(spOf [] i).keeps G:=fun _=>trivial
theorem spOf_cons {k:Nat} {s:Sp} {l:List (Nat × Sp)} (hs:s.keeps G) (hl:∀ i,(spOf l i).keeps G):∀ i,(spOf ((k,s) :: l) i).keeps G:=by
 intro i;unfold spOf;by_cases h:i=k
 ·rw[if_pos h];exact hs
 ·rw[if_neg h];exact hl i
end Go.FreshG
namespace Go.FreshH
open Go.RowKit
variable {G:World->World->Prop} {P:Program} {ops:Array Oper} {md:Region.Mode} {C:World->Prop}
abbrev Spec:=Option ((Value->Prop) × (Value->World->Prop))
def Spec.keeps (s:Spec) (G:World->World->Prop):Prop:=match s with
 | none=>True
 | some s=>∀ v w w',s.2 v w->G w w'->s.2 v w'
abbrev Facts:=Nat->World->Prop
def Facts.set (F:Facts) (k:Nat) (Φ:World->Prop):Facts:=fun i w=>if i=k then Φ w else F i w
def Facts.keeps (F:Facts) (G:World->World->Prop):Prop:=∀ i w w',F i w->G w w'->F i w'
def readsUpon (w:World) (u:Value):Result Next->Prop
 | .ok (.value x) w'=>w'=w/\x=u
 | .ok .skip w'=>w'=w/\u=undef
 | _=>False
def givesUpon (P:Program) (G:World->World->Prop) (w:World) (Post:Value->World->Prop):Result Next->Prop
 | .ok (.value x) w'=>Post x w'/\G w w'
 | .ok .skip w'=>Post undef w'/\G w w'
 | .ok (.enter f args) w'=>Calls P f args w' fun e w''=>∃ v,e=.returned v/\Post v w''/\G w w''
 | _=>False
attribute [go_sem] readsUpon givesUpon
def Has (md:Region.Mode) (ops:Array Oper) (C:World->Prop) (k:Nat) (F:Facts) (w:World):Prop:=C w/\∀ i,Region.waitsFor md ops k i=true->F i w
def Yields (P:Program) (G:World->World->Prop) (md:Region.Mode) (ops:Array Oper) (C:World->Prop) (s:Spec) (k:Nat) (o:Oper) (a:Act) (F:Facts) (V:Value->Prop) (Ψ:Value->World->Prop):Prop :=
 (Region.wanted o (yielded ops a.tmps)=true /\
  ((s=none/\∃ u,V=(fun v=>v=u)/\Ψ=(fun _ _=>True)/\∀ w,Has md ops C k F w->readsUpon w u ((execOp a.eval o).run P w)) \/
   (s=some (V,Ψ)/\∀ w,Has md ops C k F w->givesUpon P G w (fun v w'=>V v/\Ψ v w') ((execOp a.eval o).run P w)))) \/
 (Region.wanted o (yielded ops a.tmps)=false/\V=(fun v=>v=undef)/\Ψ=fun _ _=>True)
theorem Yields.uniq {s:Spec} {k:Nat} {o:Oper} {a:Act} {F:Facts} {V V':Value->Prop} {Ψ Ψ':Value->World->Prop} {w:World} (hw:Has md ops C k F w)
  (h:Yields P G md ops C s k o a F V Ψ) (h':Yields P G md ops C s k o a F V' Ψ'):V=V'/\Ψ=Ψ':=by
 rcases h with ⟨w1,h | h⟩ | ⟨w1,e1,e2⟩ <;> rcases h' with ⟨w2,h' | h'⟩ | ⟨w2,e1',e2'⟩
 ·obtain⟨_,u,rfl,rfl,hr⟩:=h;obtain⟨_,u',rfl,rfl,hr'⟩:=h';have h1:=hr w hw;have h2:=hr' w hw
  revert h1 h2
  generalize (execOp a.eval o).run P w=r
  intro h1 h2
  have e:u=u':=by
   cases r with
   | ok n w' =>
    cases n <;> simp only[readsUpon] at h1 h2
    ·rw[<- h1.2,h2.2]
    ·rw[h1.2,h2.2]
   | halt x w'=>simp only[readsUpon] at h1
  rw[e];exact⟨rfl,rfl⟩
 ·rw[h.1] at h';cases h'.1
 ·rw[w1] at w2;cases w2
 ·rw[h'.1] at h;cases h.1
 ·have:=h.1.symm.trans h'.1;simp only[Option.some.injEq,Prod.mk.injEq] at this;exact this
 ·rw[w1] at w2;cases w2
 ·rw[w1] at w2;cases w2
 ·rw[w1] at w2;cases w2
 ·exact⟨e1.trans e1'.symm,e2.trans e2'.symm⟩
theorem Yields.keeps {s:Spec} {k:Nat} {o:Oper} {a:Act} {F:Facts} {V:Value->Prop} {Ψ:Value->World->Prop} (hs:s.keeps G)
  (h:Yields P G md ops C s k o a F V Ψ):∀ v w w',Ψ v w->G w w'->Ψ v w':=by
 rcases h with ⟨_,⟨_,u,rfl,rfl,_⟩ | ⟨rfl,_⟩⟩ | ⟨_,rfl,rfl⟩
 ·exact fun _ _ _ _ _=>trivial
 ·exact hs
 ·exact fun _ _ _ _ _=>trivial
theorem keep_all {F:Facts} (hF:F.keeps G) {k:Nat} {Φ:World->Prop} {w w':World} (hw:∀ i,F i w) (hb:G w w') (hΦ:Φ w'):∀ i,F.set k Φ i w':=by
 intro i;unfold Facts.set;by_cases hi:i=k
 ·simp only[hi,if_true];exact hΦ
 ·simp only[hi,if_false];exact hF _ _ _ (hw i) hb
theorem Yields.run {s:Spec} {k:Nat} {o:Oper} {a:Act} {F:Facts} {V:Value->Prop} {Ψ:Value->World->Prop} {w:World}
  (hCg:(∀ w,G w w)/\∀ w w',C w->G w w'->C w') (hF:F.keeps G) (hw:C w) (hFw:∀ i,F i w) (h:Yields P G md ops C s k o a F V Ψ) :
  ∃ v w',V v/\C w'/\∀ i,F.set k (Ψ v) i w':=by
 have hH:Has md ops C k F w:=⟨hw,fun i _=>hFw i⟩
 rcases h with ⟨_,⟨_,u,rfl,rfl,_⟩ | ⟨rfl,hg⟩⟩ | ⟨_,rfl,rfl⟩
 ·exact⟨u,w,rfl,hw,keep_all hF hFw (hCg.1 _) trivial⟩
 ·have h1:=hg w hH
  revert h1
  generalize (execOp a.eval o).run P w=r
  intro h1
  cases r with
  | ok n w' =>
   cases n <;> simp only[givesUpon] at h1
   case value x=>exact⟨x,w',h1.1.1,hCg.2 _ _ hw h1.2,keep_all hF hFw h1.2 h1.1.2⟩
   case skip=>exact⟨undef,w',h1.1.1,hCg.2 _ _ hw h1.2,keep_all hF hFw h1.2 h1.1.2⟩
   case enter f args =>
    obtain⟨e,w'',fr,⟨v,rfl,hp,hb⟩,_⟩:=h1 []
    exact⟨v,w'',hp.1,hCg.2 _ _ hw hb,keep_all hF hFw hb hp.2⟩
  | halt x w'=>simp only[givesUpon] at h1
 ·exact⟨undef,w,rfl,hw,keep_all hF hFw (hCg.1 _) trivial⟩
abbrev Sp:=(Value->Prop) × (Value->World->Prop)
def Sp.keeps (s:Sp) (G:World->World->Prop):Prop:=∀ v w w',s.2 v w->G w w'->s.2 v w'
end Go.FreshH
namespace Go.FS
open Go.RowKit
variable {P:Program} {ops:Array Oper} {md:Region.Mode} {C:World->Prop} {rel:Nat->Option Nat}
structure Fact where
 fact:World->Prop
 own:Nat->Prop
def Fact.none:Fact:=⟨fun _=>True,fun _=>False⟩
structure Shaped (w w':World):Prop where
 size:w.heap.size<=w'.heap.size
 shape:∀ (k:Nat) c T,w.heap[k]?=some (.cells c T (0,0))->∃ c',w'.heap[k]?=some (.cells c' T (0,0))/\c'.size=c.size
theorem Shaped.refl (w:World):Shaped w w:=⟨zj,fun k c T h=>⟨c,h,rfl⟩⟩
theorem Shaped.of {w w':World} (h:Below w.heap.size w w'):Shaped w w':=⟨h.size,fun k c T hk=>⟨c,(h.block k (Array.getElem?_eq_some_iff.1 hk).1).trans hk,rfl⟩⟩
def Storing (ops:Array Oper) (T:TypeId):Prop:=∃ (k:Nat) (o:Oper) (p v:Operand),ops[k]?=some o/\o.op=.store T p v
def Changed (ops:Array Oper) (w w':World):Prop:=∀ b,b<w.heap.size->w'.heap[b]?=w.heap[b]?\/∃ c T,w'.heap[b]?=some (.cells c T (0,0))/\Storing ops T
structure Fact.Good (ops:Array Oper) (rel:Nat->Option Nat) (k:Nat) (Φ:Fact):Prop where
 keep:∀ w w',Φ.fact w->Shaped w w'->(∀ b,Φ.own b->w'.heap[b]?=w.heap[b]?)->Changed ops w w'->Φ.fact w'
 free:∀ k',rel k'=some k->∀ w w',Φ.fact w->Shaped w w'->Φ.fact w'
theorem Fact.none_good (ops:Array Oper) (rel:Nat->Option Nat) (k:Nat):Fact.none.Good ops rel k:=⟨fun _ _ _ _ _ _=>trivial,fun _ _ _ _ _ _=>trivial⟩
abbrev Spec:=Option ((Value->Prop) × (Value->Fact))
def Spec.keeps (ops:Array Oper) (rel:Nat->Option Nat) (k:Nat) (s:Spec):Prop:=match s with
 | none=>True
 | some s=>∀ v,(s.2 v).Good ops rel k
abbrev Facts:=Nat->Fact
def Facts.put (F:Facts) (k:Nat) (r:Option Nat) (Φ:Fact):Facts:=fun i=>if i=k then Φ else if r=some i then ⟨(F i).fact,fun _=>False⟩ else F i
def Facts.keeps (ops:Array Oper) (rel:Nat->Option Nat) (F:Facts):Prop:=∀ i,(F i).Good ops rel i
theorem Facts.put_same (F:Facts) (k:Nat) (r:Option Nat) (Φ:Fact):F.put k r Φ k=Φ:=by simp[Facts.put]
theorem Facts.put_ne (F:Facts) {i k:Nat} (h:i≠k) {r:Option Nat} (hr:r≠some i) (Φ:Fact):F.put k r Φ i=F i:=by simp[Facts.put,h,hr]
theorem Facts.put_rel (F:Facts) {i k:Nat} (h:i≠k) (Φ:Fact):F.put k (some i) Φ i=⟨(F i).fact,fun _=>False⟩:=by simp[Facts.put,h]
theorem Facts.put_fact (F:Facts) {i k:Nat} (h:i≠k) (r:Option Nat) (Φ:Fact):(F.put k r Φ i).fact=(F i).fact:=by
 unfold Facts.put;rw[if_neg h]
 split <;> rfl
theorem Facts.put_comm (F:Facts) {i k:Nat} (h:i≠k) {r s:Option Nat} (hr:r≠some i) (hs:s≠some k) (Φ Ψ:Fact):(F.put k r Φ).put i s Ψ=(F.put i s Ψ).put k r Φ:=by
 funext j;unfold Facts.put;by_cases h1:j=i
 ·subst h1;simp[h,hr]
 ·by_cases h2:j=k
  ·subst h2;simp[h1,hs]
  ·simp only[h1,h2,if_false]
   by_cases h3:s=some j <;> by_cases h4:r=some j <;> simp[h3,h4]
theorem Facts.keeps_put {rel:Nat->Option Nat} {F:Facts} (hF:F.keeps ops rel) {k:Nat} {r:Option Nat} (hr:r=Option.none\/r=rel k) {Φ:Fact} (hΦ:Φ.Good ops rel k):(F.put k r Φ).keeps ops rel:=by
 intro i;by_cases hi:i=k
 ·subst hi;rw[Facts.put_same];exact hΦ
 ·unfold Facts.put;rw[if_neg hi];split
  ·rename_i hri
   have hk:rel k=some i:=by
    rcases hr with h | h
    ·rw[h] at hri;cases hri
    ·rw[<- h];exact hri
   exact⟨fun w w' h1 h2 _ _=>(hF i).free k hk w w' h1 h2,fun k' hk' w w' h1 h2=>(hF i).free k' hk' w w' h1 h2⟩
  ·exact hF i
structure Facts.Holds (F:Facts) (w:World):Prop where
 all:∀ i,(F i).fact w
 low:∀ i b,(F i).own b->b<w.heap.size
 apart:∀ i j b,i≠j->(F i).own b->¬(F j).own b
def readsUpon (w:World) (u:Value):Result Next->Prop
 | .ok (.value x) w'=>w'=w/\x=u
 | .ok .skip w'=>w'=w/\u=undef
 | _=>False
def givesUpon (P:Program) (w:World) (Post:Value->World->Prop):Result Next->Prop
 | .ok (.value x) w'=>Post x w'/\Below w.heap.size w w'
 | .ok (.enter f args) w'=>Calls P f args w' fun e w''=>∃ v,e=.returned v/\Post v w''/\Below w.heap.size w w''
 | _=>False
def storesUpon (P:Program) (w:World) (C:World->Prop) (own:Nat->Prop) (Φ:World->Prop):Result Next->Prop
 | .ok .skip w'=>(C w'/\Shaped w w'/\w'.heap.size=w.heap.size/\∀ b,¬own b->w'.heap[b]?=w.heap[b]?)/\Φ w'
 | _=>False
attribute [go_sem] readsUpon givesUpon storesUpon
inductive Waits (md:Region.Mode) (ops:Array Oper):Nat->Nat->Prop
 | one {k i:Nat}:Region.waitsFor md ops k i=true->Waits md ops k i
 | more {k j i:Nat}:Region.waitsFor md ops k j=true->Waits md ops j i->Waits md ops k i
def Has (md:Region.Mode) (ops:Array Oper) (C:World->Prop) (k:Nat) (F:Facts) (w:World):Prop:=C w/\∀ i,Waits md ops k i->(F i).fact w
def cellsOf:Value->Array Value
 | .agg c=>c
 | v=>#[v]
def Stored (w:World) (T:TypeId) (p v:Value):Prop:=∃ g,p=.pointer (some ⟨g,0,none⟩)/\w.heap[g]?=some (.cells (cellsOf v) T (0,0))
def ownOf (p:Value) (b:Nat):Prop:=p=.pointer (some ⟨b,0,none⟩)
def stFact (o:Oper) (a:Act):Fact:=match o.op with
 | .store T p v=>⟨fun w=>Stored w T (a.eval p) (a.eval v),ownOf (a.eval p)⟩
 | _=>Fact.none
theorem stFact_good (o:Oper) (a:Act) {k:Nat} (h:∀ k',rel k'≠some k):(stFact o a).Good ops rel k:=by
 refine⟨fun w w' hf _ hk _=>?_,fun k' e=>absurd e (h k')⟩;unfold stFact at hf hk ⊢
 revert hf hk
 split
 ·intro hf hk;obtain⟨g,hp,hg⟩:=hf;exact⟨g,hp,(hk g hp).trans hg⟩
 ·intro _ _;exact trivial
theorem stFact_type {o:Oper} {a:Act} {k:Nat} (ho:ops[k]?=some o) {w:World} (h:(stFact o a).fact w):∀ b,(stFact o a).own b->∃ c T,w.heap[b]?=some (.cells c T (0,0))/\Storing ops T:=by
 intro b hb;unfold stFact at h hb
 revert h hb
 split
 ·rename_i T p v hop;intro h hb;obtain⟨g,hp,hg⟩:=h;have hb:a.eval p=.pointer (some ⟨b,0,none⟩):=hb;rw[hp] at hb
  cases hb
  exact⟨_,T,hg,k,o,p,v,ho,hop⟩
 ·intro _ hb;exact hb.elim
def Yields (P:Program) (md:Region.Mode) (ops:Array Oper) (C:World->Prop) (rel:Nat->Option Nat) (s:Spec) (k:Nat) (o:Oper) (a:Act) (F:Facts) (V:Value->Prop) (Ψ:Value->Fact):Prop :=
 (Region.wanted o (yielded ops a.tmps)=true /\
  ((s=none/\rel k=none/\∃ u,V=(fun v=>v=u)/\Ψ=(fun _=>Fact.none)/\∀ w,Has md ops C k F w->readsUpon w u ((execOp a.eval o).run P w)) \/
   (s=some (V,Ψ)/\rel k=none/\∀ w,Has md ops C k F w->givesUpon P w (fun v w'=>V v/\(Ψ v).fact w'/\∀ b,(Ψ v).own b->w.heap.size<=b/\b<w'.heap.size) ((execOp a.eval o).run P w)) \/
   (s=none/\V=(fun v=>v=undef)/\Ψ=(fun _=>stFact o a)/\∃ j,rel k=some j/\(∀ b,(F j).own b↔(stFact o a).own b)/\∀ w,Has md ops C k F w->storesUpon P w C (stFact o a).own (stFact o a).fact ((execOp a.eval o).run P w)))) \/
 (Region.wanted o (yielded ops a.tmps)=false/\rel k=none/\V=(fun v=>v=undef)/\Ψ=fun _=>Fact.none)
theorem Yields.uniq {s:Spec} {k:Nat} {o:Oper} {a:Act} {F:Facts} {V V':Value->Prop} {Ψ Ψ':Value->Fact} {w:World} (hw:Has md ops C k F w)
  (h:Yields P md ops C rel s k o a F V Ψ) (h':Yields P md ops C rel s k o a F V' Ψ'):V=V'/\Ψ=Ψ':=by
 have some_eq:∀ {s:Spec},s=some (V,Ψ)->s=some (V',Ψ')->V=V'/\Ψ=Ψ':=fun h1 h2=>by
  have:=h1.symm.trans h2;simp only[Option.some.injEq,Prod.mk.injEq] at this;exact this
 rcases h with ⟨w1,h | h | h⟩ | ⟨w1,e0,e1,e2⟩ <;> rcases h' with ⟨w2,h' | h' | h'⟩ | ⟨w2,e0',e1',e2'⟩
 ·obtain⟨_,_,u,rfl,rfl,hr⟩:=h;obtain⟨_,_,u',rfl,rfl,hr'⟩:=h';have h1:=hr w hw;have h2:=hr' w hw
  revert h1 h2
  generalize (execOp a.eval o).run P w=r
  intro h1 h2
  have e:u=u':=by
   cases r with
   | ok n w' =>
    cases n <;> simp only[readsUpon] at h1 h2
    ·rw[<- h1.2,h2.2]
    ·rw[h1.2,h2.2]
   | halt x w'=>simp only[readsUpon] at h1
  rw[e];exact⟨rfl,rfl⟩
 ·rw[h.1] at h';cases h'.1
 ·obtain⟨_,e0,_⟩:=h;obtain⟨_,_,_,j,e1,_⟩:=h'
  rw[e0] at e1;cases e1
 ·rw[w1] at w2;cases w2
 ·rw[h'.1] at h;cases h.1
 ·exact some_eq h.1 h'.1
 ·rw[h'.1] at h;cases h.1
 ·rw[w1] at w2;cases w2
 ·obtain⟨_,_,_,j,e1,_⟩:=h;obtain⟨_,e0,_⟩:=h'
  rw[e0] at e1;cases e1
 ·rw[h.1] at h';cases h'.1
 ·exact⟨h.2.1.trans h'.2.1.symm,h.2.2.1.trans h'.2.2.1.symm⟩
 ·rw[w1] at w2;cases w2
 ·rw[w1] at w2;cases w2
 ·rw[w1] at w2;cases w2
 ·rw[w1] at w2;cases w2
 ·exact⟨e1.trans e1'.symm,e2.trans e2'.symm⟩
theorem Yields.keeps {s:Spec} {k:Nat} {o:Oper} {a:Act} {F:Facts} {V:Value->Prop} {Ψ:Value->Fact} (hst:∀ j,rel k=some j->∀ k',rel k'≠some k) (hs:s.keeps ops rel k)
  (h:Yields P md ops C rel s k o a F V Ψ):∀ v,(Ψ v).Good ops rel k:=by
 rcases h with ⟨_,⟨_,_,u,rfl,rfl,_⟩ | ⟨rfl,_⟩ | ⟨_,_,rfl,j,hj,_⟩⟩ | ⟨_,_,rfl,rfl⟩
 ·exact fun _=>Fact.none_good _ _ _
 ·exact hs
 ·exact fun _=>stFact_good o a (hst j hj)
 ·exact fun _=>Fact.none_good _ _ _
theorem keep_all {F:Facts} (hF:F.keeps ops rel) {k:Nat} {Φ:Fact} {w w':World} (hw:F.Holds w) (hb:Below w.heap.size w w') (hΦ:Φ.fact w') (hO:∀ b,Φ.own b->w.heap.size<=b/\b<w'.heap.size):(F.put k none Φ).Holds w':=by
 have ne:∀ {i},i≠k->F.put k none Φ i=F i:=fun h=>Facts.put_ne F h (by simp) Φ
 refine⟨fun i=>?_,fun i b h=>?_,fun i j b hij h h'=>?_⟩
 ·by_cases hi:i=k
  ·subst hi;rw[Facts.put_same];exact hΦ
  ·rw[ne hi];exact(hF i).keep _ _ (hw.all i) (Shaped.of hb) (fun b hb'=>hb.block b (hw.low i b hb')) (fun b hb'=>.inl (hb.block b hb'))
 ·by_cases hi:i=k
  ·subst hi;rw[Facts.put_same] at h;exact(hO b h).2
  ·rw[ne hi] at h;have:=hw.low i b h;have:=hb.size;omega
 ·by_cases hi:i=k
  ·subst hi;rw[Facts.put_same] at h;rw[ne (Ne.symm hij)] at h';have:=hw.low j b h';have:=(hO b h).1;omega
  ·rw[ne hi] at h;by_cases hj:j=k
   ·subst hj;rw[Facts.put_same] at h';have:=hw.low i b h;have:=(hO b h').1;omega
   ·rw[ne hj] at h';exact hw.apart i j b hij h h'
theorem keep_none {F:Facts} (hF:F.keeps ops rel) {k:Nat} {w:World} (hw:F.Holds w):(F.put k none Fact.none).Holds w :=
 keep_all hF hw zk trivial (fun _ h=>h.elim)
theorem keep_store {F:Facts} (hF:F.keeps ops rel) {k j:Nat} (hkj:j≠k) (hr:rel k=some j) {Φ:Fact} {w w':World} (hw:F.Holds w) (hs:Shaped w w') (hz:w'.heap.size=w.heap.size) (ho:∀ b,(F j).own b↔Φ.own b) (hk:∀ b,¬Φ.own b->w'.heap[b]?=w.heap[b]?) (hty:∀ b,Φ.own b->∃ c T,w'.heap[b]?=some (.cells c T (0,0))/\Storing ops T) (hΦ:Φ.fact w'):(F.put k (some j) Φ).Holds w':=by
 have ne:∀ {i},i≠k->i≠j->F.put k (some j) Φ i=F i:=fun h h2=>Facts.put_ne F h (by simp;exact fun e=>h2 e.symm) Φ
 have rl:F.put k (some j) Φ j=⟨(F j).fact,fun _=>False⟩:=Facts.put_rel F hkj Φ;refine⟨fun i=>?_,fun i b h=>?_,fun i i' b hij h h'=>?_⟩
 ·by_cases hi:i=k
  ·subst hi;rw[Facts.put_same];exact hΦ
  ·by_cases hj:i=j
   ·subst hj;rw[rl];exact(hF i).free k hr _ _ (hw.all i) hs
   ·rw[ne hi hj];exact(hF i).keep _ _ (hw.all i) hs (fun b hb=>hk b fun hb'=>hw.apart i j b hj hb ((ho b).2 hb')) (fun b _=>(Classical.em (Φ.own b)).elim (fun h=>.inr (hty b h)) (fun h=>.inl (hk b h)))
 ·rw[hz];by_cases hi:i=k
  ·subst hi;rw[Facts.put_same] at h;exact hw.low j b ((ho b).2 h)
  ·by_cases hj:i=j
   ·subst hj;rw[rl] at h;exact h.elim
   ·rw[ne hi hj] at h;exact hw.low i b h
 ·by_cases hi:i=k
  ·subst hi;rw[Facts.put_same] at h;by_cases hj:i'=j
   ·subst hj;rw[rl] at h';exact h'
   ·rw[ne (Ne.symm hij) hj] at h';exact hw.apart j i' b (Ne.symm hj) ((ho b).2 h) h'
  ·by_cases hj:i=j
   ·subst hj;rw[rl] at h;exact h
   ·rw[ne hi hj] at h;by_cases hi':i'=k
    ·subst hi';rw[Facts.put_same] at h';exact hw.apart i j b hj h ((ho b).2 h')
    ·by_cases hj':i'=j
     ·subst hj';rw[rl] at h';exact h'
     ·rw[ne hi' hj'] at h';exact hw.apart i i' b hij h h'
theorem Yields.run {s:Spec} {k:Nat} {o:Oper} {a:Act} {F:Facts} {V:Value->Prop} {Ψ:Value->Fact} {w:World} (hop:ops[k]?=some o) (hrk:∀ k j,rel k=some j->j≠k)
  (hCg:∀ w w',C w->Below w.heap.size w w'->C w') (hF:F.keeps ops rel) (hw:C w) (hFw:F.Holds w) (h:Yields P md ops C rel s k o a F V Ψ) :
  ∃ v w',V v/\C w'/\(F.put k (rel k) (Ψ v)).Holds w':=by
 have hH:Has md ops C k F w:=⟨hw,fun i _=>hFw.all i⟩
 rcases h with ⟨_,⟨_,hr0,u,rfl,rfl,_⟩ | ⟨rfl,hr0,hg⟩ | ⟨_,rfl,rfl,j,hrj,ho,hg⟩⟩ | ⟨_,hr0,rfl,rfl⟩
 ·rw[hr0];exact⟨u,w,rfl,hw,keep_none hF hFw⟩
 ·rw[hr0];have h1:=hg w hH
  revert h1
  generalize (execOp a.eval o).run P w=r
  intro h1
  cases r with
  | ok n w' =>
   cases n <;> simp only[givesUpon] at h1
   case value x=>exact⟨x,w',h1.1.1,hCg _ _ hw h1.2,keep_all hF hFw h1.2 h1.1.2.1 h1.1.2.2⟩
   case enter f args =>
    obtain⟨e,w'',fr,⟨v,rfl,hp,hb⟩,_⟩:=h1 []
    exact⟨v,w'',hp.1,hCg _ _ hw hb,keep_all hF hFw hb hp.2.1 hp.2.2⟩
  | halt x w'=>simp only[givesUpon] at h1
 ·rw[hrj];have h1:=hg w hH
  revert h1
  generalize (execOp a.eval o).run P w=r
  intro h1
  cases r with
  | ok n w' =>
   cases n <;> simp only[storesUpon] at h1
   case skip=>exact⟨undef,w',rfl,h1.1.1,keep_store hF (hrk k j hrj) hrj hFw h1.1.2.1 h1.1.2.2.1 ho h1.1.2.2.2 (stFact_type hop h1.2) h1.2⟩
  | halt x w'=>simp only[storesUpon] at h1
 ·rw[hr0];exact⟨undef,w,rfl,hw,keep_none hF hFw⟩
def Sat (C:World->Prop) (F:Facts):Prop:=∃ w,C w/\F.Holds w
def fOp (P:Program) (md:Region.Mode) (ops:Array Oper) (C:World->Prop) (rel:Nat->Option Nat) (sp:Nat->Spec) (i:Nat) (K:Act->Fact->Prop) (a:Act) (F:Facts):Prop :=
 ∃ o V Ψ,ops[i]?=some o/\Yields P md ops C rel (sp i) i o a F V Ψ/\∀ v,V v->K (a.put o.dst v) (Ψ v)
def wpAnyF (P:Program) (md:Region.Mode) (ops:Array Oper) (C:World->Prop) (rel:Nat->Option Nat) (sp:Nat->Spec) (n:Nat) (L:Array Bool->Act->Facts->Prop):Nat->Array Bool->Act->Facts->Prop
 | 0,listed,a,F=>Sat C F->L listed a F
 | f+1,listed,a,F=>Sat C F->Region.ready md ops listed≠[] /\
   ∀ i∈Region.ready md ops listed,i<n/\fOp P md ops C rel sp i (fun a' Φ=>wpAnyF P md ops C rel sp n L f (listed.setIfInBounds i true) a' (F.put i (rel i) Φ)) a F
theorem wpAnyF_guard {sp:Nat->Spec} {n:Nat} {L:Array Bool->Act->Facts->Prop} {f:Nat} {listed:Array Bool} {a:Act} {F:Facts}
  (h:Sat C F->wpAnyF P md ops C rel sp n L f listed a F):wpAnyF P md ops C rel sp n L f listed a F:=by
 cases f with
 | zero=>exact fun hs=>h hs hs
 | succ f=>exact fun hs=>h hs hs
structure RelOk (md:Region.Mode) (ops:Array Oper) (rel:Nat->Option Nat):Prop where
 ne:∀ k j,rel k=some j->j≠k
 waits:∀ k j,rel k=some j->Region.waitsFor md ops k j=true
 inj:∀ k k' j,rel k=some j->rel k'=some j->k=k'
 last:∀ k j,rel k=some j->∀ k',rel k'≠some k
theorem wpOp_of_fOp {sp:Nat->Spec} {i:Nat} {a:Act} {F:Facts} {K:Act->Fact->Prop} {K':Act->World->Prop} {Q':Exit->Act->World->Prop} {w:World} (hR:RelOk md ops rel)
  (hsp:∀ i,(sp i).keeps ops rel i) (hCg:∀ w w',C w->Below w.heap.size w w'->C w') (hF:F.keeps ops rel) (hw:C w) (hFw:F.Holds w)
  (h:∀ a' Φ w',C w'->(F.put i (rel i) Φ).keeps ops rel->(F.put i (rel i) Φ).Holds w'->K a' Φ->K' a' w') (hh:fOp P md ops C rel sp i K a F):wpOp P ops Q' i K' a w:=by
 obtain⟨o,V,Ψ,ho,hY,hK⟩:=hh;have hH:Has md ops C i F w:=⟨hw,fun i _=>hFw.all i⟩
 have hkeep:=fun v=>Facts.keeps_put hF (k:=i) (r:=rel i) (.inr rfl) (hY.keeps (hR.last i) (hsp i) v)
 unfold wpOp;simp only[ho]
 rcases hY with ⟨hwd,⟨_,hr0,u,rfl,rfl,hr⟩ | ⟨_,hr0,hg⟩ | ⟨_,rfl,rfl,j,hrj,hoj,hg⟩⟩ | ⟨hwd,hr0,rfl,rfl⟩
 ·simp only[hwd,if_true];refine .inl ?_;have h1:=hr w hH;unfold Oper.wp
  revert h1
  generalize (execOp a.eval o).run P w=r
  intro h1
  cases r with
  | ok n w' =>
   cases n <;> simp only[readsUpon] at h1 <;> simp only[Oper.upon]
   case value x =>
    obtain⟨rfl,rfl⟩:=h1;exact h _ _ _ hw (hkeep x) (by rw[hr0];exact keep_none hF hFw) (hK _ rfl)
   case skip =>
    obtain⟨rfl,rfl⟩:=h1
    exact h _ _ _ hw (hkeep undef) (by rw[hr0];exact keep_none hF hFw) (hK _ rfl)
  | halt x w'=>simp only[readsUpon] at h1
 ·simp only[hwd,if_true];refine .inl ?_;have h1:=hg w hH;unfold Oper.wp
  revert h1
  generalize (execOp a.eval o).run P w=r
  intro h1
  cases r with
  | ok n w' =>
   cases n <;> simp only[givesUpon] at h1 <;> simp only[Oper.upon]
   case value x=>exact h _ _ _ (hCg _ _ hw h1.2) (hkeep x) (by rw[hr0];exact keep_all hF hFw h1.2 h1.1.2.1 h1.1.2.2) (hK _ h1.1.1)
   case enter f args =>
    refine h1.mono fun e w'' hp=>?_
    obtain⟨v,rfl,hp,hb⟩:=hp
    exact h _ _ _ (hCg _ _ hw hb) (hkeep v) (by rw[hr0];exact keep_all hF hFw hb hp.2.1 hp.2.2) (hK _ hp.1)
  | halt x w'=>simp only[givesUpon] at h1
 ·simp only[hwd,if_true];refine .inl ?_;have h1:=hg w hH;unfold Oper.wp
  revert h1
  generalize (execOp a.eval o).run P w=r
  intro h1
  cases r with
  | ok n w' =>
   cases n <;> simp only[storesUpon] at h1 <;> simp only[Oper.upon]
   case skip=>exact h _ _ _ h1.1.1 (hkeep undef) (by rw[hrj];exact keep_store hF (hR.ne i j hrj) hrj hFw h1.1.2.1 h1.1.2.2.1 hoj h1.1.2.2.2 (stFact_type ho h1.2) h1.2) (hK _ rfl)
  | halt x w'=>simp only[storesUpon] at h1
 ·simp only[hwd,Bool.false_eq_true,if_false];exact h _ _ _ hw (hkeep undef) (by rw[hr0];exact keep_none hF hFw) (hK _ rfl)
theorem wpAny_of_headF {sp:Nat->Spec} {n g:Nat} {L:Array Bool->Act->Facts->Prop} {Q':Exit->Act->World->Prop} (hR:RelOk md ops rel)
  (hsp:∀ i,(sp i).keeps ops rel i) (hCg:∀ w w',C w->Below w.heap.size w w'->C w')
  (hL:∀ listed a F w,C w->F.Holds w->L listed a F->wpAny P md ops Q' g listed a w) :
  ∀ (f:Nat) (listed:Array Bool) (a:Act) (F:Facts) (w:World),F.keeps ops rel->C w->F.Holds w->wpAnyF P md ops C rel sp n L f listed a F->wpAny P md ops Q' (f+g) listed a w
 | 0,listed,a,F,w,hF,hw,hFw,h=>by rw[Nat.zero_add];exact hL _ _ _ _ hw hFw (h ⟨w,hw,hFw⟩)
 | f+1,listed,a,F,w,hF,hw,hFw,h=>by
  rw[show f+1+g=(f+g)+1 by omega];have h1:=h ⟨w,hw,hFw⟩;exact⟨fun h0=>absurd h0 h1.1,fun i hi=>wpOp_of_fOp hR hsp hCg hF hw hFw (fun a' Φ w' hw' hF' hFw' h'=>wpAny_of_headF hR hsp hCg hL f _ a' _ w' hF' hw' hFw' h') (h1.2 i hi).2⟩
theorem Yields.of_same {s:Spec} {k:Nat} {o:Oper} {a a':Act} {F F':Facts} {V:Value->Prop} {Ψ:Value->Fact} (h:Yields P md ops C rel s k o a F V Ψ)
  (he:execOp a'.eval o=execOp a.eval o) (hwd:Region.wanted o (yielded ops a'.tmps)=Region.wanted o (yielded ops a.tmps)) (hF:∀ w,Has md ops C k F' w->Has md ops C k F w) (hj:∀ j,rel k=some j->F' j=F j) (he2:∀ x∈o.op.operands,a'.eval x=a.eval x) :
  Yields P md ops C rel s k o a' F' V Ψ:=by
 have hst:stFact o a'=stFact o a:=by
  unfold stFact;split
  ·rename_i T p v ho;rw[ho] at he2;rw[he2 p (by simp[Op.operands]),he2 v (by simp[Op.operands])]
  ·rfl
 unfold Yields at *;rw[he,hwd,hst]
 rcases h with ⟨w1,⟨e,e0,u,e1,e2,h⟩ | ⟨e,e0,h⟩ | ⟨e,ev,eΨ,j,hr,ho,h⟩⟩ | h
 ·exact .inl ⟨w1,.inl ⟨e,e0,u,e1,e2,fun w hw=>h w (hF w hw)⟩⟩
 ·exact .inl ⟨w1,.inr (.inl ⟨e,e0,fun w hw=>h w (hF w hw)⟩)⟩
 ·exact .inl ⟨w1,.inr (.inr ⟨e,ev,eΨ,j,hr,by rw[hj j hr];exact ho,fun w hw=>h w (hF w hw)⟩)⟩
 ·exact .inr h
theorem evals_put (o:Oper) (a:Act) (dst:Option Tmp) (v:Value) (h:∀ d,dst=some d->d ∉ o.looksAt ops):∀ x∈o.op.operands,(a.put dst v).eval x=a.eval x :=
 fun x hx=>Act.eval_put fun d hd hxd=>h d hd (by
  subst hxd
  exact List.mem_append_left _ (List.mem_filterMap.2 ⟨.tmp d,by simpa using hx,rfl⟩))
theorem waits_closed {n:Nat} {listed:Array Bool} (inv:HeadInv md ops n listed) {k i:Nat} (h:Waits md ops k i) (hk:listed.getD k false=true):listed.getD i false=true:=by
 induction h with
 | one h =>
  obtain⟨o,ho,e,he,hb,rfl⟩:=Region.waitsFor_spec h
  exact inv.closed _ o ho hk e he hb
 | more h _ ih =>
  obtain⟨o,ho,e,he,hb,rfl⟩:=Region.waitsFor_spec h;exact ih (inv.closed _ o ho hk e he hb)
theorem not_waits {n:Nat} {listed:Array Bool} (inv:HeadInv md ops n listed) {k i:Nat} (hk:k∈Region.ready md ops listed) (hi:listed.getD i true=false):¬Waits md ops k i:=by
 intro h;have hi':=getD_both hi;obtain⟨_,o',ho',hall⟩:=mem_ready.1 hk
 cases h with
 | one h =>
  obtain⟨o,ho,e,he,hb,rfl⟩:=Region.waitsFor_spec h;obtain rfl:o=o':=Option.some.inj (ho.symm.trans ho');have:=hall e he hb
  rw[hi'] at this;cases this
 | more h h2 =>
  obtain⟨o,ho,e,he,hb,rfl⟩:=Region.waitsFor_spec h;obtain rfl:o=o':=Option.some.inj (ho.symm.trans ho');have:=waits_closed inv h2 (hall e he hb)
  rw[hi'] at this;cases this
theorem Has.of_put {F:Facts} {k i:Nat} {r:Option Nat} {Φ:Fact} {w:World} (hn:¬Waits md ops k i) (h:Has md ops C k (F.put i r Φ) w):Has md ops C k F w:=by
 refine⟨h.1,fun j hj=>?_⟩
 have hji:j≠i:=fun e=>hn (e▸hj)
 have:=h.2 j hj;rwa [Facts.put_fact F hji] at this
theorem Has.to_put {F:Facts} {k i:Nat} {r:Option Nat} {Φ:Fact} {w:World} (hn:¬Waits md ops k i) (h:Has md ops C k F w):Has md ops C k (F.put i r Φ) w:=by
 refine⟨h.1,fun j hj=>?_⟩
 have hji:j≠i:=fun e=>hn (e▸hj)
 rw[Facts.put_fact F hji];exact h.2 j hj
theorem holds_back {A:Facts} {q:Nat} {r:Option Nat} {Φ:Fact} {w:World} (h:(A.put q r Φ).Holds w) (hq:A q=Fact.none) (hr:∀ d,r=some d->d≠q/\∀ b,(A d).own b↔Φ.own b):A.Holds w:=by
 have own:∀ x b,(A x).own b->∃ y,(A.put q r Φ y).own b/\((r=some x/\y=q)\/(r≠some x/\y=x)):=fun x b hb=>by
  have hxq:x≠q:=fun e=>by rw[e,hq] at hb;exact hb
  by_cases hrx:r=some x
  ·exact⟨q,by rw[Facts.put_same];exact((hr x hrx).2 b).1 hb,.inl ⟨hrx,rfl⟩⟩
  ·exact⟨x,by rw[Facts.put_ne A hxq hrx];exact hb,.inr ⟨hrx,rfl⟩⟩
 refine⟨fun x=>?_,fun x b hb=>?_,fun x y b hxy hb hb'=>?_⟩
 ·by_cases hx:x=q
  ·rw[hx,hq];exact trivial
  ·have:=h.all x;rwa [Facts.put_fact A hx] at this
 ·obtain⟨y,hy,_⟩:=own x b hb;exact h.low y b hy
 ·obtain⟨x',hx',c1⟩:=own x b hb;obtain⟨y',hy',c2⟩:=own y b hb';refine h.apart x' y' b (fun e=>?_) hx' hy'
  have hyq:y≠q:=fun e=>by rw[e,hq] at hb';exact hb'
  have hxq:x≠q:=fun e=>by rw[e,hq] at hb;exact hb
  rcases c1 with ⟨e1,e2⟩ | ⟨_,e2⟩ <;> rcases c2 with ⟨f1,f2⟩ | ⟨_,f2⟩
  ·rw[e1] at f1;exact hxy (Option.some.inj f1)
  ·rw[e2,f2] at e;exact hyq e.symm
  ·rw[e2,f2] at e;exact hxq e
  ·rw[e2,f2] at e;exact hxy e
theorem wpAnyF_first {sp:Nat->Spec} {n i:Nat} {oi:Oper} {L:Array Bool->Act->Facts->Prop} (hR:RelOk md ops rel) (hsp:∀ i,(sp i).keeps ops rel i) (hCg:∀ w w',C w->Below w.heap.size w w'->C w')
  (hi:ops[i]?=some oi) (hsel:∀ (j:Nat) (o:Oper) cs b,ops[j]?=some o->o.op≠.select cs b)
  (hs:Region.sinkB md ops n=true) (hc:Region.chainB md ops n=true) (hn:n<ops.size) (hin:i<n)
  (hdone:∀ listed a F,L listed a F->∀ j∈Region.ready md ops listed,n<=j) {V:Value->Prop} {Ψ:Value->Fact} :
  ∀ (f:Nat) (listed:Array Bool) (a:Act) (F:Facts),HeadInv md ops n listed->F.keeps ops rel->(∀ k,listed.getD k false=false->F k=Fact.none) ->
   (∀ j oj,ops[j]?=some oj->j≠i->listed.getD j true=false->(∀ e∈oj.after,Region.binds md e=true->e.on≠i)->oi.apart ops oj=true) ->
   i∈Region.ready md ops listed->Yields P md ops C rel (sp i) i oi a F V Ψ ->
   (∀ v,V v->wpAnyF P md ops C rel sp n L f (listed.setIfInBounds i true) (a.put oi.dst v) (F.put i (rel i) (Ψ v)))->wpAnyF P md ops C rel sp n L (f+1) listed a F:=by
 intro f
 induction f with
 | zero =>
  intro listed a F inv hF hFt _ hr hy H hsat;have hun:=(mem_ready.1 hr).1;obtain⟨w,hw,hFw⟩:=hsat;obtain⟨v,w',hv,hw',hFw'⟩:=hy.run hi hR.ne hCg hF hw hFw;have H0:=H v hv ⟨w',hw',hFw'⟩;refine⟨fun h=>(by rw[h] at hr;cases hr),fun j hj=>?_⟩
  have hjn:j<n:=by
   rcases Nat.lt_or_ge j n with h | h
   ·exact h
   ·exact absurd hj (tail_waits hs hc hn inv _ i rfl hin hun j h)
  refine⟨hjn,?_⟩;by_cases hji:j=i
  ·subst hji;exact⟨oi,V,Ψ,hi,hy,H⟩
  ·have:=hdone _ _ _ H0 j (ready_mono hj hji)
   omega
 | succ f ih =>
  intro listed a F inv hF hFt hfree hr hy H hsat;have hun:=(mem_ready.1 hr).1;obtain⟨w,hw,hFw⟩:=hsat;obtain⟨v0,w0,hv0,hw0,hFw0⟩:=hy.run hi hR.ne hCg hF hw hFw;have H0:=H v0 hv0 ⟨w0,hw0,hFw0⟩;refine⟨fun h=>(by rw[h] at hr;cases hr),fun j hj=>?_⟩
  have hjn:j<n:=by
   rcases Nat.lt_or_ge j n with h | h
   ·exact h
   ·exact absurd hj (tail_waits hs hc hn inv _ i rfl hin hun j h)
  refine⟨hjn,?_⟩;by_cases hji:j=i
  ·subst hji;exact⟨oi,V,Ψ,hi,hy,H⟩
  ·obtain⟨hjun,oj,hoj,hall⟩:=mem_ready.1 hj
   have hnot:∀ e∈oj.after,Region.binds md e=true->e.on≠i:=fun e he hb heq=>by
    have h1:=hall e he hb;rw[heq,getD_both hun] at h1
    cases h1
   have hwji:¬Waits md ops j i:=not_waits inv hj hun;have hwij:¬Waits md ops i j:=not_waits inv hr hjun
   have hrj:rel j≠some i:=fun e=>hwji (.one (hR.waits j i e))
   have hri:rel i≠some j:=fun e=>hwij (.one (hR.waits i j e))
   have keepj:∀ (Φ:Fact) d,rel j=some d->F.put i (rel i) Φ d=F d:=fun Φ d hd =>
    Facts.put_ne F (fun e=>hrj (by rw[hd,e])) (fun e=>hji (hR.inj j i d hd e)) Φ
   have keepi:∀ (Φ:Fact) d,rel i=some d->F.put j (rel j) Φ d=F d:=fun Φ d hd =>
    Facts.put_ne F (fun e=>hri (by rw[hd,e])) (fun e=>hji (hR.inj j i d e hd)) Φ
   have hap:=hfree j oj hoj hji hjun hnot;obtain⟨p1,p2,p3⟩:=Oper.apart_spec hap
   have back:∀ (v:Value) {V':Value->Prop} {Ψ':Value->Fact},Yields P md ops C rel (sp j) j oj (a.put oi.dst v) (F.put i (rel i) (Ψ v)) V' Ψ'->Yields P md ops C rel (sp j) j oj a F V' Ψ':=fun v _ _ h =>
    h.of_same (execOp_put oj (hsel j oj · · hoj) a oi.dst v p1).symm (wanted_put oj a oi.dst v p1).symm (fun _ h=>h.to_put hwji) (fun d hd=>(keepj _ d hd).symm) (fun x hx=>(evals_put oj a oi.dst v p1 x hx).symm)
   obtain⟨oj',Vj,Ψj,hoj',hYj,_⟩:=(H0.2 j (ready_mono hj hji)).2;obtain rfl:oj'=oj:=Option.some.inj (hoj'.symm.trans hoj);have hYj0:=back v0 hYj;refine⟨oj',Vj,Ψj,hoj,hYj0,fun vj hvj=>?_⟩
   have hun':(listed.setIfInBounds j true).getD i true=false:=by rw[getD_set_ne true hji];exact hun
   refine ih (listed.setIfInBounds j true) (a.put oj'.dst vj) (F.put j (rel j) (Ψj vj)) (inv.set hj hjn) (Facts.keeps_put hF (.inr rfl) (hYj0.keeps (hR.last j) (hsp j) vj)) (fun k hk=>?_) (fun k ok hk hki hun hno=>?_) (ready_mono hr (Ne.symm hji))
    (hy.of_same (execOp_put oi (hsel i oi · · hi) a oj'.dst vj p3) (wanted_put oi a oj'.dst vj p3) (fun _ h=>h.of_put hwij) (fun d hd=>keepi _ d hd) (evals_put oi a oj'.dst vj p3)) (fun v hv=>wpAnyF_guard fun hsat2=>?_)
   ·have hkj:k≠j:=fun e=>by
     subst e
     have hlt:k<listed.size:=by
      rcases Nat.lt_or_ge k listed.size with h' | h'
      ·exact h'
      ·simp[Array.getElem?_eq_none h'] at hjun
     simp[hlt] at hk
    rw[getD_set_ne false (Ne.symm hkj)] at hk;have h0:=hFt k hk;unfold Facts.put;rw[if_neg hkj];split
    ·rw[h0];rfl
    ·exact h0
   ·refine hfree k ok hk hki ?_ hno;by_cases hjk:j=k
    ·subst hjk;exact hjun
    ·rw[getD_set_ne true hjk] at hun;exact hun
   ·obtain⟨w2,hw2,hF2⟩:=hsat2;have hj0:F j=Fact.none:=hFt j (getD_both hjun)
    have hsat3:Sat C (F.put i (rel i) (Ψ v)):=by
     refine⟨w2,hw2,?_⟩;rw[Facts.put_comm F (Ne.symm hji) hrj hri] at hF2
     refine holds_back hF2 ?_ fun d hd=>⟨hR.ne j d hd,fun b=>?_⟩
     ·rw[Facts.put_ne F hji hri];exact hj0
     ·rw[keepj _ d hd]
      rcases hYj0 with ⟨_,⟨_,e0,_⟩ | ⟨_,e0,_⟩ | ⟨_,ev,eΨ,d',hd',ho,_⟩⟩ | ⟨_,e0,_⟩
      ·rw[e0] at hd;cases hd
      ·rw[e0] at hd;cases hd
      ·rw[hd'] at hd;obtain rfl:=Option.some.inj hd;rw[eΨ];exact ho b
      ·rw[e0] at hd;cases hd
    obtain⟨oj2,Vj2,Ψj2,hoj2,hYj2,hK2⟩:=((H v hv hsat3).2 j (ready_mono hj hji)).2;obtain rfl:oj2=oj':=Option.some.inj (hoj2.symm.trans hoj);obtain⟨rfl,rfl⟩:=(back v hYj2).uniq ⟨hw,fun k _=>hFw.all k⟩ hYj0;have h3:=hK2 vj hvj;rw[Array.setIfInBounds_comm _ _ hji,Facts.put_comm F (Ne.symm hji) hrj hri,<- Act.put_comm a v vj p2];exact h3
def wpF (P:Program) (md:Region.Mode) (ops:Array Oper) (C:World->Prop) (rel:Nat->Option Nat) (sp:Nat->Spec) (Q:Act->Facts->Prop):List Oper->Nat->Act->Facts->Prop
 | [],_,a,F=>Q a F
 | o :: rest,k,a,F=>∃ V Ψ,Yields P md ops C rel (sp k) k o a F V Ψ/\∀ v,V v->wpF P md ops C rel sp Q rest (k+1) (a.put o.dst v) (F.put k (rel k) (Ψ v))
theorem wpAnyF_lex {sp:Nat->Spec} {n g:Nat} {Lq:Act->Facts->Prop} (hR:RelOk md ops rel) (hsp:∀ i,(sp i).keeps ops rel i) (hCg:∀ w w',C w->Below w.heap.size w w'->C w')
  (hsel:Region.noSelect ops=true) (hs:Region.sinkB md ops n=true) (hc:Region.chainB md ops n=true) (hn:n<ops.size) :
  ∀ (l:List Oper) (k:Nat) (listed:Array Bool) (a:Act) (F:Facts),(∀ j,j<l.length->l[j]?=ops[k+j]?)->k+l.length=n->HeadInv md ops n listed->F.keeps ops rel->(∀ k,listed.getD k false=false->F k=Fact.none) ->
  Region.lexHead md ops g l.length k listed=true->wpF P md ops C rel sp Lq l k a F ->
  wpAnyF P md ops C rel sp n (fun listed' a' F'=>Region.seqB md ops g n listed'=true/\Lq a' F') l.length listed a F
 | [],k,listed,a,F,_,hk,_,_,_,hB,h=>by
  have:k=n:=by simpa using hk
  subst this
  exact fun _=>⟨by simpa[Region.lexHead] using hB,h⟩
 | o :: l,k,listed,a,F,hl,hk,inv,hF,hFt,hB,h=>by
  have h0:ops[k]?=some o:=by simpa using (hl 0 (by simp)).symm
  simp only[List.length_cons,Region.lexHead,Bool.and_eq_true] at hB;obtain⟨⟨hr,hf⟩,hB'⟩:=hB
  have hkn:k<n:=by simp only[List.length_cons] at hk;omega
  have hr':k∈Region.ready md ops listed:=by simpa using hr
  obtain⟨V,Ψ,hY,hK⟩:=h
  refine wpAnyF_first hR hsp hCg h0 (Region.noSelect_spec hsel) hs hc hn hkn (fun listed' a' _ hL=>seqB_ready hL.1) l.length listed a F inv hF hFt (Region.free_spec h0 hf) hr' hY fun v hv=>?_
  refine wpAnyF_lex hR hsp hCg hsel hs hc hn l (k+1) _ _ _ (fun j hj=>by have:=hl (j+1) (by simp;omega);simpa[Nat.add_assoc,Nat.add_comm 1 j] using this) (by simp only[List.length_cons] at hk;omega) (inv.set hr' hkn)
   (Facts.keeps_put hF (.inr rfl) (hY.keeps (hR.last k) (hsp k) v)) (fun j hj=>?_) hB' (hK v hv)
  have hjk:j≠k:=fun e=>by
   subst e
   have hlt:j<listed.size:=by rw[inv.size];omega
   simp[hlt] at hj
  rw[getD_set_ne false (Ne.symm hjk)] at hj;have h1:=hFt j hj;unfold Facts.put;rw[if_neg hjk];split
  ·rw[h1];rfl
  ·exact h1
theorem none_holds (w:World):Facts.Holds (fun _=>Fact.none) w:=⟨fun _=>trivial,fun _ _ h=>False.elim h,fun _ _ _ _ h=>False.elim h⟩
def relOf:List (Nat × Nat)->Nat->Option Nat
 | [],_=>none
 | (k,j) :: l,i=>if i=k then some j else relOf l i
theorem relOf_mem:∀ {l:List (Nat × Nat)} {k j:Nat},relOf l k=some j->(k,j)∈l
 | [],_,_,h=>by cases h
 | (k',j') :: l,k,j,h=>by
  unfold relOf at h;split at h
  ·rename_i e
   cases h
   rw[e];exact List.mem_cons_self ..
  ·exact List.mem_cons_of_mem _ (relOf_mem h)
def relB (md:Region.Mode) (ops:Array Oper) (l:List (Nat × Nat)):Bool:=l.all fun p=>p.2 != p.1&&Region.waitsFor md ops p.1 p.2&&l.all fun q=>(q.2 != p.2 || q.1==p.1)&&q.2 != p.1
theorem relOk_of {l:List (Nat × Nat)} (h:relB md ops l=true):RelOk md ops (relOf l):=by
 unfold relB at h;rw[List.all_eq_true] at h
 have key:=fun k j (e:relOf l k=some j)=>h (k,j) (relOf_mem e)
 refine⟨fun k j e=>?_,fun k j e=>?_,fun k k' j e e'=>?_,fun k j e k' e'=>?_⟩
 ·have:=key k j e;simp only[Bool.and_eq_true,bne_iff_ne] at this;exact this.1.1
 ·have:=key k j e;simp only[Bool.and_eq_true,bne_iff_ne] at this;exact this.1.2
 ·have:=key k j e;simp only[Bool.and_eq_true,List.all_eq_true] at this;have:=(this.2 (k',j) (relOf_mem e')).1;simp only[bne_self_eq_false,Bool.false_or,beq_iff_eq] at this;exact this.symm
 ·have:=key k j e;simp only[Bool.and_eq_true,List.all_eq_true] at this;have:=(this.2 (k',k) (relOf_mem e')).2;simp at this
theorem wp_region_fresh {id:Nat} {Q:Exit->Act->World->Prop} {a:Act} {w:World} {l:List Oper} (n:Nat) (rl:List (Nat × Nat)) (sp:Nat->Spec) (C:World->Prop) (hm:P.follows .mixedOrders=true) (hB:Region.lexTailB .any l.toArray n=true) (hRB:relB .any l.toArray rl=true)
  (hsp:∀ i,(sp i).keeps l.toArray (relOf rl) i) (hCg:∀ w w',C w->Below w.heap.size w w'->C w') (hC0:C { w with drawn:=w.drawn+1 })
  (h:wpF P .any l.toArray C (relOf rl) sp (fun a' F=>∀ w',C w'->F.Holds w'->wpList P l.toArray Q (l.drop n) a' w') (l.take n) 0 a (fun _=>Fact.none)):(Code.region id l.toArray true).wp P Q a w:=by
 have hR:=relOk_of hRB;simp only[Region.lexTailB,Bool.and_eq_true,decide_eq_true_eq] at hB;obtain⟨⟨⟨⟨hsel,hn⟩,hs⟩,hc⟩,hlex⟩:=hB
 have hn':n<l.length:=by simpa using hn
 have htl:(l.take n).length=n:=by simp;omega
 have hdl:(l.drop n).length=l.toArray.size-n:=by simp
 have inv0:HeadInv .any l.toArray n (Array.replicate l.toArray.size false) :=
  ⟨by simp,fun j oj _ hl=>(by rw[getD_replicate_false] at hl;cases hl),fun t _ ht=>getD_in (by simpa using ht) (getD_replicate_false _ _)⟩
 have H:=wpAnyF_lex (P:=P) (md:=.any) (C:=C) (g:=l.toArray.size-n) hR hsp hCg hsel hs hc hn (l.take n) 0 _ a (fun _=>Fact.none) (fun j hj=>by
  have hj':j<n:=by rw[htl] at hj;exact hj
  simp[hj']) (by simpa using htl) inv0 (fun i=>Fact.none_good _ _ i) (fun _ _=>rfl) (by rw[htl];exact hlex) h
 refine wp_region_any hm ?_
 have:=wpAny_of_headF (Q':=Q) (g:=l.toArray.size-n) hR hsp hCg (fun listed a' F w' hw' hF' hL=>by
  have:=wpAny_of_seq (md:=.any) (Q':=Q) (l.drop n) n listed a' w' (fun j=>by simp[List.getElem?_drop]) (by rw[hdl];exact hL.1) (hL.2 w' hw' hF')
  rwa [hdl] at this) _ _ _ _ _ (fun i=>Fact.none_good _ _ i) hC0 (none_holds _) H
 rw[htl,show n+(l.toArray.size-n)=l.toArray.size by omega] at this;exact this
theorem wpF_nil {sp:Nat->Spec} {Q:Act->Facts->Prop} {k:Nat} {a:Act} {F:Facts} (h:Q a F):wpF P md ops C rel sp Q [] k a F:=h
theorem wpF_reads {sp:Nat->Spec} {Q:Act->Facts->Prop} {o:Oper} {rest:List Oper} {k:Nat} {a:Act} {F:Facts} (hg:o.guard=none) (hs:sp k=none) (h0:rel k=none) (u:Value)
  (hr:∀ w,Has md ops C k F w->readsUpon w u ((execOp a.eval o).run P w)) (hK:wpF P md ops C rel sp Q rest (k+1) (a.put o.dst u) (F.put k none Fact.none)):wpF P md ops C rel sp Q (o :: rest) k a F :=
 ⟨_,_,.inl ⟨by simp[Region.wanted,hg],.inl ⟨hs,h0,u,rfl,rfl,hr⟩⟩,fun v hv=>by cases hv;rw[h0];exact hK⟩
theorem wpF_spec {sp:Nat->Spec} {Q:Act->Facts->Prop} {o:Oper} {rest:List Oper} {k:Nat} {a:Act} {F:Facts} (hg:o.guard=none) {V:Value->Prop} {Ψ:Value->Fact} (hs:sp k=some (V,Ψ)) (h0:rel k=none)
  (hr:∀ w,Has md ops C k F w->givesUpon P w (fun v w'=>V v/\(Ψ v).fact w'/\∀ b,(Ψ v).own b->w.heap.size<=b/\b<w'.heap.size) ((execOp a.eval o).run P w)) (hK:∀ v,V v->wpF P md ops C rel sp Q rest (k+1) (a.put o.dst v) (F.put k none (Ψ v))):wpF P md ops C rel sp Q (o :: rest) k a F :=
 ⟨V,Ψ,.inl ⟨by simp[Region.wanted,hg],.inr (.inl ⟨hs,h0,hr⟩)⟩,by rw[h0];exact hK⟩
theorem wpF_readsG {sp:Nat->Spec} {Q:Act->Facts->Prop} {o:Oper} {rest:List Oper} {k:Nat} {a:Act} {F:Facts} (hg:Region.wanted o (yielded ops a.tmps)=true) (hs:sp k=none) (h0:rel k=none) (u:Value)
  (hr:∀ w,Has md ops C k F w->readsUpon w u ((execOp a.eval o).run P w)) (hK:wpF P md ops C rel sp Q rest (k+1) (a.put o.dst u) (F.put k none Fact.none)):wpF P md ops C rel sp Q (o :: rest) k a F :=
 ⟨_,_,.inl ⟨hg,.inl ⟨hs,h0,u,rfl,rfl,hr⟩⟩,fun v hv=>by cases hv;rw[h0];exact hK⟩
theorem wpF_skip {sp:Nat->Spec} {Q:Act->Facts->Prop} {o:Oper} {rest:List Oper} {k:Nat} {a:Act} {F:Facts} (hg:Region.wanted o (yielded ops a.tmps)=false) (h0:rel k=none)
  (hK:wpF P md ops C rel sp Q rest (k+1) (a.put o.dst undef) (F.put k none Fact.none)):wpF P md ops C rel sp Q (o :: rest) k a F :=
 ⟨_,_,.inr ⟨hg,h0,rfl,rfl⟩,fun v hv=>by cases hv;rw[h0];exact hK⟩
theorem wpF_gspec {sp:Nat->Spec} {Q:Act->Facts->Prop} {o:Oper} {rest:List Oper} {k:Nat} {a:Act} {F:Facts} (hg:Region.wanted o (yielded ops a.tmps)=true) {V:Value->Prop} {Ψ:Value->Fact} (hs:sp k=some (V,Ψ)) (h0:rel k=none)
  (hr:∀ w,Has md ops C k F w->givesUpon P w (fun v w'=>V v/\(Ψ v).fact w'/\∀ b,(Ψ v).own b->w.heap.size<=b/\b<w'.heap.size) ((execOp a.eval o).run P w)) (hK:∀ v,V v->wpF P md ops C rel sp Q rest (k+1) (a.put o.dst v) (F.put k none (Ψ v))):wpF P md ops C rel sp Q (o :: rest) k a F :=
 ⟨V,Ψ,.inl ⟨hg,.inr (.inl ⟨hs,h0,hr⟩)⟩,by rw[h0];exact hK⟩
theorem Has.world {F:Facts} {k:Nat} {w:World} (h:Has md ops C k F w):C w:=h.1
theorem Has.fact {F:Facts} {k:Nat} {w:World} (h:Has md ops C k F w) (i:Nat) (hi:Region.waitsFor md ops k i=true):(F i).fact w:=h.2 i (.one hi)
theorem gives_of {w:World} {Post:Value->World->Prop} {r:Result Next} (Post0:Value->World->Prop) (h:givesUpon P w Post0 r) (k:∀ v w',Post0 v w'->Post v w'):givesUpon P w Post r:=by
 cases r with
 | ok n w' =>
  cases n <;> simp only[givesUpon] at h ⊢
  case value x=>exact⟨k _ _ h.1,h.2⟩
  case enter f args=>exact h.mono fun e w'' ⟨v,he,hp,hb⟩=>⟨v,he,k _ _ hp,hb⟩
 | halt x w'=>simp only[givesUpon] at h
abbrev Sp:=(Value->Prop) × (Value->Fact)
def Sp.keeps (ops:Array Oper) (rel:Nat->Option Nat) (k:Nat) (s:Sp):Prop:=∀ v,(s.2 v).Good ops rel k
def Sp.know (u:Value):Sp:=(fun v=>v=u,fun _=>Fact.none)
def Sp.made {α:Type} (val:α->Value) (Φ:α->World->Prop) (own:α->Nat->Prop):Sp:=(fun v=>∃ x,v=val x,fun v=>⟨fun w=>∃ x,v=val x/\Φ x w,fun b=>∃ x,v=val x/\own x b⟩)
def Shp (w:World) (g:Nat) (T:TypeId) (n:Nat):Prop:=∃ c,w.heap[g]?=some (.cells c T (0,0))/\c.size=n
def Sp.box (T:TypeId) (n lo:Nat):Sp:=(fun v=>∃ g:Nat,v=.pointer (some ⟨g,0,none⟩),fun v=>⟨fun w=>∃ g:Nat,v=.pointer (some ⟨g,0,none⟩)/\Shp w g T n/\lo<=g,ownOf v⟩)
def PK (u:Value) (v:Value) (_:World):Prop:=v=u
theorem PK.post {u v:Value} {w:World} {q:Nat->Prop} (h:PK u v w):(Sp.know u).1 v/\((Sp.know u).2 v).fact w/\∀ b,((Sp.know u).2 v).own b->q b:=⟨h,trivial,fun _ h=>False.elim h⟩
def PM {α:Type} (val:α->Value) (Φ:α->World->Prop) (own:α->Nat->Prop) (n:Nat) (v:Value) (w:World):Prop:=∃ x,v=val x/\Φ x w/\∀ b,own x b->n<=b/\b<w.heap.size
theorem PM.post {α:Type} {val:α->Value} {Φ:α->World->Prop} {own:α->Nat->Prop} {n:Nat} {v:Value} {w:World} (hi:∀ x y,val x=val y->x=y) (h:PM val Φ own n v w):(Sp.made val Φ own).1 v/\((Sp.made val Φ own).2 v).fact w/\∀ b,((Sp.made val Φ own).2 v).own b->n<=b/\b<w.heap.size:=by
 obtain⟨x,rfl,h1,h2⟩:=h;exact⟨⟨x,rfl⟩,⟨x,rfl,h1⟩,fun b ⟨y,e,hb⟩=>h2 b (by rw[hi _ _ e];exact hb)⟩
def PB (T:TypeId) (n lo m:Nat) (v:Value) (w:World):Prop:=∃ g:Nat,v=.pointer (some ⟨g,0,none⟩)/\Shp w g T n/\lo<=g/\m<=g/\g<w.heap.size
theorem PB.new {T:TypeId} {n lo:Nat} {w:World} (c:Array Value) (hc:c.size=n) (h:lo<=w.heap.size):PB T n lo w.heap.size (.pointer (some ⟨w.heap.size,0,none⟩)) (w.alloc (.cells c T)) :=
 ⟨_,rfl,⟨c,by show(w.heap.push _)[w.heap.size]?=_;simp,hc⟩,h,zj,by rw[World.size_alloc];omega⟩
theorem made_of {α:Type} {val:α->Value} {Φ:α->World->Prop} {w:World} {x:α} (hi:∀ x y,val x=val y->x=y) (h:∃ y,val x=val y/\Φ y w):Φ x w:=by
 obtain⟨y,e,h⟩:=h;rw[hi _ _ e];exact h
theorem Sp.know_keeps (k:Nat) (u:Value):(Sp.know u).keeps ops rel k:=fun _=>Fact.none_good _ _ _
theorem Sp.made_keeps (k:Nat) {α:Type} {val:α->Value} {Φ:α->World->Prop} {own:α->Nat->Prop} (h:∀ x w w',Φ x w->Shaped w w'->(∀ b,own x b->w'.heap[b]?=w.heap[b]?)->Φ x w') (hn:∀ k',rel k'≠some k):(Sp.made val Φ own).keeps ops rel k :=
 fun _=>⟨fun w w' ⟨x,e,hx⟩ hs hk _=>⟨x,e,h x w w' hx hs fun b hb=>hk b ⟨x,e,hb⟩⟩,fun k' e=>absurd e (hn k')⟩
theorem notTaken {l:List (Nat × Nat)} {k:Nat} (h:(l.all fun p=>p.2 != k)=true):∀ k',relOf l k'≠some k:=fun k' e=>by
 rw[List.all_eq_true] at h;have:=h (k',k) (relOf_mem e);simp at this
def spOf:List (Nat × Sp)->Nat->Spec
 | [],_=>none
 | (k,s) :: l,i=>if i=k then some s else spOf l i
theorem spOf_nil:∀ i,(spOf [] i).keeps ops rel i:=fun _=>trivial
theorem spOf_cons {k:Nat} {s:Sp} {l:List (Nat × Sp)} (hs:s.keeps ops rel k) (hl:∀ i,(spOf l i).keeps ops rel i):∀ i,(spOf ((k,s) :: l) i).keeps ops rel i:=by
 intro i;unfold spOf;by_cases h:i=k
 ·rw[if_pos h];subst h;exact hs
 ·rw[if_neg h];exact hl i
end Go.FS
namespace Go.Proofs.YthacfgmdihcffaaGreatDoor
namespace LawPost
open Go.ChangeShapes Go.WideShapes Go.ChangeAt Go.RowKit
variable {H:Type} {enc:TypeId × Value->H} {P:Program}
theorem trodAll_below (hl:laidOutB P=true) {W W':World} (hb:Below W.heap.size W W'):∀ (ts:List TypeId) (vs:List Value) (ds:List (DataW H)) (ps:List MemPlace),
  ts.all (fun t=>P.readableRec t&&decide (t<P.types.size))=true->DataW.TrodAll enc P W 0 (fun _=>true) true ts vs ds ps->(∀ x∈ps,x.block<W.heap.size) ->
  DataW.TrodAll enc P W' 0 (fun b=>decide (b<W.heap.size)) true ts vs ds ps
 | [],[],[],ps,_,h,_=>h
 | t :: ts,v :: vs,d :: ds,ps,hr,h,hlt=>by
  obtain⟨p,q,h1,h2,rfl⟩:=h;simp only[List.all_cons,Bool.and_eq_true,decide_eq_true_eq] at hr
  exact⟨p,q,Below.trod hl hr.1.1 hr.1.2 h1 hb (fun x hx=>hlt x (List.mem_append_left _ hx)),trodAll_below hl hb ts vs ds q hr.2 h2 (fun x hx=>hlt x (List.mem_append_right _ hx)),rfl⟩
 | [],[],_ :: _,_,_,h,_=>h.elim
 | [],_ :: _,_,_,_,h,_=>by simp[DataW.TrodAll] at h
 | _ :: _,[],_,_,_,h,_=>by simp[DataW.TrodAll] at h
 | _ :: _,_ :: _,[],_,_,h,_=>by simp[DataW.TrodAll] at h
theorem law_post {f:Func} {s:ChangeSpec} {W W':World} {args:Array Value} {ds:List (DataW H)} {before:List MemPlace} {tb:TypeId} (hl:laidOutB P=true)
  (hr:f.params.toList.all (fun t=>P.readableRec t&&decide (t<P.types.size))=true) (hrt:f.resultTypes=#[tb]) (htb:P.underlying tb=some .bool)
  (hW:DataW.Whole enc P f.params.toList s.vars false W args.toList ds [] before) (hv:s.vars=[])
  (hs:s.fn H (ds++[]) = { results:=[.lit (.bool true)],args:=ds,vars:=[] }) (hb:Below W.heap.size W W') :
  s.post enc P f false true false false W args (.bool true) W':=by
 have hlt:=hW.lt;obtain⟨p,q,hA,hV,hpq,hz,hn⟩:=hW;rw[hv] at hV;obtain⟨_,rfl⟩:=trodVars_none hV;subst hpq;refine⟨ds,[],_,[],p,[],⟨p,[],hA,by rw[hv];exact hV,rfl,hz,hn⟩,?_,?_,?_,hb.frame _,fun h=>by cases h⟩
 ·rw[hs,hrt];exact trodAll_mk1 (shut_bool htb _)
 ·rw[hs];exact trodAll_below hl hb _ _ _ _ hr hA (fun x hx=>hlt x (by simpa using hx))
 ·rw[hs,hv];rfl
theorem mapM_each {α β:Type} (f:α->Option β):∀ (l:List α) (ys:List β),l.mapM f=some ys->∀ a∈l,∃ y,f a=some y:=by
 intro l
 induction l with
 | nil=>intro ys _ a ha;cases ha
 | cons x l ih =>
  intro ys h a ha;simp only[List.mapM_cons,Option.bind_eq_bind,Option.bind_eq_some_iff] at h;obtain⟨y,hy,zs,hz,_⟩:=h
  rcases List.mem_cons.1 ha with rfl | ha
  ·exact⟨y,hy⟩
  ·exact ih zs hz a ha
theorem trod_arr {w:World} {base:Nat} {spare:Nat->Bool} {held:Bool} {t e:TypeId} {n fuel:Nat} {cs:List Value} {x:DataW H × List MemPlace} (ht:P.underlying t=some (.array n e))
  (h:DataW.trod enc P w base spare held fuel t cs=some x):cs.length=P.cellsOf t/\∃ m,fuel=m+1/\∀ i,i<n->∃ y,DataW.trod enc P w base spare held m e ((cs.drop (i*P.cellsOf e)).take (P.cellsOf e))=some y:=by
 cases fuel with
 | zero=>simp[DataW.trod] at h
 | succ m =>
  unfold DataW.trod at h;rw[ht] at h;dsimp only at h;by_cases hlen:cs.length=P.cellsOf t
  ·rw[if_pos hlen] at h;obtain⟨ys,hy,_⟩:=Option.map_eq_some_iff.1 h;exact⟨hlen,m,rfl,fun i hi=>mapM_each _ _ _ hy i (List.mem_range.2 hi)⟩
  ·rw[if_neg hlen] at h;cases h
theorem trod_u16s {w:World} {base:Nat} {spare:Nat->Bool} {held:Bool} {t e:TypeId} {n fuel:Nat} {cs:List Value} {x:DataW H × List MemPlace} (ht:P.underlying t=some (.array n e)) (he:P.underlying e=some (.int .u16)) (hce:P.cellsOf e=1)
  (h:DataW.trod enc P w base spare held fuel t cs=some x):∀ i,i<n->i<cs.length->∃ a:Int,cs[i]?=some (.int .u16 a)/\0<=a/\a<=65535:=by
 intro i hi hl;obtain⟨_,m,_,h2⟩:=trod_arr ht h;obtain⟨y,hy⟩:=h2 i hi;rw[hce,Nat.mul_one] at hy
 have e1:(cs.drop i).take 1=[cs[i]]:=by rw[List.drop_eq_getElem_cons hl];rfl
 rw[e1] at hy;obtain⟨a,e0,_,wa⟩:=DataW.trod_int he hy;simp only[List.cons.injEq,and_true] at e0;have hbd:=bounds_u16 wa;exact⟨a,by rw[List.getElem?_eq_getElem hl,e0],hbd.1,hbd.2⟩
theorem four_u16 {w:World} {base:Nat} {spare:Nat->Bool} {held:Bool} {t e:TypeId} {fuel:Nat} {cs:List Value} {x:DataW H × List MemPlace} (ht:P.underlying t=some (.array 4 e)) (he:P.underlying e=some (.int .u16)) (hce:P.cellsOf e=1) (hct:P.cellsOf t=4)
  (h:DataW.trod enc P w base spare held fuel t cs=some x):∃ a:Nat->Int,cs=[.int .u16 (a 0),.int .u16 (a 1),.int .u16 (a 2),.int .u16 (a 3)]/\∀ i,i<4->0<=a i/\a i<=65535:=by
 have hl:cs.length=4:=(trod_arr ht h).1.trans hct;have g:=trod_u16s ht he hce h;obtain⟨a0,e0,b0⟩:=g 0 (by omega) (by omega);obtain⟨a1,e1,b1⟩:=g 1 (by omega) (by omega);obtain⟨a2,e2,b2⟩:=g 2 (by omega) (by omega);obtain⟨a3,e3,b3⟩:=g 3 (by omega) (by omega);refine⟨fun i=>match i with | 0=>a0 | 1=>a1 | 2=>a2 | _=>a3,?_,?_⟩
 ·apply List.ext_getElem?;intro i
  match i with
  | 0=>exact e0
  | 1=>exact e1
  | 2=>exact e2
  | 3=>exact e3
  | n+4=>rw[List.getElem?_eq_none (by omega)];rfl
 ·intro i hi
  match i,hi with
  | 0,_=>exact b0
  | 1,_=>exact b1
  | 2,_=>exact b2
  | 3,_=>exact b3
end LawPost
namespace Limb
abbrev BN:Nat:=1000000000
def pw (n:Nat):Nat:=BN ^ n
theorem pw_zero:pw 0=1:=rfl
theorem pw_succ (n:Nat):pw (n+1)=pw n*1000000000:=by show BN ^ (n+1)=BN ^ n*BN;exact Nat.pow_succ BN n
theorem pw_pos (n:Nat):0<pw n:=Nat.pow_pos (by decide)
theorem pw_add (m n:Nat):pw (m+n)=pw m*pw n:=Nat.pow_add _ _ _
theorem pw_le {m n:Nat} (h:m<=n):pw m<=pw n:=Nat.pow_le_pow_right (by decide) h
def dg (m i:Nat):Nat:=m/pw i%1000000000
def lenB (m:Nat):Nat:=if h:m=0 then 0 else lenB (m/1000000000)+1
termination_by m
decreasing_by omega
theorem lenB_zero:lenB 0=0:=by unfold lenB;simp
theorem lenB_pos {m:Nat} (h:m≠0):lenB m=lenB (m/1000000000)+1:=by rw[lenB,dif_neg h]
theorem dg_zero (m:Nat):dg m 0=m%1000000000:=by unfold dg;rw[pw_zero,Nat.div_one]
theorem dg_succ (m i:Nat):dg m (i+1)=dg (m/1000000000) i:=by
 unfold dg;rw[pw_succ,Nat.mul_comm,<- Nat.div_div_eq_div_mul]
theorem dg_lt (m i:Nat):dg m i<1000000000:=Nat.mod_lt _ (by decide)
theorem lt_pw_lenB (m:Nat):m<pw (lenB m):=by
 induction m using Nat.strongRecOn with
 | _ m ih =>
  by_cases h:m=0
  ·subst h;rw[lenB_zero,pw_zero];omega
  ·rw[lenB_pos h,pw_succ];have:=ih (m/1000000000) (by omega);omega
theorem lenB_le {m n:Nat} (h:m<pw n):lenB m<=n:=by
 induction n generalizing m with
 | zero=>rw[pw_zero] at h;rw[show m=0 by omega,lenB_zero];omega
 | succ n ih =>
  by_cases h0:m=0
  ·subst h0;rw[lenB_zero];omega
  ·rw[lenB_pos h0];have:=ih (m:=m/1000000000) (by rw[pw_succ] at h;omega);omega
theorem lenB_ge {m n:Nat} (h:pw n<=m):n<lenB m:=by
 rcases Nat.lt_or_ge n (lenB m) with h1 | h1
 ·exact h1
 ·have:=lt_pw_lenB m;have:=pw_le h1;omega
theorem pw_le_of_lenB {m n:Nat} (h:n<lenB m):pw n<=m:=by
 rcases Nat.lt_or_ge m (pw n) with h1 | h1
 ·have:=lenB_le h1;omega
 ·exact h1
theorem lenB_mono {m n:Nat} (h:m<=n):lenB m<=lenB n:=lenB_le (Nat.lt_of_le_of_lt h (lt_pw_lenB n))
theorem lenB_eq_zero {m:Nat}:lenB m=0↔m=0:=by
 constructor
 ·intro h
  rcases Nat.eq_zero_or_pos m with h0 | h0
  ·exact h0
  ·rw[lenB_pos (by omega)] at h;omega
 ·intro h;subst h;exact lenB_zero
theorem dg_out {m i:Nat} (h:lenB m<=i):dg m i=0:=by
 unfold dg;have h1:=lt_pw_lenB m;have h2:=pw_le h;rw[Nat.div_eq_of_lt (by omega)]
theorem dg_last {m:Nat} (h:m≠0):dg m (lenB m-1)≠0:=by
 induction m using Nat.strongRecOn with
 | _ m ih =>
  rw[lenB_pos h,Nat.add_sub_cancel];by_cases h1:m/1000000000=0
  ·rw[h1,lenB_zero,dg_zero];omega
  ·have:=ih (m/1000000000) (by omega) h1
   have e:lenB (m/1000000000)=(lenB (m/1000000000)-1)+1:=by
    have:=lenB_pos h1;omega
   rw[e,dg_succ];exact this
def sumB (o:Nat->Int):Nat->Int
 | 0=>0
 | n+1=>sumB o n+o n*(pw n:Int)
theorem sumB_congr {o o':Nat->Int} {n:Nat} (h:∀ i,i<n->o i=o' i):sumB o n=sumB o' n:=by
 induction n with
 | zero=>rfl
 | succ n ih=>rw[sumB,sumB,ih fun i hi=>h i (by omega),h n (by omega)]
theorem sumB_bd {o:Nat->Int} {n:Nat} (h:∀ i,i<n->0<=o i/\o i<1000000000):0<=sumB o n/\sumB o n<(pw n:Int):=by
 induction n with
 | zero=>rw[sumB,pw_zero];omega
 | succ n ih =>
  have h1:=ih fun i hi=>h i (by omega)
  obtain⟨h2,h3⟩:=h n (by omega);rw[sumB,pw_succ];have h4:0<=o n*(pw n:Int):=Int.mul_nonneg h2 (by omega);have h5:o n*(pw n:Int)<=999999999*(pw n:Int):=Int.mul_le_mul_of_nonneg_right (by omega) (by omega);omega
theorem sumB_shift (o:Nat->Int) (n:Nat):sumB o (n+1)=o 0+1000000000*sumB (fun i=>o (i+1)) n:=by
 induction n with
 | zero=>show 0+o 0*((pw 0:Nat):Int)=o 0+1000000000*0;rw[pw_zero];omega
 | succ n ih =>
  rw[sumB,ih,sumB,pw_succ,Int.natCast_mul,Int.mul_add]
  have:o (n+1)*((pw n:Int)*((1000000000:Nat):Int))=1000000000*(o (n+1)*(pw n:Int)):=by
   rw[<- Int.mul_assoc,Int.mul_comm];rfl
  omega
theorem sumB_add (o:Nat->Int) (m n:Nat):sumB o (m+n)=sumB o m+(pw m:Int)*sumB (fun i=>o (m+i)) n:=by
 induction n with
 | zero=>simp[sumB]
 | succ n ih =>
  rw[<- Nat.add_assoc,sumB,ih,sumB,pw_add,Int.natCast_mul,Int.mul_add]
  have:o (m+n)*((pw m:Int)*(pw n:Int))=(pw m:Int)*(o (m+n)*(pw n:Int)):=by
   rw[<- Int.mul_assoc,Int.mul_comm (o (m+n)),Int.mul_assoc]
  omega
theorem sumB_zero {o:Nat->Int} {n:Nat} (h:∀ i,i<n->o i=0):sumB o n=0:=by
 induction n with
 | zero=>rfl
 | succ n ih=>rw[sumB,ih fun i hi=>h i (by omega),h n (by omega)];simp
theorem sumB_dg (m:Nat):∀ n,m<pw n->sumB (fun i=>(dg m i:Int)) n=m:=by
 intro n
 induction n generalizing m with
 | zero=>intro h;rw[pw_zero] at h;rw[sumB];omega
 | succ n ih =>
  intro h;rw[sumB_shift]
  have e:(fun i=>((dg m (i+1):Nat):Int))=fun i=>((dg (m/1000000000) i:Nat):Int):=by funext i;rw[dg_succ]
  rw[e,ih (m/1000000000) (by rw[pw_succ] at h;omega),dg_zero];omega
theorem dg_sumB {o:Nat->Int}:∀ {n:Nat},(∀ i,i<n->0<=o i/\o i<1000000000)->∀ i,i<n->(dg (sumB o n).toNat i:Int)=o i:=by
 intro n
 induction n generalizing o with
 | zero=>intro _ i hi;omega
 | succ n ih =>
  intro h i hi;have h0:=h 0 (by omega)
  have hs:=sumB_bd (o:=fun i=>o (i+1)) (n:=n) fun i hi=>h (i+1) (by omega)
  have hb:=sumB_shift o n
  cases i with
  | zero=>rw[dg_zero,hb];omega
  | succ i =>
   have:=ih (o:=fun i=>o (i+1)) (fun i hi=>h (i+1) (by omega)) i (by omega);rw[dg_succ]
   have e:(sumB o (n+1)).toNat/1000000000=(sumB (fun i=>o (i+1)) n).toNat:=by rw[hb];omega
   rw[e];exact this
theorem lenB_sumB {o:Nat->Int} {n:Nat} (h:∀ i,i<n->0<=o i/\o i<1000000000) (hl:0<n->o (n-1)≠0):lenB (sumB o n).toNat=n:=by
 have hb:=sumB_bd h;have h1:lenB (sumB o n).toNat<=n:=lenB_le (by omega)
 rcases Nat.eq_zero_or_pos n with h0 | h0
 ·omega
 ·have h2:n-1<lenB (sumB o n).toNat:=by
   refine lenB_ge ?_;obtain⟨k,rfl⟩:∃ k,n=k+1:=⟨n-1,by omega⟩;have h3:=(sumB_bd (o:=o) (n:=k) fun i hi=>h i (by omega)).1;have h4:=h k (by omega);have h5:=hl h0;simp only[Nat.add_sub_cancel] at h5 ⊢
   have h6:(pw k:Int)<=o k*(pw k:Int):=by
    have:=Int.mul_le_mul_of_nonneg_right (show(1:Int)<=o k by omega) (show(0:Int)<=(pw k:Int) by omega);omega
   have h7:sumB o (k+1)=sumB o k+o k*(pw k:Int):=rfl;omega
  omega
def okN (s:Bool) (n:Nat) (o:Nat->Int):Prop:=(∀ i,i<n->o i<1000000000)/\(n=0->s=false)/\(0<n->o (n-1)≠0)
open Classical in
noncomputable def valN (s:Bool) (n:Nat) (o:Nat->Int):Int:=if okN s n o then (if s=true then-sumB o n else sumB o n) else 0
theorem valN_not {s:Bool} {n:Nat} {o:Nat->Int} (h:¬okN s n o):valN s n o=0:=by unfold valN;rw[if_neg h]
theorem valN_abs {s:Bool} {n:Nat} {o:Nat->Int} (h:okN s n o) (h0:∀ i,i<n->0<=o i):(valN s n o).natAbs=(sumB o n).toNat:=by
 have:=(sumB_bd (o:=o) (n:=n) fun i hi=>⟨h0 i hi,h.1 i hi⟩).1;unfold valN;rw[if_pos h];by_cases hs:s=true
 ·rw[if_pos hs];omega
 ·rw[if_neg hs];omega
theorem valN_len {s:Bool} {n:Nat} {o:Nat->Int} (h:okN s n o) (h0:∀ i,i<n->0<=o i):lenB (valN s n o).natAbs=n:=by
 rw[valN_abs h h0];exact lenB_sumB (fun i hi=>⟨h0 i hi,h.1 i hi⟩) h.2.2
theorem valN_dg {s:Bool} {n:Nat} {o:Nat->Int} (h:okN s n o) (h0:∀ i,i<n->0<=o i) (i:Nat) (hi:i<n):(dg (valN s n o).natAbs i:Int)=o i:=by
 rw[valN_abs h h0];exact dg_sumB (fun i hi=>⟨h0 i hi,h.1 i hi⟩) i hi
theorem valN_neg {s:Bool} {n:Nat} {o:Nat->Int} (h:okN s n o) (h0:∀ i,i<n->0<=o i):decide (valN s n o<0)=s:=by
 have hb:=(sumB_bd (o:=o) (n:=n) fun i hi=>⟨h0 i hi,h.1 i hi⟩).1;have hl:=valN_len h h0;rw[valN_abs h h0] at hl;have h3:=h.2.1;unfold valN;rw[if_pos h]
 cases s with
 | false=>simp;omega
 | true =>
  have hn:n≠0:=fun e=>by have:=h3 e;contradiction
  have:(sumB o n).toNat≠0:=fun e=>by rw[e,lenB_zero] at hl;omega
  simp;omega
end Limb
namespace Mono
open Go.RowKit
abbrev mv (a b c d:Int):Value:=.agg #[.int .u16 a,.int .u16 b,.int .u16 c,.int .u16 d]
abbrev cell (a:Nat->Int) (i:Nat):Value:=.int .u16 (a i)
abbrev mvf (a:Nat->Int):Value:=.agg #[.int .u16 (a 0),.int .u16 (a 1),.int .u16 (a 2),.int .u16 (a 3)]
def Small (a:Nat->Int):Prop:=∀ i,i<4->0<=a i/\a i<=65535
abbrev arr4 (a:Nat->Int):Array Value:=#[.int .u16 (a 0),.int .u16 (a 1),.int .u16 (a 2),.int .u16 (a 3)]
theorem four (a:Nat->Int) (i:Nat) (h:i<(arr4 a).size):(arr4 a)[i]?=some (cell a i):=by
 have h':i<4:=h
 match i,h' with
 | 0,_=>rfl
 | 1,_=>rfl
 | 2,_=>rfl
 | 3,_=>rfl
def mulB (a b:Nat->Int):Bool:=decide (a 0+b 0<=65535/\a 1+b 1<=65535/\a 2+b 2<=65535/\a 3+b 3<=65535)
def mulM (a b:Nat->Int) (k:Nat):Int:=if mulB a b=true then a k+b k else 0
def degM (a:Nat->Int):Int:=a 0+a 1+a 2+a 3
theorem first_bad (p:Nat->Prop) [DecidablePred p] (n:Nat) (h:¬ ∀ k,k<n->p k):∃ k0,k0<n/\(∀ k,k<k0->p k)/\¬p k0:=by
 induction n with
 | zero=>exact absurd (fun k hk=>absurd hk (by omega)) h
 | succ n ih =>
  by_cases h1:∀ k,k<n->p k
  ·refine⟨n,by omega,h1,fun hp=>h fun k hk=>?_⟩;by_cases e:k=n
   ·rw[e];exact hp
   ·exact h1 k (by omega)
  ·obtain⟨k0,h2,h3,h4⟩:=ih h1;exact⟨k0,by omega,h3,h4⟩
theorem all4 (p:Nat->Prop):(∀ k,k<4->p k)↔p 0/\p 1/\p 2/\p 3:=by
 constructor
 ·intro h;exact⟨h 0 (by omega),h 1 (by omega),h 2 (by omega),h 3 (by omega)⟩
 ·intro ⟨h0,h1,h2,h3⟩ k hk
  match k,hk with
  | 0,_=>exact h0
  | 1,_=>exact h1
  | 2,_=>exact h2
  | 3,_=>exact h3
end Mono
end Go.Proofs.YthacfgmdihcffaaGreatDoor
namespace Go.Fresh
open Go.RowKit
variable {P:Program} {ops:Array Oper} {md:Region.Mode} {C:World->Prop}
theorem wpF_gspec {sp:Nat->Spec} {Q:Act->Facts->Prop} {o:Oper} {rest:List Oper} {k:Nat} {a:Act} {F:Facts} (hg:Region.wanted o (yielded ops a.tmps)=true) {V:Value->Prop} {Ψ:Value->World->Prop} (hs:sp k=some (V,Ψ))
  (hr:∀ w,Has md ops C k F w->givesUpon P w (fun v w'=>V v/\Ψ v w') ((execOp a.eval o).run P w)) (hK:∀ v,V v->wpF P md ops C sp Q rest (k+1) (a.put o.dst v) (F.set k (Ψ v))):wpF P md ops C sp Q (o :: rest) k a F :=
 ⟨V,Ψ,.inl ⟨hg,.inr ⟨hs,hr⟩⟩,hK⟩
end Go.Fresh
namespace Go.Proofs.YthacfgmdihcffaaGreatDoor
namespace Limb
def cmpZ (x y:Int):Int:=if x<y then -1 else if y<x then 1 else 0
theorem cmpZ_lt {x y:Int} (h:x<y):cmpZ x y = -1:=by unfold cmpZ;rw[if_pos h]
theorem cmpZ_gt {x y:Int} (h:y<x):cmpZ x y=1:=by unfold cmpZ;rw[if_neg (by omega),if_pos h]
theorem cmpZ_eq {x y:Int} (h:x=y):cmpZ x y=0:=by unfold cmpZ;rw[if_neg (by omega),if_neg (by omega)]
theorem cmpZ_congr {x y u v:Int} (h1:x<y↔u<v) (h2:y<x↔v<u):cmpZ x y=cmpZ u v:=by
 rcases Int.lt_trichotomy x y with h | h | h
 ·rw[cmpZ_lt h,cmpZ_lt (h1.1 h)]
 ·rw[cmpZ_eq h,cmpZ_eq (by have a1:=mt h1.2 (by omega);have a2:=mt h2.2 (by omega);omega)]
 ·rw[cmpZ_gt h,cmpZ_gt (h2.1 h)]
abbrev Dig (o:Nat->Int) (n:Nat):Prop:=∀ i,i<n->0<=o i/\o i<1000000000
theorem sumB_lt {a b:Nat->Int} {k n:Nat} (ha:Dig a n) (hb:Dig b n) (hk:k<n) (heq:∀ j,k<j->j<n->a j=b j) (h:a k<b k):sumB a n<sumB b n:=by
 obtain⟨m,rfl⟩:∃ m,n=(k+1)+m:=⟨n-(k+1),by omega⟩;have e3:=sumB_add a (k+1) m;have e4:=sumB_add b (k+1) m;rw[sumB_congr (o:=fun i=>a (k+1+i)) (o':=fun i=>b (k+1+i)) fun i hi=>heq _ (by omega) (by omega)] at e3
 have h1:=sumB_bd (o:=a) (n:=k) fun i hi=>ha i (by omega)
 have h2:=sumB_bd (o:=b) (n:=k) fun i hi=>hb i (by omega)
 have e1:sumB a (k+1)=sumB a k+a k*(pw k:Int):=rfl;have e2:sumB b (k+1)=sumB b k+b k*(pw k:Int):=rfl;have h3:(a k+1)*(pw k:Int)<=b k*(pw k:Int):=Int.mul_le_mul_of_nonneg_right (by omega) (by omega);rw[Int.add_mul] at h3;omega
def TopDiff (a b:Nat->Int) (n k:Nat):Prop:=k<=n/\(∀ j,k<=j->j<n->a j=b j)/\(0<k->a (k-1)≠b (k-1))
theorem topDiff_any (a b:Nat->Int) (n:Nat):∃ k,TopDiff a b n k:=by
 induction n with
 | zero=>exact⟨0,by omega,fun j _ h=>by omega,fun h=>by omega⟩
 | succ n ih =>
  by_cases h:a n=b n
  ·obtain⟨k,h1,h2,h3⟩:=ih
   exact⟨k,by omega,fun j hj hn=>by
    by_cases e:j=n
    ·rw[e];exact h
    ·exact h2 j hj (by omega),h3⟩
  ·exact⟨n+1,by omega,fun j hj hn=>by omega,fun _=>h⟩
theorem topDiff_cmp {a b:Nat->Int} {n k:Nat} (ha:Dig a n) (hb:Dig b n) (h:TopDiff a b n k):cmpZ (sumB a n) (sumB b n)=if k=0 then 0 else cmpZ (a (k-1)) (b (k-1)):=by
 obtain⟨h1,h2,h3⟩:=h;by_cases hk:k=0
 ·rw[if_pos hk,sumB_congr (o:=a) (o':=b) fun i hi=>h2 i (by omega) hi];exact cmpZ_eq rfl
 ·rw[if_neg hk];have h4:=h3 (by omega)
  rcases Int.lt_or_gt_of_ne h4 with h5 | h5
  ·rw[cmpZ_lt h5,cmpZ_lt (sumB_lt ha hb (show k-1<n by omega) (fun j hj hn=>h2 j (by omega) hn) h5)]
  ·rw[cmpZ_gt h5,cmpZ_gt (sumB_lt hb ha (show k-1<n by omega) (fun j hj hn=>(h2 j (by omega) hn).symm) h5)]
abbrev dgi (m:Nat) (i:Nat):Int:=(dg m i:Int)
theorem dgi_Dig (m n:Nat):Dig (dgi m) n:=fun i _=>⟨by show(0:Int)<=(dg m i:Int);omega,by have:=dg_lt m i;show((dg m i:Nat):Int)<_;omega⟩
theorem sumB_dgi (m:Nat):sumB (dgi m) (lenB m)=m:=sumB_dg m _ (lt_pw_lenB m)
theorem cmp_len {m n:Nat} (h:lenB m<lenB n):m<n:=by
 have h1:=lt_pw_lenB m;have h2:=pw_le_of_lenB (m:=n) (n:=lenB m) h;omega
def cS (f:Nat->Int):Nat->Int
 | 0=>0
 | i+1=>(f i+cS f i)/1000000000
def cD (f:Nat->Int) (i:Nat):Int:=(f i+cS f i)%1000000000
theorem cD_Dig (f:Nat->Int) (n:Nat):Dig (cD f) n:=fun i _=>by unfold cD;omega
theorem cS_sum (f:Nat->Int) (n:Nat):sumB (cD f) n+cS f n*(pw n:Int)=sumB f n:=by
 induction n with
 | zero=>show 0+0*((pw 0:Nat):Int)=0;omega
 | succ n ih =>
  rw[sumB,sumB,<- ih,cS,pw_succ,Int.natCast_mul]
  have e:f n+cS f n=(f n+cS f n)/1000000000*1000000000+cD f n:=by unfold cD;omega
  have e2:(f n+cS f n)*(pw n:Int)=((f n+cS f n)/1000000000*1000000000+cD f n)*(pw n:Int):=by rw[<- e]
  rw[Int.add_mul,Int.add_mul] at e2
  have e3:(f n+cS f n)/1000000000*((pw n:Int)*((1000000000:Nat):Int))=(f n+cS f n)/1000000000*1000000000*(pw n:Int):=by
   rw[Int.mul_comm (pw n:Int),<- Int.mul_assoc];rfl
  omega
theorem cS_bd {f:Nat->Int} {lo hi:Int} {n:Nat} (hl:lo<=0) (hh:0<=hi) (h:∀ i,i<n->lo*999999999<=f i/\f i<=hi*999999999):lo<=cS f n/\cS f n<=hi:=by
 induction n with
 | zero=>exact⟨hl,hh⟩
 | succ n ih =>
  have h1:=ih fun i hi=>h i (by omega)
  have h2:=h n (by omega);rw[cS];omega
theorem cS_fits {f:Nat->Int} {n:Nat} (h0:0<=sumB f n) (h1:sumB f n<(pw n:Int)):cS f n=0/\sumB (cD f) n=sumB f n:=by
 have h2:=cS_sum f n;have h3:=sumB_bd (cD_Dig f n)
 have hp:(0:Int)<(pw n:Int):=by have:=pw_pos n;omega
 have h4:cS f n=0:=by
  rcases Int.lt_trichotomy (cS f n) 0 with h | h | h
  ·have:cS f n*(pw n:Int)<=-1*(pw n:Int):=Int.mul_le_mul_of_nonneg_right (by omega) (by omega);omega
  ·exact h
  ·have:1*(pw n:Int)<=cS f n*(pw n:Int):=Int.mul_le_mul_of_nonneg_right (by omega) (by omega);omega
 rw[h4] at h2;exact⟨h4,by omega⟩
theorem sumB_plus (f g:Nat->Int) (n:Nat):sumB (fun i=>f i+g i) n=sumB f n+sumB g n:=by
 induction n with
 | zero=>rfl
 | succ n ih=>rw[sumB,sumB,sumB,ih,Int.add_mul];omega
theorem sumB_times (f:Nat->Int) (c:Int) (n:Nat):sumB (fun i=>f i*c) n=sumB f n*c:=by
 induction n with
 | zero=>show(0:Int)=0*c;omega
 | succ n ih =>
  rw[sumB,sumB,ih,Int.add_mul]
  have:f n*c*(pw n:Int)=f n*(pw n:Int)*c:=by rw[Int.mul_assoc,Int.mul_comm c,<- Int.mul_assoc]
  omega
def part (o:Nat->Int) (n i:Nat):Int:=if i<n then o i else 0
theorem sumB_part (o:Nat->Int) {n m:Nat} (h:n<=m):sumB (part o n) m=sumB o n:=by
 obtain⟨k,rfl⟩:∃ k,m=n+k:=⟨m-n,by omega⟩;rw[sumB_add,sumB_zero (o:=fun i=>part o n (n+i)) (n:=k) fun i _=>by unfold part;rw[if_neg (by omega)]];rw[sumB_congr (o:=part o n) (o':=o) fun i hi=>by unfold part;rw[if_pos hi]];omega
end Limb
namespace Mono
open Go.RowKit
theorem degree_any (a:Nat->Int) (w:World) (ha:Small a) :
  Calls Tryz.prog 199 #[mvf a] w fun e w'=>e=.returned (.int .i64 (degM a))/\Below w.heap.size w w':=by
 obtain⟨p0,q0⟩:=ha 0 (by omega);obtain⟨p1,q1⟩:=ha 1 (by omega);obtain⟨p2,q2⟩:=ha 2 (by omega);obtain⟨p3,q3⟩:=ha 3 (by omega);clear ha
 have i0:∀ w,(Instr.index 35 (mvf a) (.int .i64 0)).run Tryz.prog w=.ok (.int .u16 (a 0)) w:=fun _=>by kernel_rfl
 have i1:∀ w,(Instr.index 35 (mvf a) (.int .i64 1)).run Tryz.prog w=.ok (.int .u16 (a 1)) w:=fun _=>by kernel_rfl
 have i2:∀ w,(Instr.index 35 (mvf a) (.int .i64 2)).run Tryz.prog w=.ok (.int .u16 (a 2)) w:=fun _=>by kernel_rfl
 have i3:∀ w,(Instr.index 35 (mvf a) (.int .i64 3)).run Tryz.prog w=.ok (.int .u16 (a 3)) w:=fun _=>by kernel_rfl
 go_enter Tryz.func199,Tryz.ntmps199;go_wp2;go_rounds 5;go_ret;exact⟨rfl,by go_grown⟩
end Mono
namespace Limb
open Go.RowKit Go.Sort
abbrev uc (o:Nat->Int) (i:Nat):Value:=.int .u32 (o i)
abbrev numV (s:Bool) (a:Option Addr) (n cap:Nat):Value:=.agg #[.bool s,.slice a n cap]
structure Rd (w:World) (a:Option Addr) (n:Nat) (o:Nat->Int):Prop where
 cells:0<n->∃ b off,a=some ⟨b,off,none⟩/\∀ i,i<n->w.cell? ⟨b,off+i,none⟩=some (uc o i)
 rng:∀ i,i<n->0<=o i/\o i<=4294967295
theorem Rd.nil (w:World) (a:Option Addr) (o:Nat->Int):Rd w a 0 o:=⟨fun h=>absurd h (by omega),fun i h=>absurd h (by omega)⟩
theorem Rd.below {w w':World} {a:Option Addr} {n:Nat} {o:Nat->Int} (h:Rd w a n o) (hb:Below w.heap.size w w'):Rd w' a n o:=by
 refine⟨fun hn=>?_,h.rng⟩;obtain⟨b,off,ha,hc⟩:=h.cells hn;refine⟨b,off,ha,fun i hi=>?_⟩;have h1:=hc i hi;have h2:b<w.heap.size:=block_lt_of_cell h1;exact(hb.cell (p:=⟨b,off+i,none⟩) h2).trans h1
theorem Rd.drewN {w:World} {a:Option Addr} {n:Nat} {o:Nat->Int} (h:Rd w a n o) (m:Nat):Rd (w.drewN m) a n o:=⟨h.cells,h.rng⟩
theorem Rd.le {w:World} {a:Option Addr} {n m:Nat} {o:Nat->Int} (h:Rd w a n o) (hm:m<=n):Rd w a m o:=by
 refine⟨fun hn=>?_,fun i hi=>h.rng i (by omega)⟩;obtain⟨b,off,ha,hc⟩:=h.cells (by omega);exact⟨b,off,ha,fun i hi=>hc i (by omega)⟩
theorem Rd.congr {w:World} {a:Option Addr} {n:Nat} {o o':Nat->Int} (h:Rd w a n o) (e:∀ i,i<n->o i=o' i):Rd w a n o':=by
 refine⟨fun hn=>?_,fun i hi=>by rw[<- e i hi];exact h.rng i hi⟩;obtain⟨b,off,ha,hc⟩:=h.cells hn;exact⟨b,off,ha,fun i hi=>by rw[hc i hi];show some (Value.int .u32 (o i))=_;rw[e i hi]⟩
structure Own (T:Nat) (w:World) (base:Nat) (a:Option Addr) (n cap:Nat) (o:Nat->Int):Prop where
 le:n<=cap
 place:(a=none/\n=0/\cap=0)\/∃ g cur,a=some ⟨g,0,none⟩/\base<=g/\w.heap[g]?=some (.cells cur T (0,0))/\cap<=cur.size/\∀ i,i<n->cur[i]?=some (uc o i)
 rng:∀ i,i<n->0<=o i/\o i<=4294967295
theorem Own.rd {T:Nat} {w:World} {base:Nat} {a:Option Addr} {n cap:Nat} {o:Nat->Int} (h:Own T w base a n cap o):Rd w a n o:=by
 refine⟨fun hn=>?_,h.rng⟩
 rcases h.place with ⟨_,h0,_⟩ | ⟨g,cur,ha,_,hg,_,hc⟩
 ·omega
 ·exact⟨g,0,ha,fun i hi=>by rw[cell_of_row _ _ _ _ _ _ hg,Nat.zero_add];exact hc i hi⟩
theorem Own.below {T:Nat} {w w':World} {base:Nat} {a:Option Addr} {n cap:Nat} {o:Nat->Int} (h:Own T w base a n cap o) (hb:Below w.heap.size w w'):Own T w' base a n cap o:=by
 refine⟨h.le,?_,h.rng⟩
 rcases h.place with h0 | ⟨g,cur,ha,hbg,hg,hcap,hc⟩
 ·exact Or.inl h0
 ·exact Or.inr ⟨g,cur,ha,hbg,(hb.block g (lt_of_block hg)).trans hg,hcap,hc⟩
theorem Own.mono {T:Nat} {w:World} {base base':Nat} {a:Option Addr} {n cap:Nat} {o:Nat->Int} (h:Own T w base a n cap o) (hb:base'<=base):Own T w base' a n cap o:=by
 refine⟨h.le,?_,h.rng⟩
 rcases h.place with h0 | ⟨g,cur,ha,hbg,hg,hcap,hc⟩
 ·exact Or.inl h0
 ·exact Or.inr ⟨g,cur,ha,by omega,hg,hcap,hc⟩
theorem results_cell {P:Program} {fn:Func} {p:Tmp} {ty:TypeId} (h:fn.results=#[.cell p ty]) (tmps:Array Value) (w:World) (g:Nat) (t:TypeId) (cs:Array Value) (fr:Nat × Nat) (d:TypeDesc)
  (hp:tmps.getD p undef=.pointer (some ⟨g,0,none⟩)) (hg:w.heap[g]?=some (.cells cs t fr))
  (hu:P.underlying ty=some d) (hd:(match d with | .struct _ | .array _ _=>true | _=>false)=true) (hi:(P.info? ty).map (·.size)=some cs.size) :
  (results fn tmps).run P w=.ok (.agg cs) w:=results_cell_row h tmps w g t cs fr d hp hg hu hd hi
theorem bcell {W w1:World} (hb:Below W.heap.size W w1):(∀ b o,b<W.heap.size->w1.cell? ⟨b,o,none⟩=W.cell? ⟨b,o,none⟩)/\(∀ b o,b<W.heap.size->w1.frozen? ⟨b,o,none⟩=W.frozen? ⟨b,o,none⟩) :=
 ⟨fun b o h=>hb.cell (p:=⟨b,o,none⟩) h,fun b o h=>hb.frozen (p:=⟨b,o,none⟩) h⟩
theorem bdrewN {B:Nat} {a w:World} (h:Below B a w) (n:Nat):Below B a (w.drewN n):=⟨h.os,h.tape,h.output,h.size,h.block⟩
theorem qg {B:Nat} {u w:World} (h:Below B u w:=by(repeat' (first | (with_reducible exact zk) | (with_reducible assumption) | (with_reducible refine Below.alloc ?_ ?_ _) | (with_reducible refine Below.drew ?_) | (with_reducible refine bdrewN ?_ _) | (with_reducible refine Below.setCell ?_ ?_ _) | (with_reducible refine Below.frame ?_ _) | go_size))):Below B u w:=h
end Limb
end Go.Proofs.YthacfgmdihcffaaGreatDoor
