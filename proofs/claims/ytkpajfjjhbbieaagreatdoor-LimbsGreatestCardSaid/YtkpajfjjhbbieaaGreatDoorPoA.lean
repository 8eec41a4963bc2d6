/-
  A REGION THAT DRAWS ITS ORDER, WHOSE CALLEES MAKE MEMORY OF THEIR OWN AND HAND BACK WHAT IS NOT KNOWN BEFOREHAND (a list at a place of its own).
  Of each operation one of two things is shown, in the order of the text, in whatever world of a class that keeps under growth ('Below'):
  it only reads, and its value is known; or it has a spec, given beforehand: a value of a kind V, with a fact on the world that keeps under growth.
  An operation may lean on the facts of those that it waits for. Behind them stands a tail in sequence. Then the region's wp holds, whatever the order.
  A REGION THAT DRAWS ITS ORDER, its operations writing memory as well: as Fresh, with any relation G between worlds, that each world stands in with itself, in the place of 'Below'. (Printed out of Fresh by a program.)
  From a walk that ends 'true, and below the heap's old size nothing has turned' to what a law's row asks; how arrays of numbers of 16 bits come in. Of whatever program.
  Plain lemmas on great numbers: parts of nine decimal digits, how many there are, which one stands where. No program in sight.
  A guarded operation of a drawn region that has a spec.
  Plain lemmas on great numbers: the order of two amounts, what goes on being carried. No program in sight.
  Lists of parts in memory: what may be read, what a call has made itself.
  Plain lemmas on products of great numbers, as it is done by hand, row by row. No program in sight.
  A Book's lists that hold nothing: they are neither filled nor grown, and look as they should.
  The walks of part, amounts, cmp.Compare, Check, of, Clip of package limbs.
  Plain lemmas on the division of amounts. No program in sight.
  The walks of amounts, ContainsFunc, Check, of, Clip, cut of package limbs.
  Plain lemmas on long division: one part of the quotient at a time. No program in sight.
  How a number comes in among a law's arguments.
-/
import Derived.Test.YtkpajfjjhbbieaaGreatDoorRows
import Derived.Deep.Quiet
import Derived.StillTail
import Derived.StillTailTactics
import Derived.Below
import Derived.WalkKit
import Derived.ProofKit
import Derived.OpenShut
import Derived.WalkSpells
import Derived.WalkLawsBesides
import Derived.BigQuiet
import Derived.Handy
import Derived.Deep.OwnRows
import Derived.Lib.Hide
import Derived.Lib.QuietBelow
set_option linter.unusedSimpArgs false
set_option linter.unusedVariables false
namespace Go.Fresh
open Go.RowKit

variable {P : Program} {ops : Array Oper} {md : Region.Mode} {C : World → Prop}

/-- Of one operation: nothing (it only reads); or what kind of value it yields, and which fact is then known of the world. -/
abbrev Spec := Option ((Value → Prop) × (Value → World → Prop))
def Spec.keeps (s : Spec) : Prop := match s with
  | none => True
  | some s => ∀ v w w', s.2 v w → Below w.heap.size w w' → s.2 v w'
abbrev Facts := Nat → World → Prop
def Facts.set (F : Facts) (k : Nat) (Φ : World → Prop) : Facts := fun i w => if i = k then Φ w else F i w
def Facts.keeps (F : Facts) : Prop := ∀ i w w', F i w → Below w.heap.size w w' → F i w'
theorem Facts.set_same (F : Facts) (k : Nat) (Φ : World → Prop) (w : World) : F.set k Φ k w = Φ w := by simp [Facts.set]
theorem Facts.set_ne (F : Facts) {i k : Nat} (h : i ≠ k) (Φ : World → Prop) (w : World) : F.set k Φ i w = F i w := by simp [Facts.set, h]
theorem Facts.set_comm (F : Facts) {i k : Nat} (h : i ≠ k) (Φ Ψ : World → Prop) : (F.set k Φ).set i Ψ = (F.set i Ψ).set k Φ := by
  funext j w
  unfold Facts.set
  by_cases h1 : j = i
  · by_cases h2 : j = k
    · omega
    · simp [h1, h]
  · simp [h1]
theorem Facts.keeps_set {F : Facts} (hF : F.keeps) {k : Nat} {Φ : World → Prop} (hΦ : ∀ w w', Φ w → Below w.heap.size w w' → Φ w') : (F.set k Φ).keeps := by
  intro i w w' h hb
  unfold Facts.set at *
  by_cases hi : i = k
  · simp only [hi, if_true] at h ⊢; exact hΦ _ _ h hb
  · simp only [hi, if_false] at h ⊢; exact hF _ _ _ h hb

/-- It only reads. -/
def readsUpon (w : World) (u : Value) : Result Next → Prop
  | .ok (.value x) w' => w' = w ∧ x = u
  | .ok .skip w' => w' = w ∧ u = undef
  | _ => False
/-- It yields a value, in a world that has grown. -/
def givesUpon (P : Program) (w : World) (Post : Value → World → Prop) : Result Next → Prop
  | .ok (.value x) w' => Post x w' ∧ Below w.heap.size w w'
  | .ok (.enter f args) w' => Calls P f args w' fun e w'' => ∃ v, e = .returned v ∧ Post v w'' ∧ Below w.heap.size w w''
  | _ => False
attribute [go_sem] readsUpon givesUpon

/-- The facts that operation k may lean on. -/
def Has (md : Region.Mode) (ops : Array Oper) (C : World → Prop) (k : Nat) (F : Facts) (w : World) : Prop := C w ∧ ∀ i, Region.waitsFor md ops k i = true → F i w

/-- In state a, under F, operation number k yields a value of the kind V, and then Ψ. -/
def Yields (P : Program) (md : Region.Mode) (ops : Array Oper) (C : World → Prop) (s : Spec) (k : Nat) (o : Oper) (a : Act) (F : Facts) (V : Value → Prop) (Ψ : Value → World → Prop) : Prop :=
  (Region.wanted o (yielded ops a.tmps) = true ∧
    ((s = none ∧ ∃ u, V = (fun v => v = u) ∧ Ψ = (fun _ _ => True) ∧ ∀ w, Has md ops C k F w → readsUpon w u ((execOp a.eval o).run P w)) ∨
     (s = some (V, Ψ) ∧ ∀ w, Has md ops C k F w → givesUpon P w (fun v w' => V v ∧ Ψ v w') ((execOp a.eval o).run P w)))) ∨
  (Region.wanted o (yielded ops a.tmps) = false ∧ V = (fun v => v = undef) ∧ Ψ = fun _ _ => True)

theorem Yields.uniq {s : Spec} {k : Nat} {o : Oper} {a : Act} {F : Facts} {V V' : Value → Prop} {Ψ Ψ' : Value → World → Prop} {w : World} (hw : Has md ops C k F w)
    (h : Yields P md ops C s k o a F V Ψ) (h' : Yields P md ops C s k o a F V' Ψ') : V = V' ∧ Ψ = Ψ' := by
  rcases h with ⟨w1, h | h⟩ | ⟨w1, e1, e2⟩ <;> rcases h' with ⟨w2, h' | h'⟩ | ⟨w2, e1', e2'⟩
  · obtain ⟨_, u, rfl, rfl, hr⟩ := h
    obtain ⟨_, u', rfl, rfl, hr'⟩ := h'
    have h1 := hr w hw
    have h2 := hr' w hw
    revert h1 h2
    generalize (execOp a.eval o).run P w = r
    intro h1 h2
    have e : u = u' := by
      cases r with
      | ok n w' =>
        cases n <;> simp only [readsUpon] at h1 h2
        · rw [← h1.2, h2.2]
        · rw [h1.2, h2.2]
      | halt x w' => simp only [readsUpon] at h1
    rw [e]
    exact ⟨rfl, rfl⟩
  · rw [h.1] at h'; cases h'.1
  · rw [w1] at w2; cases w2
  · rw [h'.1] at h; cases h.1
  · have := h.1.symm.trans h'.1
    simp only [Option.some.injEq, Prod.mk.injEq] at this
    exact this
  · rw [w1] at w2; cases w2
  · rw [w1] at w2; cases w2
  · rw [w1] at w2; cases w2
  · exact ⟨e1.trans e1'.symm, e2.trans e2'.symm⟩

theorem Yields.keeps {s : Spec} {k : Nat} {o : Oper} {a : Act} {F : Facts} {V : Value → Prop} {Ψ : Value → World → Prop} (hs : s.keeps)
    (h : Yields P md ops C s k o a F V Ψ) : ∀ v w w', Ψ v w → Below w.heap.size w w' → Ψ v w' := by
  rcases h with ⟨_, ⟨_, u, rfl, rfl, _⟩ | ⟨rfl, _⟩⟩ | ⟨_, rfl, rfl⟩
  · exact fun _ _ _ _ _ => trivial
  · exact hs
  · exact fun _ _ _ _ _ => trivial

/-- The facts hold on. -/
theorem keep_all {F : Facts} (hF : F.keeps) {k : Nat} {Φ : World → Prop} {w w' : World} (hw : ∀ i, F i w) (hb : Below w.heap.size w w') (hΦ : Φ w') : ∀ i, F.set k Φ i w' := by
  intro i
  unfold Facts.set
  by_cases hi : i = k
  · simp only [hi, if_true]; exact hΦ
  · simp only [hi, if_false]; exact hF _ _ _ (hw i) hb

theorem Yields.run {s : Spec} {k : Nat} {o : Oper} {a : Act} {F : Facts} {V : Value → Prop} {Ψ : Value → World → Prop} {w : World}
    (hCg : ∀ w w', C w → Below w.heap.size w w' → C w') (hF : F.keeps) (hw : C w) (hFw : ∀ i, F i w) (h : Yields P md ops C s k o a F V Ψ) :
    ∃ v w', V v ∧ C w' ∧ ∀ i, F.set k (Ψ v) i w' := by
  have hH : Has md ops C k F w := ⟨hw, fun i _ => hFw i⟩
  rcases h with ⟨_, ⟨_, u, rfl, rfl, _⟩ | ⟨rfl, hg⟩⟩ | ⟨_, rfl, rfl⟩
  · exact ⟨u, w, rfl, hw, keep_all hF hFw (Below.refl _ _) trivial⟩
  · have h1 := hg w hH
    revert h1
    generalize (execOp a.eval o).run P w = r
    intro h1
    cases r with
    | ok n w' =>
      cases n <;> simp only [givesUpon] at h1
      case value x => exact ⟨x, w', h1.1.1, hCg _ _ hw h1.2, keep_all hF hFw h1.2 h1.1.2⟩
      case enter f args =>
        obtain ⟨e, w'', fr, ⟨v, rfl, hp, hb⟩, _⟩ := h1 []
        exact ⟨v, w'', hp.1, hCg _ _ hw hb, keep_all hF hFw hb hp.2⟩
    | halt x w' => simp only [givesUpon] at h1
  · exact ⟨undef, w, rfl, hw, keep_all hF hFw (Below.refl _ _) trivial⟩

def Sat (C : World → Prop) (F : Facts) : Prop := ∃ w, C w ∧ ∀ i, F i w
def fOp (P : Program) (md : Region.Mode) (ops : Array Oper) (C : World → Prop) (sp : Nat → Spec) (i : Nat) (K : Act → (World → Prop) → Prop) (a : Act) (F : Facts) : Prop :=
  ∃ o V Ψ, ops[i]? = some o ∧ Yields P md ops C (sp i) i o a F V Ψ ∧ ∀ v, V v → K (a.put o.dst v) (Ψ v)
/-- Whatever order is picked from here on. -/
def wpAnyF (P : Program) (md : Region.Mode) (ops : Array Oper) (C : World → Prop) (sp : Nat → Spec) (n : Nat) (L : Array Bool → Act → Facts → Prop) : Nat → Array Bool → Act → Facts → Prop
  | 0, listed, a, F => Sat C F → L listed a F
  | f + 1, listed, a, F => Sat C F → Region.ready md ops listed ≠ [] ∧
      ∀ i ∈ Region.ready md ops listed, i < n ∧ fOp P md ops C sp i (fun a' Φ => wpAnyF P md ops C sp n L f (listed.setIfInBounds i true) a' (F.set i Φ)) a F
theorem wpAnyF_guard {sp : Nat → Spec} {n : Nat} {L : Array Bool → Act → Facts → Prop} {f : Nat} {listed : Array Bool} {a : Act} {F : Facts}
    (h : Sat C F → wpAnyF P md ops C sp n L f listed a F) : wpAnyF P md ops C sp n L f listed a F := by
  cases f with
  | zero => exact fun hs => h hs hs
  | succ f => exact fun hs => h hs hs

theorem wpOp_of_fOp {sp : Nat → Spec} {i : Nat} {a : Act} {F : Facts} {K : Act → (World → Prop) → Prop} {K' : Act → World → Prop} {Q' : Exit → Act → World → Prop} {w : World}
    (hsp : ∀ i, (sp i).keeps) (hCg : ∀ w w', C w → Below w.heap.size w w' → C w') (hF : F.keeps) (hw : C w) (hFw : ∀ i, F i w)
    (h : ∀ a' Φ w', C w' → (F.set i Φ).keeps → (∀ j, F.set i Φ j w') → K a' Φ → K' a' w') (hh : fOp P md ops C sp i K a F) : wpOp P ops Q' i K' a w := by
  obtain ⟨o, V, Ψ, ho, hY, hK⟩ := hh
  have hH : Has md ops C i F w := ⟨hw, fun i _ => hFw i⟩
  have hkeep := fun v => Facts.keeps_set hF (k := i) (hY.keeps (hsp i) v)
  unfold wpOp
  simp only [ho]
  rcases hY with ⟨hwd, ⟨_, u, rfl, rfl, hr⟩ | ⟨_, hg⟩⟩ | ⟨hwd, rfl, rfl⟩
  · simp only [hwd, if_true]
    refine .inl ?_
    have h1 := hr w hH
    unfold Oper.wp
    revert h1
    generalize (execOp a.eval o).run P w = r
    intro h1
    cases r with
    | ok n w' =>
      cases n <;> simp only [readsUpon] at h1 <;> simp only [Oper.upon]
      case value x =>
        obtain ⟨rfl, rfl⟩ := h1
        exact h _ _ _ hw (hkeep x) (keep_all hF hFw (Below.refl _ _) trivial) (hK _ rfl)
      case skip =>
        obtain ⟨rfl, rfl⟩ := h1
        exact h _ _ _ hw (hkeep undef) (keep_all hF hFw (Below.refl _ _) trivial) (hK _ rfl)
    | halt x w' => simp only [readsUpon] at h1
  · simp only [hwd, if_true]
    refine .inl ?_
    have h1 := hg w hH
    unfold Oper.wp
    revert h1
    generalize (execOp a.eval o).run P w = r
    intro h1
    cases r with
    | ok n w' =>
      cases n <;> simp only [givesUpon] at h1 <;> simp only [Oper.upon]
      case value x => exact h _ _ _ (hCg _ _ hw h1.2) (hkeep x) (keep_all hF hFw h1.2 h1.1.2) (hK _ h1.1.1)
      case enter f args =>
        refine h1.mono fun e w'' hp => ?_
        obtain ⟨v, rfl, hp, hb⟩ := hp
        exact h _ _ _ (hCg _ _ hw hb) (hkeep v) (keep_all hF hFw hb hp.2) (hK _ hp.1)
    | halt x w' => simp only [givesUpon] at h1
  · simp only [hwd, Bool.false_eq_true, if_false]
    exact h _ _ _ hw (hkeep undef) (keep_all hF hFw (Below.refl _ _) trivial) (hK _ rfl)

theorem wpAny_of_headF {sp : Nat → Spec} {n g : Nat} {L : Array Bool → Act → Facts → Prop} {Q' : Exit → Act → World → Prop}
    (hsp : ∀ i, (sp i).keeps) (hCg : ∀ w w', C w → Below w.heap.size w w' → C w')
    (hL : ∀ listed a F w, C w → (∀ i, F i w) → L listed a F → wpAny P md ops Q' g listed a w) :
    ∀ (f : Nat) (listed : Array Bool) (a : Act) (F : Facts) (w : World), F.keeps → C w → (∀ i, F i w) → wpAnyF P md ops C sp n L f listed a F → wpAny P md ops Q' (f + g) listed a w
  | 0, listed, a, F, w, hF, hw, hFw, h => by rw [Nat.zero_add]; exact hL _ _ _ _ hw hFw (h ⟨w, hw, hFw⟩)
  | f + 1, listed, a, F, w, hF, hw, hFw, h => by
    rw [show f + 1 + g = (f + g) + 1 by omega]
    have h1 := h ⟨w, hw, hFw⟩
    exact ⟨fun h0 => absurd h0 h1.1, fun i hi => wpOp_of_fOp hsp hCg hF hw hFw (fun a' Φ w' hw' hF' hFw' h' => wpAny_of_headF hsp hCg hL f _ a' _ w' hF' hw' hFw' h') (h1.2 i hi).2⟩

/-- What an operation apart has put makes no difference. -/
theorem Yields.of_same {s : Spec} {k : Nat} {o : Oper} {a a' : Act} {F F' : Facts} {V : Value → Prop} {Ψ : Value → World → Prop} (h : Yields P md ops C s k o a F V Ψ)
    (he : execOp a'.eval o = execOp a.eval o) (hwd : Region.wanted o (yielded ops a'.tmps) = Region.wanted o (yielded ops a.tmps)) (hF : ∀ w, Has md ops C k F' w → Has md ops C k F w) :
    Yields P md ops C s k o a' F' V Ψ := by
  unfold Yields at *
  rw [he, hwd]
  rcases h with ⟨w1, ⟨e, u, e1, e2, h⟩ | ⟨e, h⟩⟩ | h
  · exact .inl ⟨w1, .inl ⟨e, u, e1, e2, fun w hw => h w (hF w hw)⟩⟩
  · exact .inl ⟨w1, .inr ⟨e, fun w hw => h w (hF w hw)⟩⟩
  · exact .inr h

theorem not_waits {k i : Nat} {o : Oper} (ho : ops[k]? = some o) (h : ∀ e ∈ o.after, Region.binds md e = true → e.on ≠ i) : Region.waitsFor md ops k i = false := by
  cases hb : Region.waitsFor md ops k i with
  | false => rfl
  | true =>
    obtain ⟨o', ho', e, he, hb, hon⟩ := Region.waitsFor_spec hb
    have : o' = o := Option.some.inj (ho'.symm.trans ho)
    subst this
    exact absurd hon (h e he hb)
theorem Has.of_set {F : Facts} {k i : Nat} {Φ : World → Prop} {w : World} (hn : Region.waitsFor md ops k i = false) (h : Has md ops C k (F.set i Φ) w) : Has md ops C k F w := by
  refine ⟨h.1, fun j hj => ?_⟩
  have hji : j ≠ i := fun e => by rw [e, hn] at hj; cases hj
  have := h.2 j hj
  rwa [Facts.set_ne F hji] at this
theorem Has.to_set {F : Facts} {k i : Nat} {Φ : World → Prop} {w : World} (hn : Region.waitsFor md ops k i = false) (h : Has md ops C k F w) : Has md ops C k (F.set i Φ) w := by
  refine ⟨h.1, fun j hj => ?_⟩
  have hji : j ≠ i := fun e => by rw [e, hn] at hj; cases hj
  rw [Facts.set_ne F hji]
  exact h.2 j hj

/-- An operation that may come up now may be taken first. -/
theorem wpAnyF_first {sp : Nat → Spec} {n i : Nat} {oi : Oper} {L : Array Bool → Act → Facts → Prop} (hsp : ∀ i, (sp i).keeps) (hCg : ∀ w w', C w → Below w.heap.size w w' → C w')
    (hi : ops[i]? = some oi) (hsel : ∀ (j : Nat) (o : Oper) cs b, ops[j]? = some o → o.op ≠ .select cs b)
    (hs : Region.sinkB md ops n = true) (hc : Region.chainB md ops n = true) (hn : n < ops.size) (hin : i < n)
    (hdone : ∀ listed a F, L listed a F → ∀ j ∈ Region.ready md ops listed, n ≤ j) {V : Value → Prop} {Ψ : Value → World → Prop} :
    ∀ (f : Nat) (listed : Array Bool) (a : Act) (F : Facts), HeadInv md ops n listed → F.keeps → (∀ k, listed.getD k false = false → ∀ w, F k w) →
      (∀ j oj, ops[j]? = some oj → j ≠ i → listed.getD j true = false → (∀ e ∈ oj.after, Region.binds md e = true → e.on ≠ i) → oi.apart ops oj = true) →
      i ∈ Region.ready md ops listed → Yields P md ops C (sp i) i oi a F V Ψ →
      (∀ v, V v → wpAnyF P md ops C sp n L f (listed.setIfInBounds i true) (a.put oi.dst v) (F.set i (Ψ v))) → wpAnyF P md ops C sp n L (f + 1) listed a F := by
  intro f
  induction f with
  | zero =>
    intro listed a F inv hF hFt _ hr hy H hsat
    have hun := (mem_ready.1 hr).1
    obtain ⟨w, hw, hFw⟩ := hsat
    obtain ⟨v, w', hv, hw', hFw'⟩ := hy.run hCg hF hw hFw
    have H0 := H v hv ⟨w', hw', hFw'⟩
    refine ⟨fun h => (by rw [h] at hr; cases hr), fun j hj => ?_⟩
    have hjn : j < n := by
      rcases Nat.lt_or_ge j n with h | h
      · exact h
      · exact absurd hj (tail_waits hs hc hn inv _ i rfl hin hun j h)
    refine ⟨hjn, ?_⟩
    by_cases hji : j = i
    · subst hji; exact ⟨oi, V, Ψ, hi, hy, H⟩
    · have := hdone _ _ _ H0 j (ready_mono hj hji)
      omega
  | succ f ih =>
    intro listed a F inv hF hFt hfree hr hy H hsat
    have hun := (mem_ready.1 hr).1
    obtain ⟨w, hw, hFw⟩ := hsat
    obtain ⟨v0, w0, hv0, hw0, hFw0⟩ := hy.run hCg hF hw hFw
    have H0 := H v0 hv0 ⟨w0, hw0, hFw0⟩
    refine ⟨fun h => (by rw [h] at hr; cases hr), fun j hj => ?_⟩
    have hjn : j < n := by
      rcases Nat.lt_or_ge j n with h | h
      · exact h
      · exact absurd hj (tail_waits hs hc hn inv _ i rfl hin hun j h)
    refine ⟨hjn, ?_⟩
    by_cases hji : j = i
    · subst hji; exact ⟨oi, V, Ψ, hi, hy, H⟩
    · obtain ⟨hjun, oj, hoj, hall⟩ := mem_ready.1 hj
      have hnot : ∀ e ∈ oj.after, Region.binds md e = true → e.on ≠ i := fun e he hb heq => by
        have h1 := hall e he hb
        rw [heq, getD_both hun] at h1
        cases h1
      have hwji := not_waits (md := md) hoj hnot
      have hwij : Region.waitsFor md ops i j = false := by
        obtain ⟨_, o', ho', hall'⟩ := mem_ready.1 hr
        refine not_waits ho' fun e he hb heq => ?_
        have h1 := hall' e he hb
        rw [heq, getD_both hjun] at h1
        cases h1
      have hap := hfree j oj hoj hji hjun hnot
      obtain ⟨p1, p2, p3⟩ := Oper.apart_spec hap
      have back : ∀ (v : Value) {V' : Value → Prop} {Ψ' : Value → World → Prop}, Yields P md ops C (sp j) j oj (a.put oi.dst v) (F.set i (Ψ v)) V' Ψ' → Yields P md ops C (sp j) j oj a F V' Ψ' := fun v _ _ h =>
        h.of_same (execOp_put oj (hsel j oj · · hoj) a oi.dst v p1).symm (wanted_put oj a oi.dst v p1).symm (fun _ h => h.to_set hwji)
      obtain ⟨oj', Vj, Ψj, hoj', hYj, _⟩ := (H0.2 j (ready_mono hj hji)).2
      obtain rfl : oj' = oj := Option.some.inj (hoj'.symm.trans hoj)
      have hYj0 := back v0 hYj
      refine ⟨oj', Vj, Ψj, hoj, hYj0, fun vj hvj => ?_⟩
      have hun' : (listed.setIfInBounds j true).getD i true = false := by rw [getD_set_ne true hji]; exact hun
      refine ih (listed.setIfInBounds j true) (a.put oj'.dst vj) (F.set j (Ψj vj)) (inv.set hj hjn) (Facts.keeps_set hF (hYj0.keeps (hsp j) vj)) (fun k hk w => ?_) (fun k ok hk hki hun hno => ?_) (ready_mono hr (Ne.symm hji))
        (hy.of_same (execOp_put oi (hsel i oi · · hi) a oj'.dst vj p3) (wanted_put oi a oj'.dst vj p3) (fun _ h => h.of_set hwij)) (fun v hv => wpAnyF_guard fun hsat2 => ?_)
      · have hkj : k ≠ j := fun e => by
          subst e
          have hlt : k < listed.size := by
            rcases Nat.lt_or_ge k listed.size with h' | h'
            · exact h'
            · simp [Array.getElem?_eq_none h'] at hjun
          simp [hlt] at hk
        rw [Facts.set_ne F hkj]
        rw [getD_set_ne false (Ne.symm hkj)] at hk
        exact hFt k hk w
      · refine hfree k ok hk hki ?_ hno
        by_cases hjk : j = k
        · subst hjk; exact hjun
        · rw [getD_set_ne true hjk] at hun; exact hun
      · obtain ⟨w2, hw2, hF2⟩ := hsat2
        have hsat3 : Sat C (F.set i (Ψ v)) := ⟨w2, hw2, fun k => by
          by_cases hk : k = i
          · subst hk
            have := hF2 k
            rw [Facts.set_same] at this ⊢
            exact this
          · rw [Facts.set_ne F hk]
            by_cases hkj : k = j
            · subst hkj; exact hFt k (getD_both hjun) w2
            · have := hF2 k
              rw [Facts.set_ne _ hk, Facts.set_ne _ hkj] at this
              exact this⟩
        obtain ⟨oj2, Vj2, Ψj2, hoj2, hYj2, hK2⟩ := ((H v hv hsat3).2 j (ready_mono hj hji)).2
        obtain rfl : oj2 = oj' := Option.some.inj (hoj2.symm.trans hoj)
        obtain ⟨rfl, rfl⟩ := (back v hYj2).uniq ⟨hw, fun k _ => hFw k⟩ hYj0
        have h3 := hK2 vj hvj
        rw [Array.setIfInBounds_comm _ _ hji, Facts.set_comm F (Ne.symm hji), ← Act.put_comm a v vj p2]
        exact h3

/-- THE WALK, in the order of the text. -/
def wpF (P : Program) (md : Region.Mode) (ops : Array Oper) (C : World → Prop) (sp : Nat → Spec) (Q : Act → Facts → Prop) : List Oper → Nat → Act → Facts → Prop
  | [], _, a, F => Q a F
  | o :: rest, k, a, F => ∃ V Ψ, Yields P md ops C (sp k) k o a F V Ψ ∧ ∀ v, V v → wpF P md ops C sp Q rest (k + 1) (a.put o.dst v) (F.set k (Ψ v))

theorem wpAnyF_lex {sp : Nat → Spec} {n g : Nat} {Lq : Act → Facts → Prop} (hsp : ∀ i, (sp i).keeps) (hCg : ∀ w w', C w → Below w.heap.size w w' → C w')
    (hsel : Region.noSelect ops = true) (hs : Region.sinkB md ops n = true) (hc : Region.chainB md ops n = true) (hn : n < ops.size) :
    ∀ (l : List Oper) (k : Nat) (listed : Array Bool) (a : Act) (F : Facts), (∀ j, j < l.length → l[j]? = ops[k + j]?) → k + l.length = n → HeadInv md ops n listed → F.keeps → (∀ k, listed.getD k false = false → ∀ w, F k w) →
    Region.lexHead md ops g l.length k listed = true → wpF P md ops C sp Lq l k a F →
    wpAnyF P md ops C sp n (fun listed' a' F' => Region.seqB md ops g n listed' = true ∧ Lq a' F') l.length listed a F
  | [], k, listed, a, F, _, hk, _, _, _, hB, h => by
    have : k = n := by simpa using hk
    subst this
    exact fun _ => ⟨by simpa [Region.lexHead] using hB, h⟩
  | o :: l, k, listed, a, F, hl, hk, inv, hF, hFt, hB, h => by
    have h0 : ops[k]? = some o := by simpa using (hl 0 (by simp)).symm
    simp only [List.length_cons, Region.lexHead, Bool.and_eq_true] at hB
    obtain ⟨⟨hr, hf⟩, hB'⟩ := hB
    have hkn : k < n := by simp only [List.length_cons] at hk; omega
    have hr' : k ∈ Region.ready md ops listed := by simpa using hr
    obtain ⟨V, Ψ, hY, hK⟩ := h
    refine wpAnyF_first hsp hCg h0 (Region.noSelect_spec hsel) hs hc hn hkn (fun listed' a' _ hL => seqB_ready hL.1) l.length listed a F inv hF hFt (Region.free_spec h0 hf) hr' hY fun v hv => ?_
    refine wpAnyF_lex hsp hCg hsel hs hc hn l (k + 1) _ _ _ (fun j hj => by have := hl (j + 1) (by simp; omega); simpa [Nat.add_assoc, Nat.add_comm 1 j] using this) (by simp only [List.length_cons] at hk; omega) (inv.set hr' hkn)
      (Facts.keeps_set hF (hY.keeps (hsp k) v)) (fun j hj w => ?_) hB' (hK v hv)
    have hjk : j ≠ k := fun e => by
      subst e
      have hlt : j < listed.size := by rw [inv.size]; omega
      simp [hlt] at hj
    rw [Facts.set_ne F hjk]
    rw [getD_set_ne false (Ne.symm hjk)] at hj
    exact hFt j hj w

/-- **A drawn region: the first n operations in whatever order, the rest in sequence.** -/
theorem wp_region_fresh {id : Nat} {Q : Exit → Act → World → Prop} {a : Act} {w : World} {l : List Oper} (n : Nat) (sp : Nat → Spec) (C : World → Prop) (hm : P.follows .mixedOrders = true) (hB : Region.lexTailB .any l.toArray n = true)
    (hsp : ∀ i, (sp i).keeps) (hCg : ∀ w w', C w → Below w.heap.size w w' → C w') (hC0 : C { w with drawn := w.drawn + 1 })
    (h : wpF P .any l.toArray C sp (fun a' F => ∀ w', C w' → (∀ i, F i w') → wpList P l.toArray Q (l.drop n) a' w') (l.take n) 0 a (fun _ _ => True)) : (Code.region id l.toArray true).wp P Q a w := by
  simp only [Region.lexTailB, Bool.and_eq_true, decide_eq_true_eq] at hB
  obtain ⟨⟨⟨⟨hsel, hn⟩, hs⟩, hc⟩, hlex⟩ := hB
  have hn' : n < l.length := by simpa using hn
  have htl : (l.take n).length = n := by simp; omega
  have hdl : (l.drop n).length = l.toArray.size - n := by simp
  have inv0 : HeadInv .any l.toArray n (Array.replicate l.toArray.size false) :=
    ⟨by simp, fun j oj _ hl => (by rw [getD_replicate_false] at hl; cases hl), fun t _ ht => getD_in (by simpa using ht) (getD_replicate_false _ _)⟩
  have H := wpAnyF_lex (P := P) (md := .any) (C := C) (g := l.toArray.size - n) hsp hCg hsel hs hc hn (l.take n) 0 _ a (fun _ _ => True) (fun j hj => by
    have hj' : j < n := by rw [htl] at hj; exact hj
    simp [hj']) (by simpa using htl) inv0 (fun _ _ _ _ _ => trivial) (fun _ _ _ => trivial) (by rw [htl]; exact hlex) h
  refine wp_region_any hm ?_
  have := wpAny_of_headF (Q' := Q) (g := l.toArray.size - n) hsp hCg (fun listed a' F w' hw' hF' hL => by
    have := wpAny_of_seq (md := .any) (Q' := Q) (l.drop n) n listed a' w' (fun j => by simp [List.getElem?_drop]) (by rw [hdl]; exact hL.1) (hL.2 w' hw' hF')
    rwa [hdl] at this) _ _ _ _ _ (fun _ _ _ _ _ => trivial) hC0 (fun _ => trivial) H
  rw [htl, show n + (l.toArray.size - n) = l.toArray.size by omega] at this
  exact this

/-! ### Steps of the walk -/
theorem wpF_nil {sp : Nat → Spec} {Q : Act → Facts → Prop} {k : Nat} {a : Act} {F : Facts} (h : Q a F) : wpF P md ops C sp Q [] k a F := h
theorem wpF_reads {sp : Nat → Spec} {Q : Act → Facts → Prop} {o : Oper} {rest : List Oper} {k : Nat} {a : Act} {F : Facts} (hg : o.guard = none) (hs : sp k = none) (u : Value)
    (hr : ∀ w, Has md ops C k F w → readsUpon w u ((execOp a.eval o).run P w)) (hK : wpF P md ops C sp Q rest (k + 1) (a.put o.dst u) (F.set k (fun _ => True))) : wpF P md ops C sp Q (o :: rest) k a F :=
  ⟨_, _, .inl ⟨by simp [Region.wanted, hg], .inl ⟨hs, u, rfl, rfl, hr⟩⟩, fun v hv => by cases hv; exact hK⟩
theorem wpF_spec {sp : Nat → Spec} {Q : Act → Facts → Prop} {o : Oper} {rest : List Oper} {k : Nat} {a : Act} {F : Facts} (hg : o.guard = none) {V : Value → Prop} {Ψ : Value → World → Prop} (hs : sp k = some (V, Ψ))
    (hr : ∀ w, Has md ops C k F w → givesUpon P w (fun v w' => V v ∧ Ψ v w') ((execOp a.eval o).run P w)) (hK : ∀ v, V v → wpF P md ops C sp Q rest (k + 1) (a.put o.dst v) (F.set k (Ψ v))) : wpF P md ops C sp Q (o :: rest) k a F :=
  ⟨V, Ψ, .inl ⟨by simp [Region.wanted, hg], .inr ⟨hs, hr⟩⟩, hK⟩
/-- Guarded: it comes up, or not. -/
theorem wpF_readsG {sp : Nat → Spec} {Q : Act → Facts → Prop} {o : Oper} {rest : List Oper} {k : Nat} {a : Act} {F : Facts} (hg : Region.wanted o (yielded ops a.tmps) = true) (hs : sp k = none) (u : Value)
    (hr : ∀ w, Has md ops C k F w → readsUpon w u ((execOp a.eval o).run P w)) (hK : wpF P md ops C sp Q rest (k + 1) (a.put o.dst u) (F.set k (fun _ => True))) : wpF P md ops C sp Q (o :: rest) k a F :=
  ⟨_, _, .inl ⟨hg, .inl ⟨hs, u, rfl, rfl, hr⟩⟩, fun v hv => by cases hv; exact hK⟩
theorem wpF_skip {sp : Nat → Spec} {Q : Act → Facts → Prop} {o : Oper} {rest : List Oper} {k : Nat} {a : Act} {F : Facts} (hg : Region.wanted o (yielded ops a.tmps) = false)
    (hK : wpF P md ops C sp Q rest (k + 1) (a.put o.dst undef) (F.set k (fun _ => True))) : wpF P md ops C sp Q (o :: rest) k a F :=
  ⟨_, _, .inr ⟨hg, rfl, rfl⟩, fun v hv => by cases hv; exact hK⟩

theorem Has.world {F : Facts} {k : Nat} {w : World} (h : Has md ops C k F w) : C w := h.1
theorem Has.fact {F : Facts} {k : Nat} {w : World} (h : Has md ops C k F w) (i : Nat) (hi : Region.waitsFor md ops k i = true) : F i w := h.2 i hi

/-! ### Specs -/
abbrev Sp := (Value → Prop) × (Value → World → Prop)
/-- A known value. -/
def Sp.know (u : Value) : Sp := (fun v => v = u, fun _ _ => True)
/-- A value made of what is not known, with a fact on it. -/
def Sp.made {α : Type} (val : α → Value) (Φ : α → World → Prop) : Sp := (fun v => ∃ x, v = val x, fun v w => ∃ x, v = val x ∧ Φ x w)
def Sp.keeps (s : Sp) : Prop := ∀ v w w', s.2 v w → Below w.heap.size w w' → s.2 v w'
theorem Sp.know_keeps (u : Value) : (Sp.know u).keeps := fun _ _ _ _ _ => trivial
theorem Sp.made_keeps {α : Type} {val : α → Value} {Φ : α → World → Prop} (h : ∀ x w w', Φ x w → Below w.heap.size w w' → Φ x w') : (Sp.made val Φ).keeps := fun _ _ _ ⟨x, e, hx⟩ hb => ⟨x, e, h x _ _ hx hb⟩
def spOf : List (Nat × Sp) → Nat → Spec
  | [], _ => none
  | (k, s) :: l, i => if i = k then some s else spOf l i
theorem spOf_nil : ∀ i, (spOf [] i).keeps := fun _ => trivial
theorem spOf_cons {k : Nat} {s : Sp} {l : List (Nat × Sp)} (hs : s.keeps) (hl : ∀ i, (spOf l i).keeps) : ∀ i, (spOf ((k, s) :: l) i).keeps := by
  intro i
  unfold spOf
  by_cases h : i = k
  · rw [if_pos h]; exact hs
  · rw [if_neg h]; exact hl i
end Go.Fresh
namespace Go.FreshG
open Go.RowKit

variable {G : World → World → Prop} {P : Program} {ops : Array Oper} {md : Region.Mode} {C : World → Prop}

/-- Of one operation: nothing (it only reads); or what kind of value it yields, and which fact is then known of the world. -/
abbrev Spec := Option ((Value → Prop) × (Value → World → Prop))
def Spec.keeps (s : Spec) (G : World → World → Prop) : Prop := match s with
  | none => True
  | some s => ∀ v w w', s.2 v w → G w w' → s.2 v w'
abbrev Facts := Nat → World → Prop
def Facts.set (F : Facts) (k : Nat) (Φ : World → Prop) : Facts := fun i w => if i = k then Φ w else F i w
def Facts.keeps (F : Facts) (G : World → World → Prop) : Prop := ∀ i w w', F i w → G w w' → F i w'
theorem Facts.set_same (F : Facts) (k : Nat) (Φ : World → Prop) (w : World) : F.set k Φ k w = Φ w := by simp [Facts.set]
theorem Facts.set_ne (F : Facts) {i k : Nat} (h : i ≠ k) (Φ : World → Prop) (w : World) : F.set k Φ i w = F i w := by simp [Facts.set, h]
theorem Facts.set_comm (F : Facts) {i k : Nat} (h : i ≠ k) (Φ Ψ : World → Prop) : (F.set k Φ).set i Ψ = (F.set i Ψ).set k Φ := by
  funext j w
  unfold Facts.set
  by_cases h1 : j = i
  · by_cases h2 : j = k
    · omega
    · simp [h1, h]
  · simp [h1]
theorem Facts.keeps_set {F : Facts} (hF : F.keeps G) {k : Nat} {Φ : World → Prop} (hΦ : ∀ w w', Φ w → G w w' → Φ w') : (F.set k Φ).keeps G := by
  intro i w w' h hb
  unfold Facts.set at *
  by_cases hi : i = k
  · simp only [hi, if_true] at h ⊢; exact hΦ _ _ h hb
  · simp only [hi, if_false] at h ⊢; exact hF _ _ _ h hb

/-- It only reads. -/
def readsUpon (w : World) (u : Value) : Result Next → Prop
  | .ok (.value x) w' => w' = w ∧ x = u
  | .ok .skip w' => w' = w ∧ u = undef
  | _ => False
/-- It yields a value, in a world that has grown. -/
def givesUpon (P : Program) (G : World → World → Prop) (w : World) (Post : Value → World → Prop) : Result Next → Prop
  | .ok (.value x) w' => Post x w' ∧ G w w'
  | .ok (.enter f args) w' => Calls P f args w' fun e w'' => ∃ v, e = .returned v ∧ Post v w'' ∧ G w w''
  | _ => False
attribute [go_sem] readsUpon givesUpon

/-- The facts that operation k may lean on. -/
def Has (md : Region.Mode) (ops : Array Oper) (C : World → Prop) (k : Nat) (F : Facts) (w : World) : Prop := C w ∧ ∀ i, Region.waitsFor md ops k i = true → F i w

/-- In state a, under F, operation number k yields a value of the kind V, and then Ψ. -/
def Yields (P : Program) (G : World → World → Prop) (md : Region.Mode) (ops : Array Oper) (C : World → Prop) (s : Spec) (k : Nat) (o : Oper) (a : Act) (F : Facts) (V : Value → Prop) (Ψ : Value → World → Prop) : Prop :=
  (Region.wanted o (yielded ops a.tmps) = true ∧
    ((s = none ∧ ∃ u, V = (fun v => v = u) ∧ Ψ = (fun _ _ => True) ∧ ∀ w, Has md ops C k F w → readsUpon w u ((execOp a.eval o).run P w)) ∨
     (s = some (V, Ψ) ∧ ∀ w, Has md ops C k F w → givesUpon P G w (fun v w' => V v ∧ Ψ v w') ((execOp a.eval o).run P w)))) ∨
  (Region.wanted o (yielded ops a.tmps) = false ∧ V = (fun v => v = undef) ∧ Ψ = fun _ _ => True)

theorem Yields.uniq {s : Spec} {k : Nat} {o : Oper} {a : Act} {F : Facts} {V V' : Value → Prop} {Ψ Ψ' : Value → World → Prop} {w : World} (hw : Has md ops C k F w)
    (h : Yields P G md ops C s k o a F V Ψ) (h' : Yields P G md ops C s k o a F V' Ψ') : V = V' ∧ Ψ = Ψ' := by
  rcases h with ⟨w1, h | h⟩ | ⟨w1, e1, e2⟩ <;> rcases h' with ⟨w2, h' | h'⟩ | ⟨w2, e1', e2'⟩
  · obtain ⟨_, u, rfl, rfl, hr⟩ := h
    obtain ⟨_, u', rfl, rfl, hr'⟩ := h'
    have h1 := hr w hw
    have h2 := hr' w hw
    revert h1 h2
    generalize (execOp a.eval o).run P w = r
    intro h1 h2
    have e : u = u' := by
      cases r with
      | ok n w' =>
        cases n <;> simp only [readsUpon] at h1 h2
        · rw [← h1.2, h2.2]
        · rw [h1.2, h2.2]
      | halt x w' => simp only [readsUpon] at h1
    rw [e]
    exact ⟨rfl, rfl⟩
  · rw [h.1] at h'; cases h'.1
  · rw [w1] at w2; cases w2
  · rw [h'.1] at h; cases h.1
  · have := h.1.symm.trans h'.1
    simp only [Option.some.injEq, Prod.mk.injEq] at this
    exact this
  · rw [w1] at w2; cases w2
  · rw [w1] at w2; cases w2
  · rw [w1] at w2; cases w2
  · exact ⟨e1.trans e1'.symm, e2.trans e2'.symm⟩

theorem Yields.keeps {s : Spec} {k : Nat} {o : Oper} {a : Act} {F : Facts} {V : Value → Prop} {Ψ : Value → World → Prop} (hs : s.keeps G)
    (h : Yields P G md ops C s k o a F V Ψ) : ∀ v w w', Ψ v w → G w w' → Ψ v w' := by
  rcases h with ⟨_, ⟨_, u, rfl, rfl, _⟩ | ⟨rfl, _⟩⟩ | ⟨_, rfl, rfl⟩
  · exact fun _ _ _ _ _ => trivial
  · exact hs
  · exact fun _ _ _ _ _ => trivial

/-- The facts hold on. -/
theorem keep_all {F : Facts} (hF : F.keeps G) {k : Nat} {Φ : World → Prop} {w w' : World} (hw : ∀ i, F i w) (hb : G w w') (hΦ : Φ w') : ∀ i, F.set k Φ i w' := by
  intro i
  unfold Facts.set
  by_cases hi : i = k
  · simp only [hi, if_true]; exact hΦ
  · simp only [hi, if_false]; exact hF _ _ _ (hw i) hb

theorem Yields.run {s : Spec} {k : Nat} {o : Oper} {a : Act} {F : Facts} {V : Value → Prop} {Ψ : Value → World → Prop} {w : World}
    (hCg : (∀ w, G w w) ∧ ∀ w w', C w → G w w' → C w') (hF : F.keeps G) (hw : C w) (hFw : ∀ i, F i w) (h : Yields P G md ops C s k o a F V Ψ) :
    ∃ v w', V v ∧ C w' ∧ ∀ i, F.set k (Ψ v) i w' := by
  have hH : Has md ops C k F w := ⟨hw, fun i _ => hFw i⟩
  rcases h with ⟨_, ⟨_, u, rfl, rfl, _⟩ | ⟨rfl, hg⟩⟩ | ⟨_, rfl, rfl⟩
  · exact ⟨u, w, rfl, hw, keep_all hF hFw (hCg.1 _) trivial⟩
  · have h1 := hg w hH
    revert h1
    generalize (execOp a.eval o).run P w = r
    intro h1
    cases r with
    | ok n w' =>
      cases n <;> simp only [givesUpon] at h1
      case value x => exact ⟨x, w', h1.1.1, hCg.2 _ _ hw h1.2, keep_all hF hFw h1.2 h1.1.2⟩
      case enter f args =>
        obtain ⟨e, w'', fr, ⟨v, rfl, hp, hb⟩, _⟩ := h1 []
        exact ⟨v, w'', hp.1, hCg.2 _ _ hw hb, keep_all hF hFw hb hp.2⟩
    | halt x w' => simp only [givesUpon] at h1
  · exact ⟨undef, w, rfl, hw, keep_all hF hFw (hCg.1 _) trivial⟩

def Sat (C : World → Prop) (F : Facts) : Prop := ∃ w, C w ∧ ∀ i, F i w
def fOp (P : Program) (G : World → World → Prop) (md : Region.Mode) (ops : Array Oper) (C : World → Prop) (sp : Nat → Spec) (i : Nat) (K : Act → (World → Prop) → Prop) (a : Act) (F : Facts) : Prop :=
  ∃ o V Ψ, ops[i]? = some o ∧ Yields P G md ops C (sp i) i o a F V Ψ ∧ ∀ v, V v → K (a.put o.dst v) (Ψ v)
/-- Whatever order is picked from here on. -/
def wpAnyF (P : Program) (G : World → World → Prop) (md : Region.Mode) (ops : Array Oper) (C : World → Prop) (sp : Nat → Spec) (n : Nat) (L : Array Bool → Act → Facts → Prop) : Nat → Array Bool → Act → Facts → Prop
  | 0, listed, a, F => Sat C F → L listed a F
  | f + 1, listed, a, F => Sat C F → Region.ready md ops listed ≠ [] ∧
      ∀ i ∈ Region.ready md ops listed, i < n ∧ fOp P G md ops C sp i (fun a' Φ => wpAnyF P G md ops C sp n L f (listed.setIfInBounds i true) a' (F.set i Φ)) a F
theorem wpAnyF_guard {sp : Nat → Spec} {n : Nat} {L : Array Bool → Act → Facts → Prop} {f : Nat} {listed : Array Bool} {a : Act} {F : Facts}
    (h : Sat C F → wpAnyF P G md ops C sp n L f listed a F) : wpAnyF P G md ops C sp n L f listed a F := by
  cases f with
  | zero => exact fun hs => h hs hs
  | succ f => exact fun hs => h hs hs

theorem wpOp_of_fOp {sp : Nat → Spec} {i : Nat} {a : Act} {F : Facts} {K : Act → (World → Prop) → Prop} {K' : Act → World → Prop} {Q' : Exit → Act → World → Prop} {w : World}
    (hsp : ∀ i, (sp i).keeps G) (hCg : (∀ w, G w w) ∧ ∀ w w', C w → G w w' → C w') (hF : F.keeps G) (hw : C w) (hFw : ∀ i, F i w)
    (h : ∀ a' Φ w', C w' → (F.set i Φ).keeps G → (∀ j, F.set i Φ j w') → K a' Φ → K' a' w') (hh : fOp P G md ops C sp i K a F) : wpOp P ops Q' i K' a w := by
  obtain ⟨o, V, Ψ, ho, hY, hK⟩ := hh
  have hH : Has md ops C i F w := ⟨hw, fun i _ => hFw i⟩
  have hkeep := fun v => Facts.keeps_set hF (k := i) (hY.keeps (hsp i) v)
  unfold wpOp
  simp only [ho]
  rcases hY with ⟨hwd, ⟨_, u, rfl, rfl, hr⟩ | ⟨_, hg⟩⟩ | ⟨hwd, rfl, rfl⟩
  · simp only [hwd, if_true]
    refine .inl ?_
    have h1 := hr w hH
    unfold Oper.wp
    revert h1
    generalize (execOp a.eval o).run P w = r
    intro h1
    cases r with
    | ok n w' =>
      cases n <;> simp only [readsUpon] at h1 <;> simp only [Oper.upon]
      case value x =>
        obtain ⟨rfl, rfl⟩ := h1
        exact h _ _ _ hw (hkeep x) (keep_all hF hFw (hCg.1 _) trivial) (hK _ rfl)
      case skip =>
        obtain ⟨rfl, rfl⟩ := h1
        exact h _ _ _ hw (hkeep undef) (keep_all hF hFw (hCg.1 _) trivial) (hK _ rfl)
    | halt x w' => simp only [readsUpon] at h1
  · simp only [hwd, if_true]
    refine .inl ?_
    have h1 := hg w hH
    unfold Oper.wp
    revert h1
    generalize (execOp a.eval o).run P w = r
    intro h1
    cases r with
    | ok n w' =>
      cases n <;> simp only [givesUpon] at h1 <;> simp only [Oper.upon]
      case value x => exact h _ _ _ (hCg.2 _ _ hw h1.2) (hkeep x) (keep_all hF hFw h1.2 h1.1.2) (hK _ h1.1.1)
      case enter f args =>
        refine h1.mono fun e w'' hp => ?_
        obtain ⟨v, rfl, hp, hb⟩ := hp
        exact h _ _ _ (hCg.2 _ _ hw hb) (hkeep v) (keep_all hF hFw hb hp.2) (hK _ hp.1)
    | halt x w' => simp only [givesUpon] at h1
  · simp only [hwd, Bool.false_eq_true, if_false]
    exact h _ _ _ hw (hkeep undef) (keep_all hF hFw (hCg.1 _) trivial) (hK _ rfl)

theorem wpAny_of_headF {sp : Nat → Spec} {n g : Nat} {L : Array Bool → Act → Facts → Prop} {Q' : Exit → Act → World → Prop}
    (hsp : ∀ i, (sp i).keeps G) (hCg : (∀ w, G w w) ∧ ∀ w w', C w → G w w' → C w')
    (hL : ∀ listed a F w, C w → (∀ i, F i w) → L listed a F → wpAny P md ops Q' g listed a w) :
    ∀ (f : Nat) (listed : Array Bool) (a : Act) (F : Facts) (w : World), F.keeps G → C w → (∀ i, F i w) → wpAnyF P G md ops C sp n L f listed a F → wpAny P md ops Q' (f + g) listed a w
  | 0, listed, a, F, w, hF, hw, hFw, h => by rw [Nat.zero_add]; exact hL _ _ _ _ hw hFw (h ⟨w, hw, hFw⟩)
  | f + 1, listed, a, F, w, hF, hw, hFw, h => by
    rw [show f + 1 + g = (f + g) + 1 by omega]
    have h1 := h ⟨w, hw, hFw⟩
    exact ⟨fun h0 => absurd h0 h1.1, fun i hi => wpOp_of_fOp hsp hCg hF hw hFw (fun a' Φ w' hw' hF' hFw' h' => wpAny_of_headF hsp hCg hL f _ a' _ w' hF' hw' hFw' h') (h1.2 i hi).2⟩

/-- What an operation apart has put makes no difference. -/
theorem Yields.of_same {s : Spec} {k : Nat} {o : Oper} {a a' : Act} {F F' : Facts} {V : Value → Prop} {Ψ : Value → World → Prop} (h : Yields P G md ops C s k o a F V Ψ)
    (he : execOp a'.eval o = execOp a.eval o) (hwd : Region.wanted o (yielded ops a'.tmps) = Region.wanted o (yielded ops a.tmps)) (hF : ∀ w, Has md ops C k F' w → Has md ops C k F w) :
    Yields P G md ops C s k o a' F' V Ψ := by
  unfold Yields at *
  rw [he, hwd]
  rcases h with ⟨w1, ⟨e, u, e1, e2, h⟩ | ⟨e, h⟩⟩ | h
  · exact .inl ⟨w1, .inl ⟨e, u, e1, e2, fun w hw => h w (hF w hw)⟩⟩
  · exact .inl ⟨w1, .inr ⟨e, fun w hw => h w (hF w hw)⟩⟩
  · exact .inr h

theorem not_waits {k i : Nat} {o : Oper} (ho : ops[k]? = some o) (h : ∀ e ∈ o.after, Region.binds md e = true → e.on ≠ i) : Region.waitsFor md ops k i = false := by
  cases hb : Region.waitsFor md ops k i with
  | false => rfl
  | true =>
    obtain ⟨o', ho', e, he, hb, hon⟩ := Region.waitsFor_spec hb
    have : o' = o := Option.some.inj (ho'.symm.trans ho)
    subst this
    exact absurd hon (h e he hb)
theorem Has.of_set {F : Facts} {k i : Nat} {Φ : World → Prop} {w : World} (hn : Region.waitsFor md ops k i = false) (h : Has md ops C k (F.set i Φ) w) : Has md ops C k F w := by
  refine ⟨h.1, fun j hj => ?_⟩
  have hji : j ≠ i := fun e => by rw [e, hn] at hj; cases hj
  have := h.2 j hj
  rwa [Facts.set_ne F hji] at this
theorem Has.to_set {F : Facts} {k i : Nat} {Φ : World → Prop} {w : World} (hn : Region.waitsFor md ops k i = false) (h : Has md ops C k F w) : Has md ops C k (F.set i Φ) w := by
  refine ⟨h.1, fun j hj => ?_⟩
  have hji : j ≠ i := fun e => by rw [e, hn] at hj; cases hj
  rw [Facts.set_ne F hji]
  exact h.2 j hj

/-- An operation that may come up now may be taken first. -/
theorem wpAnyF_first {sp : Nat → Spec} {n i : Nat} {oi : Oper} {L : Array Bool → Act → Facts → Prop} (hsp : ∀ i, (sp i).keeps G) (hCg : (∀ w, G w w) ∧ ∀ w w', C w → G w w' → C w')
    (hi : ops[i]? = some oi) (hsel : ∀ (j : Nat) (o : Oper) cs b, ops[j]? = some o → o.op ≠ .select cs b)
    (hs : Region.sinkB md ops n = true) (hc : Region.chainB md ops n = true) (hn : n < ops.size) (hin : i < n)
    (hdone : ∀ listed a F, L listed a F → ∀ j ∈ Region.ready md ops listed, n ≤ j) {V : Value → Prop} {Ψ : Value → World → Prop} :
    ∀ (f : Nat) (listed : Array Bool) (a : Act) (F : Facts), HeadInv md ops n listed → F.keeps G → (∀ k, listed.getD k false = false → ∀ w, F k w) →
      (∀ j oj, ops[j]? = some oj → j ≠ i → listed.getD j true = false → (∀ e ∈ oj.after, Region.binds md e = true → e.on ≠ i) → oi.apart ops oj = true) →
      i ∈ Region.ready md ops listed → Yields P G md ops C (sp i) i oi a F V Ψ →
      (∀ v, V v → wpAnyF P G md ops C sp n L f (listed.setIfInBounds i true) (a.put oi.dst v) (F.set i (Ψ v))) → wpAnyF P G md ops C sp n L (f + 1) listed a F := by
  intro f
  induction f with
  | zero =>
    intro listed a F inv hF hFt _ hr hy H hsat
    have hun := (mem_ready.1 hr).1
    obtain ⟨w, hw, hFw⟩ := hsat
    obtain ⟨v, w', hv, hw', hFw'⟩ := hy.run hCg hF hw hFw
    have H0 := H v hv ⟨w', hw', hFw'⟩
    refine ⟨fun h => (by rw [h] at hr; cases hr), fun j hj => ?_⟩
    have hjn : j < n := by
      rcases Nat.lt_or_ge j n with h | h
      · exact h
      · exact absurd hj (tail_waits hs hc hn inv _ i rfl hin hun j h)
    refine ⟨hjn, ?_⟩
    by_cases hji : j = i
    · subst hji; exact ⟨oi, V, Ψ, hi, hy, H⟩
    · have := hdone _ _ _ H0 j (ready_mono hj hji)
      omega
  | succ f ih =>
    intro listed a F inv hF hFt hfree hr hy H hsat
    have hun := (mem_ready.1 hr).1
    obtain ⟨w, hw, hFw⟩ := hsat
    obtain ⟨v0, w0, hv0, hw0, hFw0⟩ := hy.run hCg hF hw hFw
    have H0 := H v0 hv0 ⟨w0, hw0, hFw0⟩
    refine ⟨fun h => (by rw [h] at hr; cases hr), fun j hj => ?_⟩
    have hjn : j < n := by
      rcases Nat.lt_or_ge j n with h | h
      · exact h
      · exact absurd hj (tail_waits hs hc hn inv _ i rfl hin hun j h)
    refine ⟨hjn, ?_⟩
    by_cases hji : j = i
    · subst hji; exact ⟨oi, V, Ψ, hi, hy, H⟩
    · obtain ⟨hjun, oj, hoj, hall⟩ := mem_ready.1 hj
      have hnot : ∀ e ∈ oj.after, Region.binds md e = true → e.on ≠ i := fun e he hb heq => by
        have h1 := hall e he hb
        rw [heq, getD_both hun] at h1
        cases h1
      have hwji := not_waits (md := md) hoj hnot
      have hwij : Region.waitsFor md ops i j = false := by
        obtain ⟨_, o', ho', hall'⟩ := mem_ready.1 hr
        refine not_waits ho' fun e he hb heq => ?_
        have h1 := hall' e he hb
        rw [heq, getD_both hjun] at h1
        cases h1
      have hap := hfree j oj hoj hji hjun hnot
      obtain ⟨p1, p2, p3⟩ := Oper.apart_spec hap
      have back : ∀ (v : Value) {V' : Value → Prop} {Ψ' : Value → World → Prop}, Yields P G md ops C (sp j) j oj (a.put oi.dst v) (F.set i (Ψ v)) V' Ψ' → Yields P G md ops C (sp j) j oj a F V' Ψ' := fun v _ _ h =>
        h.of_same (execOp_put oj (hsel j oj · · hoj) a oi.dst v p1).symm (wanted_put oj a oi.dst v p1).symm (fun _ h => h.to_set hwji)
      obtain ⟨oj', Vj, Ψj, hoj', hYj, _⟩ := (H0.2 j (ready_mono hj hji)).2
      obtain rfl : oj' = oj := Option.some.inj (hoj'.symm.trans hoj)
      have hYj0 := back v0 hYj
      refine ⟨oj', Vj, Ψj, hoj, hYj0, fun vj hvj => ?_⟩
      have hun' : (listed.setIfInBounds j true).getD i true = false := by rw [getD_set_ne true hji]; exact hun
      refine ih (listed.setIfInBounds j true) (a.put oj'.dst vj) (F.set j (Ψj vj)) (inv.set hj hjn) (Facts.keeps_set hF (hYj0.keeps (hsp j) vj)) (fun k hk w => ?_) (fun k ok hk hki hun hno => ?_) (ready_mono hr (Ne.symm hji))
        (hy.of_same (execOp_put oi (hsel i oi · · hi) a oj'.dst vj p3) (wanted_put oi a oj'.dst vj p3) (fun _ h => h.of_set hwij)) (fun v hv => wpAnyF_guard fun hsat2 => ?_)
      · have hkj : k ≠ j := fun e => by
          subst e
          have hlt : k < listed.size := by
            rcases Nat.lt_or_ge k listed.size with h' | h'
            · exact h'
            · simp [Array.getElem?_eq_none h'] at hjun
          simp [hlt] at hk
        rw [Facts.set_ne F hkj]
        rw [getD_set_ne false (Ne.symm hkj)] at hk
        exact hFt k hk w
      · refine hfree k ok hk hki ?_ hno
        by_cases hjk : j = k
        · subst hjk; exact hjun
        · rw [getD_set_ne true hjk] at hun; exact hun
      · obtain ⟨w2, hw2, hF2⟩ := hsat2
        have hsat3 : Sat C (F.set i (Ψ v)) := ⟨w2, hw2, fun k => by
          by_cases hk : k = i
          · subst hk
            have := hF2 k
            rw [Facts.set_same] at this ⊢
            exact this
          · rw [Facts.set_ne F hk]
            by_cases hkj : k = j
            · subst hkj; exact hFt k (getD_both hjun) w2
            · have := hF2 k
              rw [Facts.set_ne _ hk, Facts.set_ne _ hkj] at this
              exact this⟩
        obtain ⟨oj2, Vj2, Ψj2, hoj2, hYj2, hK2⟩ := ((H v hv hsat3).2 j (ready_mono hj hji)).2
        obtain rfl : oj2 = oj' := Option.some.inj (hoj2.symm.trans hoj)
        obtain ⟨rfl, rfl⟩ := (back v hYj2).uniq ⟨hw, fun k _ => hFw k⟩ hYj0
        have h3 := hK2 vj hvj
        rw [Array.setIfInBounds_comm _ _ hji, Facts.set_comm F (Ne.symm hji), ← Act.put_comm a v vj p2]
        exact h3

/-- THE WALK, in the order of the text. -/
def wpF (P : Program) (G : World → World → Prop) (md : Region.Mode) (ops : Array Oper) (C : World → Prop) (sp : Nat → Spec) (Q : Act → Facts → Prop) : List Oper → Nat → Act → Facts → Prop
  | [], _, a, F => Q a F
  | o :: rest, k, a, F => ∃ V Ψ, Yields P G md ops C (sp k) k o a F V Ψ ∧ ∀ v, V v → wpF P G md ops C sp Q rest (k + 1) (a.put o.dst v) (F.set k (Ψ v))

theorem wpAnyF_lex {sp : Nat → Spec} {n g : Nat} {Lq : Act → Facts → Prop} (hsp : ∀ i, (sp i).keeps G) (hCg : (∀ w, G w w) ∧ ∀ w w', C w → G w w' → C w')
    (hsel : Region.noSelect ops = true) (hs : Region.sinkB md ops n = true) (hc : Region.chainB md ops n = true) (hn : n < ops.size) :
    ∀ (l : List Oper) (k : Nat) (listed : Array Bool) (a : Act) (F : Facts), (∀ j, j < l.length → l[j]? = ops[k + j]?) → k + l.length = n → HeadInv md ops n listed → F.keeps G → (∀ k, listed.getD k false = false → ∀ w, F k w) →
    Region.lexHead md ops g l.length k listed = true → wpF P G md ops C sp Lq l k a F →
    wpAnyF P G md ops C sp n (fun listed' a' F' => Region.seqB md ops g n listed' = true ∧ Lq a' F') l.length listed a F
  | [], k, listed, a, F, _, hk, _, _, _, hB, h => by
    have : k = n := by simpa using hk
    subst this
    exact fun _ => ⟨by simpa [Region.lexHead] using hB, h⟩
  | o :: l, k, listed, a, F, hl, hk, inv, hF, hFt, hB, h => by
    have h0 : ops[k]? = some o := by simpa using (hl 0 (by simp)).symm
    simp only [List.length_cons, Region.lexHead, Bool.and_eq_true] at hB
    obtain ⟨⟨hr, hf⟩, hB'⟩ := hB
    have hkn : k < n := by simp only [List.length_cons] at hk; omega
    have hr' : k ∈ Region.ready md ops listed := by simpa using hr
    obtain ⟨V, Ψ, hY, hK⟩ := h
    refine wpAnyF_first hsp hCg h0 (Region.noSelect_spec hsel) hs hc hn hkn (fun listed' a' _ hL => seqB_ready hL.1) l.length listed a F inv hF hFt (Region.free_spec h0 hf) hr' hY fun v hv => ?_
    refine wpAnyF_lex hsp hCg hsel hs hc hn l (k + 1) _ _ _ (fun j hj => by have := hl (j + 1) (by simp; omega); simpa [Nat.add_assoc, Nat.add_comm 1 j] using this) (by simp only [List.length_cons] at hk; omega) (inv.set hr' hkn)
      (Facts.keeps_set hF (hY.keeps (hsp k) v)) (fun j hj w => ?_) hB' (hK v hv)
    have hjk : j ≠ k := fun e => by
      subst e
      have hlt : j < listed.size := by rw [inv.size]; omega
      simp [hlt] at hj
    rw [Facts.set_ne F hjk]
    rw [getD_set_ne false (Ne.symm hjk)] at hj
    exact hFt j hj w

/-- **A drawn region: the first n operations in whatever order, the rest in sequence.** -/
theorem wp_region_fresh {id : Nat} {Q : Exit → Act → World → Prop} {a : Act} {w : World} {l : List Oper} (n : Nat) (sp : Nat → Spec) (C : World → Prop) (hm : P.follows .mixedOrders = true) (hB : Region.lexTailB .any l.toArray n = true)
    (hsp : ∀ i, (sp i).keeps G) (hCg : (∀ w, G w w) ∧ ∀ w w', C w → G w w' → C w') (hC0 : C { w with drawn := w.drawn + 1 })
    (h : wpF P G .any l.toArray C sp (fun a' F => ∀ w', C w' → (∀ i, F i w') → wpList P l.toArray Q (l.drop n) a' w') (l.take n) 0 a (fun _ _ => True)) : (Code.region id l.toArray true).wp P Q a w := by
  simp only [Region.lexTailB, Bool.and_eq_true, decide_eq_true_eq] at hB
  obtain ⟨⟨⟨⟨hsel, hn⟩, hs⟩, hc⟩, hlex⟩ := hB
  have hn' : n < l.length := by simpa using hn
  have htl : (l.take n).length = n := by simp; omega
  have hdl : (l.drop n).length = l.toArray.size - n := by simp
  have inv0 : HeadInv .any l.toArray n (Array.replicate l.toArray.size false) :=
    ⟨by simp, fun j oj _ hl => (by rw [getD_replicate_false] at hl; cases hl), fun t _ ht => getD_in (by simpa using ht) (getD_replicate_false _ _)⟩
  have H := wpAnyF_lex (P := P) (md := .any) (C := C) (g := l.toArray.size - n) hsp hCg hsel hs hc hn (l.take n) 0 _ a (fun _ _ => True) (fun j hj => by
    have hj' : j < n := by rw [htl] at hj; exact hj
    simp [hj']) (by simpa using htl) inv0 (fun _ _ _ _ _ => trivial) (fun _ _ _ => trivial) (by rw [htl]; exact hlex) h
  refine wp_region_any hm ?_
  have := wpAny_of_headF (Q' := Q) (g := l.toArray.size - n) hsp hCg (fun listed a' F w' hw' hF' hL => by
    have := wpAny_of_seq (md := .any) (Q' := Q) (l.drop n) n listed a' w' (fun j => by simp [List.getElem?_drop]) (by rw [hdl]; exact hL.1) (hL.2 w' hw' hF')
    rwa [hdl] at this) _ _ _ _ _ (fun _ _ _ _ _ => trivial) hC0 (fun _ => trivial) H
  rw [htl, show n + (l.toArray.size - n) = l.toArray.size by omega] at this
  exact this

/-! ### Steps of the walk -/
theorem wpF_nil {sp : Nat → Spec} {Q : Act → Facts → Prop} {k : Nat} {a : Act} {F : Facts} (h : Q a F) : wpF P G md ops C sp Q [] k a F := h
theorem wpF_reads {sp : Nat → Spec} {Q : Act → Facts → Prop} {o : Oper} {rest : List Oper} {k : Nat} {a : Act} {F : Facts} (hg : o.guard = none) (hs : sp k = none) (u : Value)
    (hr : ∀ w, Has md ops C k F w → readsUpon w u ((execOp a.eval o).run P w)) (hK : wpF P G md ops C sp Q rest (k + 1) (a.put o.dst u) (F.set k (fun _ => True))) : wpF P G md ops C sp Q (o :: rest) k a F :=
  ⟨_, _, .inl ⟨by simp [Region.wanted, hg], .inl ⟨hs, u, rfl, rfl, hr⟩⟩, fun v hv => by cases hv; exact hK⟩
theorem wpF_spec {sp : Nat → Spec} {Q : Act → Facts → Prop} {o : Oper} {rest : List Oper} {k : Nat} {a : Act} {F : Facts} (hg : o.guard = none) {V : Value → Prop} {Ψ : Value → World → Prop} (hs : sp k = some (V, Ψ))
    (hr : ∀ w, Has md ops C k F w → givesUpon P G w (fun v w' => V v ∧ Ψ v w') ((execOp a.eval o).run P w)) (hK : ∀ v, V v → wpF P G md ops C sp Q rest (k + 1) (a.put o.dst v) (F.set k (Ψ v))) : wpF P G md ops C sp Q (o :: rest) k a F :=
  ⟨V, Ψ, .inl ⟨by simp [Region.wanted, hg], .inr ⟨hs, hr⟩⟩, hK⟩
/-- Guarded: it comes up, or not. -/
theorem wpF_readsG {sp : Nat → Spec} {Q : Act → Facts → Prop} {o : Oper} {rest : List Oper} {k : Nat} {a : Act} {F : Facts} (hg : Region.wanted o (yielded ops a.tmps) = true) (hs : sp k = none) (u : Value)
    (hr : ∀ w, Has md ops C k F w → readsUpon w u ((execOp a.eval o).run P w)) (hK : wpF P G md ops C sp Q rest (k + 1) (a.put o.dst u) (F.set k (fun _ => True))) : wpF P G md ops C sp Q (o :: rest) k a F :=
  ⟨_, _, .inl ⟨hg, .inl ⟨hs, u, rfl, rfl, hr⟩⟩, fun v hv => by cases hv; exact hK⟩
theorem wpF_skip {sp : Nat → Spec} {Q : Act → Facts → Prop} {o : Oper} {rest : List Oper} {k : Nat} {a : Act} {F : Facts} (hg : Region.wanted o (yielded ops a.tmps) = false)
    (hK : wpF P G md ops C sp Q rest (k + 1) (a.put o.dst undef) (F.set k (fun _ => True))) : wpF P G md ops C sp Q (o :: rest) k a F :=
  ⟨_, _, .inr ⟨hg, rfl, rfl⟩, fun v hv => by cases hv; exact hK⟩

theorem Has.world {F : Facts} {k : Nat} {w : World} (h : Has md ops C k F w) : C w := h.1
theorem Has.fact {F : Facts} {k : Nat} {w : World} (h : Has md ops C k F w) (i : Nat) (hi : Region.waitsFor md ops k i = true) : F i w := h.2 i hi

/-! ### Specs -/
abbrev Sp := (Value → Prop) × (Value → World → Prop)
/-- A known value. -/
def Sp.know (u : Value) : Sp := (fun v => v = u, fun _ _ => True)
/-- A value made of what is not known, with a fact on it. -/
def Sp.made {α : Type} (val : α → Value) (Φ : α → World → Prop) : Sp := (fun v => ∃ x, v = val x, fun v w => ∃ x, v = val x ∧ Φ x w)
def Sp.keeps (s : Sp) (G : World → World → Prop) : Prop := ∀ v w w', s.2 v w → G w w' → s.2 v w'
theorem Sp.know_keeps (u : Value) : (Sp.know u).keeps G := fun _ _ _ _ _ => trivial
theorem Sp.made_keeps {α : Type} {val : α → Value} {Φ : α → World → Prop} (h : ∀ x w w', Φ x w → G w w' → Φ x w') : (Sp.made val Φ).keeps G := fun _ _ _ ⟨x, e, hx⟩ hb => ⟨x, e, h x _ _ hx hb⟩
def spOf : List (Nat × Sp) → Nat → Spec
  | [], _ => none
  | (k, s) :: l, i => if i = k then some s else spOf l i
theorem spOf_nil : ∀ i, (spOf [] i).keeps G := fun _ => trivial
theorem spOf_cons {k : Nat} {s : Sp} {l : List (Nat × Sp)} (hs : s.keeps G) (hl : ∀ i, (spOf l i).keeps G) : ∀ i, (spOf ((k, s) :: l) i).keeps G := by
  intro i
  unfold spOf
  by_cases h : i = k
  · rw [if_pos h]; exact hs
  · rw [if_neg h]; exact hl i
end Go.FreshG
namespace Go.Proofs.YtkpajfjjhbbieaaGreatDoor.LawPost
open Go.ChangeShapes Go.WideShapes Go.ChangeAt Go.RowKit
variable {H : Type} {enc : TypeId × Value → H} {P : Program}

theorem trodAll_below (hl : laidOutB P = true) {W W' : World} (hb : Below W.heap.size W W') : ∀ (ts : List TypeId) (vs : List Value) (ds : List (DataW H)) (ps : List MemPlace),
    ts.all (fun t => P.readableRec t && decide (t < P.types.size)) = true → DataW.TrodAll enc P W 0 (fun _ => true) true ts vs ds ps → (∀ x ∈ ps, x.block < W.heap.size) →
    DataW.TrodAll enc P W' 0 (fun b => decide (b < W.heap.size)) true ts vs ds ps
  | [], [], [], ps, _, h, _ => h
  | t :: ts, v :: vs, d :: ds, ps, hr, h, hlt => by
    obtain ⟨p, q, h1, h2, rfl⟩ := h
    simp only [List.all_cons, Bool.and_eq_true, decide_eq_true_eq] at hr
    exact ⟨p, q, Below.trod hl hr.1.1 hr.1.2 h1 hb (fun x hx => hlt x (List.mem_append_left _ hx)), trodAll_below hl hb ts vs ds q hr.2 h2 (fun x hx => hlt x (List.mem_append_right _ hx)), rfl⟩
  | [], [], _ :: _, _, _, h, _ => h.elim
  | [], _ :: _, _, _, _, h, _ => by simp [DataW.TrodAll] at h
  | _ :: _, [], _, _, _, h, _ => by simp [DataW.TrodAll] at h
  | _ :: _, _ :: _, [], _, _, h, _ => by simp [DataW.TrodAll] at h

/-- A law's post: it returned true, its arguments read as they did. -/
theorem law_post {f : Func} {s : ChangeSpec} {W W' : World} {args : Array Value} {ds : List (DataW H)} {before : List MemPlace} {tb : TypeId} (hl : laidOutB P = true)
    (hr : f.params.toList.all (fun t => P.readableRec t && decide (t < P.types.size)) = true) (hrt : f.resultTypes = #[tb]) (htb : P.underlying tb = some .bool)
    (hW : DataW.Whole enc P f.params.toList s.vars false W args.toList ds [] before) (hv : s.vars = [])
    (hs : s.fn H (ds ++ []) = { results := [.lit (.bool true)], args := ds, vars := [] }) (hb : Below W.heap.size W W') :
    s.post enc P f false true false false W args (.bool true) W' := by
  have hlt := hW.lt
  obtain ⟨p, q, hA, hV, hpq, hz, hn⟩ := hW
  rw [hv] at hV
  obtain ⟨_, rfl⟩ := trodVars_none hV
  subst hpq
  refine ⟨ds, [], _, [], p, [], ⟨p, [], hA, by rw [hv]; exact hV, rfl, hz, hn⟩, ?_, ?_, ?_, hb.frame _, fun h => by cases h⟩
  · rw [hs, hrt]; exact trodAll_mk1 (shut_bool htb _)
  · rw [hs]; exact trodAll_below hl hb _ _ _ _ hr hA (fun x hx => hlt x (by simpa using hx))
  · rw [hs, hv]; rfl

theorem mapM_each {α β : Type} (f : α → Option β) : ∀ (l : List α) (ys : List β), l.mapM f = some ys → ∀ a ∈ l, ∃ y, f a = some y := by
  intro l
  induction l with
  | nil => intro ys _ a ha; cases ha
  | cons x l ih =>
    intro ys h a ha
    simp only [List.mapM_cons, Option.bind_eq_bind, Option.bind_eq_some_iff] at h
    obtain ⟨y, hy, zs, hz, _⟩ := h
    rcases List.mem_cons.1 ha with rfl | ha
    · exact ⟨y, hy⟩
    · exact ih zs hz a ha

/-- An array's elements, each read by itself. -/
theorem trod_arr {w : World} {base : Nat} {spare : Nat → Bool} {held : Bool} {t e : TypeId} {n fuel : Nat} {cs : List Value} {x : DataW H × List MemPlace} (ht : P.underlying t = some (.array n e))
    (h : DataW.trod enc P w base spare held fuel t cs = some x) : cs.length = P.cellsOf t ∧ ∃ m, fuel = m + 1 ∧ ∀ i, i < n → ∃ y, DataW.trod enc P w base spare held m e ((cs.drop (i * P.cellsOf e)).take (P.cellsOf e)) = some y := by
  cases fuel with
  | zero => simp [DataW.trod] at h
  | succ m =>
    unfold DataW.trod at h
    rw [ht] at h
    dsimp only at h
    by_cases hlen : cs.length = P.cellsOf t
    · rw [if_pos hlen] at h
      obtain ⟨ys, hy, _⟩ := Option.map_eq_some_iff.1 h
      exact ⟨hlen, m, rfl, fun i hi => mapM_each _ _ _ hy i (List.mem_range.2 hi)⟩
    · rw [if_neg hlen] at h; cases h

/-- Numbers of 16 bits, by place. -/
theorem trod_u16s {w : World} {base : Nat} {spare : Nat → Bool} {held : Bool} {t e : TypeId} {n fuel : Nat} {cs : List Value} {x : DataW H × List MemPlace} (ht : P.underlying t = some (.array n e)) (he : P.underlying e = some (.int .u16)) (hce : P.cellsOf e = 1)
    (h : DataW.trod enc P w base spare held fuel t cs = some x) : ∀ i, i < n → i < cs.length → ∃ a : Int, cs[i]? = some (.int .u16 a) ∧ 0 ≤ a ∧ a ≤ 65535 := by
  intro i hi hl
  obtain ⟨_, m, _, h2⟩ := trod_arr ht h
  obtain ⟨y, hy⟩ := h2 i hi
  rw [hce, Nat.mul_one] at hy
  have e1 : (cs.drop i).take 1 = [cs[i]] := by rw [List.drop_eq_getElem_cons hl]; rfl
  rw [e1] at hy
  obtain ⟨a, e0, _, wa⟩ := DataW.trod_int he hy
  simp only [List.cons.injEq, and_true] at e0
  have hbd := bounds_u16 wa
  exact ⟨a, by rw [List.getElem?_eq_getElem hl, e0], hbd.1, hbd.2⟩

/-- Four numbers of 16 bits: by a function of the place. -/
theorem four_u16 {w : World} {base : Nat} {spare : Nat → Bool} {held : Bool} {t e : TypeId} {fuel : Nat} {cs : List Value} {x : DataW H × List MemPlace} (ht : P.underlying t = some (.array 4 e)) (he : P.underlying e = some (.int .u16)) (hce : P.cellsOf e = 1) (hct : P.cellsOf t = 4)
    (h : DataW.trod enc P w base spare held fuel t cs = some x) : ∃ a : Nat → Int, cs = [.int .u16 (a 0), .int .u16 (a 1), .int .u16 (a 2), .int .u16 (a 3)] ∧ ∀ i, i < 4 → 0 ≤ a i ∧ a i ≤ 65535 := by
  have hl : cs.length = 4 := (trod_arr ht h).1.trans hct
  have g := trod_u16s ht he hce h
  obtain ⟨a0, e0, b0⟩ := g 0 (by omega) (by omega)
  obtain ⟨a1, e1, b1⟩ := g 1 (by omega) (by omega)
  obtain ⟨a2, e2, b2⟩ := g 2 (by omega) (by omega)
  obtain ⟨a3, e3, b3⟩ := g 3 (by omega) (by omega)
  refine ⟨fun i => match i with | 0 => a0 | 1 => a1 | 2 => a2 | _ => a3, ?_, ?_⟩
  · apply List.ext_getElem?
    intro i
    match i with
    | 0 => exact e0
    | 1 => exact e1
    | 2 => exact e2
    | 3 => exact e3
    | n + 4 => rw [List.getElem?_eq_none (by omega)]; rfl
  · intro i hi
    match i, hi with
    | 0, _ => exact b0
    | 1, _ => exact b1
    | 2, _ => exact b2
    | 3, _ => exact b3

/-- A product comes in. -/
theorem open_four {W : World} {base : Nat} {r : Reach} {sp : Nat → Bool} {hd : Bool} {t e : TypeId} {v : Value} {d : DataW H} {p : List MemPlace} (ht : P.underlying t = some (.array 4 e)) (he : P.underlying e = some (.int .u16)) (hce : P.cellsOf e = 1) (hct : P.cellsOf t = 4)
    (hok : Value.okWide P W r base t v) (h : DataW.Trod enc P W 0 sp hd t v d p) : ∃ a : Nat → Int, v = .agg #[.int .u16 (a 0), .int .u16 (a 1), .int .u16 (a 2), .int .u16 (a 3)] ∧ ∀ i, i < 4 → 0 ≤ a i ∧ a i ≤ 65535 := by
  obtain ⟨cs, rfl, _⟩ : ∃ cs, v = .agg cs ∧ True := by
    unfold Value.okWide at hok
    rw [ht] at hok
    obtain ⟨cs, h1, _⟩ := hok
    exact ⟨cs, h1, trivial⟩
  obtain ⟨fuel, hf⟩ := h
  obtain ⟨a, ha, hb⟩ := four_u16 ht he hce hct hf
  refine ⟨a, ?_, hb⟩
  have : cs.toList = _ := ha
  rw [← this]
end Go.Proofs.YtkpajfjjhbbieaaGreatDoor.LawPost
namespace Go.Proofs.YtkpajfjjhbbieaaGreatDoor.Limb

abbrev BN : Nat := 1000000000
abbrev BI : Int := 1000000000
/-- A power of the base. -/
def pw (n : Nat) : Nat := BN ^ n
theorem pw_zero : pw 0 = 1 := rfl
theorem pw_succ (n : Nat) : pw (n + 1) = pw n * 1000000000 := by show BN ^ (n + 1) = BN ^ n * BN; exact Nat.pow_succ BN n
theorem pw_pos (n : Nat) : 0 < pw n := Nat.pow_pos (by decide)
theorem pw_add (m n : Nat) : pw (m + n) = pw m * pw n := Nat.pow_add _ _ _
theorem pw_le {m n : Nat} (h : m ≤ n) : pw m ≤ pw n := Nat.pow_le_pow_right (by decide) h

/-- The part at a place. -/
def dg (m i : Nat) : Nat := m / pw i % 1000000000
/-- How many parts there are. -/
def lenB (m : Nat) : Nat := if h : m = 0 then 0 else lenB (m / 1000000000) + 1
termination_by m
decreasing_by omega
theorem lenB_zero : lenB 0 = 0 := by unfold lenB; simp
theorem lenB_pos {m : Nat} (h : m ≠ 0) : lenB m = lenB (m / 1000000000) + 1 := by rw [lenB, dif_neg h]
theorem dg_zero (m : Nat) : dg m 0 = m % 1000000000 := by unfold dg; rw [pw_zero, Nat.div_one]
theorem dg_succ (m i : Nat) : dg m (i + 1) = dg (m / 1000000000) i := by
  unfold dg; rw [pw_succ, Nat.mul_comm, ← Nat.div_div_eq_div_mul]
theorem dg_lt (m i : Nat) : dg m i < 1000000000 := Nat.mod_lt _ (by decide)
theorem lt_pw_lenB (m : Nat) : m < pw (lenB m) := by
  induction m using Nat.strongRecOn with
  | _ m ih =>
    by_cases h : m = 0
    · subst h; rw [lenB_zero, pw_zero]; omega
    · rw [lenB_pos h, pw_succ]
      have := ih (m / 1000000000) (by omega)
      omega
theorem lenB_le {m n : Nat} (h : m < pw n) : lenB m ≤ n := by
  induction n generalizing m with
  | zero => rw [pw_zero] at h; rw [show m = 0 by omega, lenB_zero]; omega
  | succ n ih =>
    by_cases h0 : m = 0
    · subst h0; rw [lenB_zero]; omega
    · rw [lenB_pos h0]
      have := ih (m := m / 1000000000) (by rw [pw_succ] at h; omega)
      omega
theorem lenB_ge {m n : Nat} (h : pw n ≤ m) : n < lenB m := by
  rcases Nat.lt_or_ge n (lenB m) with h1 | h1
  · exact h1
  · have := lt_pw_lenB m; have := pw_le h1; omega
theorem pw_le_of_lenB {m n : Nat} (h : n < lenB m) : pw n ≤ m := by
  rcases Nat.lt_or_ge m (pw n) with h1 | h1
  · have := lenB_le h1; omega
  · exact h1
theorem lenB_mono {m n : Nat} (h : m ≤ n) : lenB m ≤ lenB n := lenB_le (Nat.lt_of_le_of_lt h (lt_pw_lenB n))
theorem lenB_eq_zero {m : Nat} : lenB m = 0 ↔ m = 0 := by
  constructor
  · intro h
    rcases Nat.eq_zero_or_pos m with h0 | h0
    · exact h0
    · rw [lenB_pos (by omega)] at h; omega
  · intro h; subst h; exact lenB_zero
/-- Behind the last part there is nothing. -/
theorem dg_out {m i : Nat} (h : lenB m ≤ i) : dg m i = 0 := by
  unfold dg
  have h1 := lt_pw_lenB m
  have h2 := pw_le h
  rw [Nat.div_eq_of_lt (by omega)]
/-- The last part is not 0. -/
theorem dg_last {m : Nat} (h : m ≠ 0) : dg m (lenB m - 1) ≠ 0 := by
  induction m using Nat.strongRecOn with
  | _ m ih =>
    rw [lenB_pos h, Nat.add_sub_cancel]
    by_cases h1 : m / 1000000000 = 0
    · rw [h1, lenB_zero, dg_zero]; omega
    · have := ih (m / 1000000000) (by omega) h1
      have e : lenB (m / 1000000000) = (lenB (m / 1000000000) - 1) + 1 := by
        have := lenB_pos h1; omega
      rw [e, dg_succ]; exact this

/-! ### Sums of parts -/
/-- The parts o 0, .., o (n-1), each so many times the power at its place. -/
def sumB (o : Nat → Int) : Nat → Int
  | 0 => 0
  | n + 1 => sumB o n + o n * (pw n : Int)
theorem sumB_congr {o o' : Nat → Int} {n : Nat} (h : ∀ i, i < n → o i = o' i) : sumB o n = sumB o' n := by
  induction n with
  | zero => rfl
  | succ n ih => rw [sumB, sumB, ih fun i hi => h i (by omega), h n (by omega)]
theorem sumB_bd {o : Nat → Int} {n : Nat} (h : ∀ i, i < n → 0 ≤ o i ∧ o i < 1000000000) : 0 ≤ sumB o n ∧ sumB o n < (pw n : Int) := by
  induction n with
  | zero => rw [sumB, pw_zero]; omega
  | succ n ih =>
    have h1 := ih fun i hi => h i (by omega)
    obtain ⟨h2, h3⟩ := h n (by omega)
    rw [sumB, pw_succ]
    have h4 : 0 ≤ o n * (pw n : Int) := Int.mul_nonneg h2 (by omega)
    have h5 : o n * (pw n : Int) ≤ 999999999 * (pw n : Int) := Int.mul_le_mul_of_nonneg_right (by omega) (by omega)
    omega
theorem sumB_shift (o : Nat → Int) (n : Nat) : sumB o (n + 1) = o 0 + 1000000000 * sumB (fun i => o (i + 1)) n := by
  induction n with
  | zero => show 0 + o 0 * ((pw 0 : Nat) : Int) = o 0 + 1000000000 * 0; rw [pw_zero]; omega
  | succ n ih =>
    rw [sumB, ih, sumB, pw_succ, Int.natCast_mul, Int.mul_add]
    have : o (n + 1) * ((pw n : Int) * ((1000000000 : Nat) : Int)) = 1000000000 * (o (n + 1) * (pw n : Int)) := by
      rw [← Int.mul_assoc, Int.mul_comm]; rfl
    omega
theorem sumB_add (o : Nat → Int) (m n : Nat) : sumB o (m + n) = sumB o m + (pw m : Int) * sumB (fun i => o (m + i)) n := by
  induction n with
  | zero => simp [sumB]
  | succ n ih =>
    rw [← Nat.add_assoc, sumB, ih, sumB, pw_add, Int.natCast_mul, Int.mul_add]
    have : o (m + n) * ((pw m : Int) * (pw n : Int)) = (pw m : Int) * (o (m + n) * (pw n : Int)) := by
      rw [← Int.mul_assoc, Int.mul_comm (o (m + n)), Int.mul_assoc]
    omega
theorem sumB_zero {o : Nat → Int} {n : Nat} (h : ∀ i, i < n → o i = 0) : sumB o n = 0 := by
  induction n with
  | zero => rfl
  | succ n ih => rw [sumB, ih fun i hi => h i (by omega), h n (by omega)]; simp
/-- The parts of a number, taken together, are it. -/
theorem sumB_dg (m : Nat) : ∀ n, m < pw n → sumB (fun i => (dg m i : Int)) n = m := by
  intro n
  induction n generalizing m with
  | zero => intro h; rw [pw_zero] at h; rw [sumB]; omega
  | succ n ih =>
    intro h
    rw [sumB_shift]
    have e : (fun i => ((dg m (i + 1) : Nat) : Int)) = fun i => ((dg (m / 1000000000) i : Nat) : Int) := by funext i; rw [dg_succ]
    rw [e, ih (m / 1000000000) (by rw [pw_succ] at h; omega), dg_zero]
    omega
/-- Parts that lie in the range are the number's own. -/
theorem dg_sumB {o : Nat → Int} : ∀ {n : Nat}, (∀ i, i < n → 0 ≤ o i ∧ o i < 1000000000) → ∀ i, i < n → (dg (sumB o n).toNat i : Int) = o i := by
  intro n
  induction n generalizing o with
  | zero => intro _ i hi; omega
  | succ n ih =>
    intro h i hi
    have h0 := h 0 (by omega)
    have hs := sumB_bd (o := fun i => o (i + 1)) (n := n) fun i hi => h (i + 1) (by omega)
    have hb := sumB_shift o n
    cases i with
    | zero => rw [dg_zero, hb]; omega
    | succ i =>
      have := ih (o := fun i => o (i + 1)) (fun i hi => h (i + 1) (by omega)) i (by omega)
      rw [dg_succ]
      have e : (sumB o (n + 1)).toNat / 1000000000 = (sumB (fun i => o (i + 1)) n).toNat := by rw [hb]; omega
      rw [e]; exact this
/-- .. and there are as many, if the last one is not 0. -/
theorem lenB_sumB {o : Nat → Int} {n : Nat} (h : ∀ i, i < n → 0 ≤ o i ∧ o i < 1000000000) (hl : 0 < n → o (n - 1) ≠ 0) : lenB (sumB o n).toNat = n := by
  have hb := sumB_bd h
  have h1 : lenB (sumB o n).toNat ≤ n := lenB_le (by omega)
  rcases Nat.eq_zero_or_pos n with h0 | h0
  · omega
  · have h2 : n - 1 < lenB (sumB o n).toNat := by
      refine lenB_ge ?_
      obtain ⟨k, rfl⟩ : ∃ k, n = k + 1 := ⟨n - 1, by omega⟩
      have h3 := (sumB_bd (o := o) (n := k) fun i hi => h i (by omega)).1
      have h4 := h k (by omega)
      have h5 := hl h0
      simp only [Nat.add_sub_cancel] at h5 ⊢
      have h6 : (pw k : Int) ≤ o k * (pw k : Int) := by
        have := Int.mul_le_mul_of_nonneg_right (show (1 : Int) ≤ o k by omega) (show (0 : Int) ≤ (pw k : Int) by omega)
        omega
      have h7 : sumB o (k + 1) = sumB o k + o k * (pw k : Int) := rfl
      omega
    omega
/-- Noughts behind are cut off. -/
theorem lenB_cut {o : Nat → Int} {n k : Nat} (h : ∀ i, i < n → 0 ≤ o i ∧ o i < 1000000000) (hk : k ≤ n) (hz : ∀ i, k ≤ i → i < n → o i = 0) (hl : 0 < k → o (k - 1) ≠ 0) : lenB (sumB o n).toNat = k := by
  have e : sumB o n = sumB o k := by
    obtain ⟨m, rfl⟩ : ∃ m, n = k + m := ⟨n - k, by omega⟩
    rw [sumB_add, sumB_zero (o := fun i => o (k + i)) (n := m) fun i hi => hz (k + i) (by omega) (by omega)]; simp
  rw [e]
  exact lenB_sumB (fun i hi => h i (by omega)) hl

/-! ### Numbers -/
/-- May a number be: its sign, how many parts, its parts. -/
def okN (s : Bool) (n : Nat) (o : Nat → Int) : Prop := (∀ i, i < n → o i < 1000000000) ∧ (n = 0 → s = false) ∧ (0 < n → o (n - 1) ≠ 0)
open Classical in
/-- The number that is meant: 0, if it may not be. -/
noncomputable def valN (s : Bool) (n : Nat) (o : Nat → Int) : Int := if okN s n o then (if s = true then - sumB o n else sumB o n) else 0
theorem valN_not {s : Bool} {n : Nat} {o : Nat → Int} (h : ¬ okN s n o) : valN s n o = 0 := by unfold valN; rw [if_neg h]
theorem valN_abs {s : Bool} {n : Nat} {o : Nat → Int} (h : okN s n o) (h0 : ∀ i, i < n → 0 ≤ o i) : (valN s n o).natAbs = (sumB o n).toNat := by
  have := (sumB_bd (o := o) (n := n) fun i hi => ⟨h0 i hi, h.1 i hi⟩).1
  unfold valN; rw [if_pos h]
  by_cases hs : s = true
  · rw [if_pos hs]; omega
  · rw [if_neg hs]; omega
theorem valN_len {s : Bool} {n : Nat} {o : Nat → Int} (h : okN s n o) (h0 : ∀ i, i < n → 0 ≤ o i) : lenB (valN s n o).natAbs = n := by
  rw [valN_abs h h0]; exact lenB_sumB (fun i hi => ⟨h0 i hi, h.1 i hi⟩) h.2.2
theorem valN_dg {s : Bool} {n : Nat} {o : Nat → Int} (h : okN s n o) (h0 : ∀ i, i < n → 0 ≤ o i) (i : Nat) (hi : i < n) : (dg (valN s n o).natAbs i : Int) = o i := by
  rw [valN_abs h h0]; exact dg_sumB (fun i hi => ⟨h0 i hi, h.1 i hi⟩) i hi
theorem valN_neg {s : Bool} {n : Nat} {o : Nat → Int} (h : okN s n o) (h0 : ∀ i, i < n → 0 ≤ o i) : decide (valN s n o < 0) = s := by
  have hb := (sumB_bd (o := o) (n := n) fun i hi => ⟨h0 i hi, h.1 i hi⟩).1
  have hl := valN_len h h0
  rw [valN_abs h h0] at hl
  have h3 := h.2.1
  unfold valN; rw [if_pos h]
  cases s with
  | false => simp; omega
  | true =>
    have hn : n ≠ 0 := fun e => by have := h3 e; contradiction
    have : (sumB o n).toNat ≠ 0 := fun e => by rw [e, lenB_zero] at hl; omega
    simp; omega
end Go.Proofs.YtkpajfjjhbbieaaGreatDoor.Limb
namespace Go.Fresh
open Go.RowKit
variable {P : Program} {ops : Array Oper} {md : Region.Mode} {C : World → Prop}
theorem wpF_gspec {sp : Nat → Spec} {Q : Act → Facts → Prop} {o : Oper} {rest : List Oper} {k : Nat} {a : Act} {F : Facts} (hg : Region.wanted o (yielded ops a.tmps) = true) {V : Value → Prop} {Ψ : Value → World → Prop} (hs : sp k = some (V, Ψ))
    (hr : ∀ w, Has md ops C k F w → givesUpon P w (fun v w' => V v ∧ Ψ v w') ((execOp a.eval o).run P w)) (hK : ∀ v, V v → wpF P md ops C sp Q rest (k + 1) (a.put o.dst v) (F.set k (Ψ v))) : wpF P md ops C sp Q (o :: rest) k a F :=
  ⟨V, Ψ, .inl ⟨hg, .inr ⟨hs, hr⟩⟩, hK⟩
end Go.Fresh
namespace Go.Proofs.YtkpajfjjhbbieaaGreatDoor.Limb

def cmpZ (x y : Int) : Int := if x < y then -1 else if y < x then 1 else 0
theorem cmpZ_lt {x y : Int} (h : x < y) : cmpZ x y = -1 := by unfold cmpZ; rw [if_pos h]
theorem cmpZ_gt {x y : Int} (h : y < x) : cmpZ x y = 1 := by unfold cmpZ; rw [if_neg (by omega), if_pos h]
theorem cmpZ_eq {x y : Int} (h : x = y) : cmpZ x y = 0 := by unfold cmpZ; rw [if_neg (by omega), if_neg (by omega)]
theorem cmpZ_congr {x y u v : Int} (h1 : x < y ↔ u < v) (h2 : y < x ↔ v < u) : cmpZ x y = cmpZ u v := by
  rcases Int.lt_trichotomy x y with h | h | h
  · rw [cmpZ_lt h, cmpZ_lt (h1.1 h)]
  · rw [cmpZ_eq h, cmpZ_eq (by have a1 := mt h1.2 (by omega); have a2 := mt h2.2 (by omega); omega)]
  · rw [cmpZ_gt h, cmpZ_gt (h2.1 h)]
theorem cmpZ_neg (x y : Int) : cmpZ (-x) (-y) = cmpZ y x := cmpZ_congr (by omega) (by omega)
theorem cmpZ_swap (x y : Int) : cmpZ y x = - cmpZ x y := by
  rcases Int.lt_trichotomy x y with h | h | h
  · rw [cmpZ_lt h, cmpZ_gt h]; rfl
  · rw [cmpZ_eq h, cmpZ_eq h.symm]; rfl
  · rw [cmpZ_gt h, cmpZ_lt h]

abbrev Dig (o : Nat → Int) (n : Nat) : Prop := ∀ i, i < n → 0 ≤ o i ∧ o i < 1000000000
theorem sumB_lt {a b : Nat → Int} {k n : Nat} (ha : Dig a n) (hb : Dig b n) (hk : k < n) (heq : ∀ j, k < j → j < n → a j = b j) (h : a k < b k) : sumB a n < sumB b n := by
  obtain ⟨m, rfl⟩ : ∃ m, n = (k + 1) + m := ⟨n - (k + 1), by omega⟩
  have e3 := sumB_add a (k + 1) m
  have e4 := sumB_add b (k + 1) m
  rw [sumB_congr (o := fun i => a (k + 1 + i)) (o' := fun i => b (k + 1 + i)) fun i hi => heq _ (by omega) (by omega)] at e3
  have h1 := sumB_bd (o := a) (n := k) fun i hi => ha i (by omega)
  have h2 := sumB_bd (o := b) (n := k) fun i hi => hb i (by omega)
  have e1 : sumB a (k + 1) = sumB a k + a k * (pw k : Int) := rfl
  have e2 : sumB b (k + 1) = sumB b k + b k * (pw k : Int) := rfl
  have h3 : (a k + 1) * (pw k : Int) ≤ b k * (pw k : Int) := Int.mul_le_mul_of_nonneg_right (by omega) (by omega)
  rw [Int.add_mul] at h3
  omega
/-- From the upper end on, where do two part for the first time: above k they are the same. -/
def TopDiff (a b : Nat → Int) (n k : Nat) : Prop := k ≤ n ∧ (∀ j, k ≤ j → j < n → a j = b j) ∧ (0 < k → a (k - 1) ≠ b (k - 1))
theorem topDiff_any (a b : Nat → Int) (n : Nat) : ∃ k, TopDiff a b n k := by
  induction n with
  | zero => exact ⟨0, by omega, fun j _ h => by omega, fun h => by omega⟩
  | succ n ih =>
    by_cases h : a n = b n
    · obtain ⟨k, h1, h2, h3⟩ := ih
      exact ⟨k, by omega, fun j hj hn => by
        by_cases e : j = n
        · rw [e]; exact h
        · exact h2 j hj (by omega), h3⟩
    · exact ⟨n + 1, by omega, fun j hj hn => by omega, fun _ => h⟩
theorem topDiff_cmp {a b : Nat → Int} {n k : Nat} (ha : Dig a n) (hb : Dig b n) (h : TopDiff a b n k) : cmpZ (sumB a n) (sumB b n) = if k = 0 then 0 else cmpZ (a (k - 1)) (b (k - 1)) := by
  obtain ⟨h1, h2, h3⟩ := h
  by_cases hk : k = 0
  · rw [if_pos hk, sumB_congr (o := a) (o' := b) fun i hi => h2 i (by omega) hi]; exact cmpZ_eq rfl
  · rw [if_neg hk]
    have h4 := h3 (by omega)
    rcases Int.lt_or_gt_of_ne h4 with h5 | h5
    · rw [cmpZ_lt h5, cmpZ_lt (sumB_lt ha hb (show k - 1 < n by omega) (fun j hj hn => h2 j (by omega) hn) h5)]
    · rw [cmpZ_gt h5, cmpZ_gt (sumB_lt hb ha (show k - 1 < n by omega) (fun j hj hn => (h2 j (by omega) hn).symm) h5)]
/-- The parts of an amount. -/
abbrev dgi (m : Nat) (i : Nat) : Int := (dg m i : Int)
theorem dgi_Dig (m n : Nat) : Dig (dgi m) n := fun i _ => ⟨by show (0 : Int) ≤ (dg m i : Int); omega, by have := dg_lt m i; show ((dg m i : Nat) : Int) < _; omega⟩
theorem sumB_dgi (m : Nat) : sumB (dgi m) (lenB m) = m := sumB_dg m _ (lt_pw_lenB m)
theorem sumB_dgi_le {m n : Nat} (h : lenB m ≤ n) : sumB (dgi m) n = m := sumB_dg m n (by have := lt_pw_lenB m; have := pw_le h; omega)
theorem cmp_len {m n : Nat} (h : lenB m < lenB n) : m < n := by
  have h1 := lt_pw_lenB m
  have h2 := pw_le_of_lenB (m := n) (n := lenB m) h
  omega

/-! ### What goes on being carried -/
def cS (f : Nat → Int) : Nat → Int
  | 0 => 0
  | i + 1 => (f i + cS f i) / 1000000000
def cD (f : Nat → Int) (i : Nat) : Int := (f i + cS f i) % 1000000000
theorem cD_Dig (f : Nat → Int) (n : Nat) : Dig (cD f) n := fun i _ => by unfold cD; omega
theorem cS_sum (f : Nat → Int) (n : Nat) : sumB (cD f) n + cS f n * (pw n : Int) = sumB f n := by
  induction n with
  | zero => show 0 + 0 * ((pw 0 : Nat) : Int) = 0; omega
  | succ n ih =>
    rw [sumB, sumB, ← ih, cS, pw_succ, Int.natCast_mul]
    have e : f n + cS f n = (f n + cS f n) / 1000000000 * 1000000000 + cD f n := by unfold cD; omega
    have e2 : (f n + cS f n) * (pw n : Int) = ((f n + cS f n) / 1000000000 * 1000000000 + cD f n) * (pw n : Int) := by rw [← e]
    rw [Int.add_mul, Int.add_mul] at e2
    have e3 : (f n + cS f n) / 1000000000 * ((pw n : Int) * ((1000000000 : Nat) : Int)) = (f n + cS f n) / 1000000000 * 1000000000 * (pw n : Int) := by
      rw [Int.mul_comm (pw n : Int), ← Int.mul_assoc]; rfl
    omega
theorem cS_bd {f : Nat → Int} {lo hi : Int} {n : Nat} (hl : lo ≤ 0) (hh : 0 ≤ hi) (h : ∀ i, i < n → lo * 999999999 ≤ f i ∧ f i ≤ hi * 999999999) : lo ≤ cS f n ∧ cS f n ≤ hi := by
  induction n with
  | zero => exact ⟨hl, hh⟩
  | succ n ih =>
    have h1 := ih fun i hi => h i (by omega)
    have h2 := h n (by omega)
    rw [cS]; omega
theorem cS_fits {f : Nat → Int} {n : Nat} (h0 : 0 ≤ sumB f n) (h1 : sumB f n < (pw n : Int)) : cS f n = 0 ∧ sumB (cD f) n = sumB f n := by
  have h2 := cS_sum f n
  have h3 := sumB_bd (cD_Dig f n)
  have hp : (0 : Int) < (pw n : Int) := by have := pw_pos n; omega
  have h4 : cS f n = 0 := by
    rcases Int.lt_trichotomy (cS f n) 0 with h | h | h
    · have : cS f n * (pw n : Int) ≤ -1 * (pw n : Int) := Int.mul_le_mul_of_nonneg_right (by omega) (by omega)
      omega
    · exact h
    · have : 1 * (pw n : Int) ≤ cS f n * (pw n : Int) := Int.mul_le_mul_of_nonneg_right (by omega) (by omega)
      omega
  rw [h4] at h2
  exact ⟨h4, by omega⟩
theorem sumB_plus (f g : Nat → Int) (n : Nat) : sumB (fun i => f i + g i) n = sumB f n + sumB g n := by
  induction n with
  | zero => rfl
  | succ n ih => rw [sumB, sumB, sumB, ih, Int.add_mul]; omega
theorem sumB_times (f : Nat → Int) (c : Int) (n : Nat) : sumB (fun i => f i * c) n = sumB f n * c := by
  induction n with
  | zero => show (0 : Int) = 0 * c; omega
  | succ n ih =>
    rw [sumB, sumB, ih, Int.add_mul]
    have : f n * c * (pw n : Int) = f n * (pw n : Int) * c := by rw [Int.mul_assoc, Int.mul_comm c, ← Int.mul_assoc]
    omega
/-- A part, or 0 behind the end. -/
def part (o : Nat → Int) (n i : Nat) : Int := if i < n then o i else 0
theorem sumB_part (o : Nat → Int) {n m : Nat} (h : n ≤ m) : sumB (part o n) m = sumB o n := by
  obtain ⟨k, rfl⟩ : ∃ k, m = n + k := ⟨m - n, by omega⟩
  rw [sumB_add, sumB_zero (o := fun i => part o n (n + i)) (n := k) fun i _ => by unfold part; rw [if_neg (by omega)]]
  rw [sumB_congr (o := part o n) (o' := o) fun i hi => by unfold part; rw [if_pos hi]]
  omega
end Go.Proofs.YtkpajfjjhbbieaaGreatDoor.Limb
namespace Go.Proofs.YtkpajfjjhbbieaaGreatDoor.Limb
open Go.RowKit Go.Sort

abbrev uc (o : Nat → Int) (i : Nat) : Value := .int .u32 (o i)
/-- A number as a value: its sign, its list. -/
abbrev numV (s : Bool) (a : Option Addr) (n cap : Nat) : Value := .agg #[.bool s, .slice a n cap]

/-- A list of n parts that may be read. -/
structure Rd (w : World) (a : Option Addr) (n : Nat) (o : Nat → Int) : Prop where
  cells : 0 < n → ∃ b off, a = some ⟨b, off, none⟩ ∧ ∀ i, i < n → w.cell? ⟨b, off + i, none⟩ = some (uc o i)
  rng : ∀ i, i < n → 0 ≤ o i ∧ o i ≤ 4294967295
theorem Rd.nil (w : World) (a : Option Addr) (o : Nat → Int) : Rd w a 0 o := ⟨fun h => absurd h (by omega), fun i h => absurd h (by omega)⟩
/-- In a later world that has left old memory alone. -/
theorem Rd.below {w w' : World} {a : Option Addr} {n : Nat} {o : Nat → Int} (h : Rd w a n o) (hb : Below w.heap.size w w') : Rd w' a n o := by
  refine ⟨fun hn => ?_, h.rng⟩
  obtain ⟨b, off, ha, hc⟩ := h.cells hn
  refine ⟨b, off, ha, fun i hi => ?_⟩
  have h1 := hc i hi
  have h2 : b < w.heap.size := block_lt_of_cell h1
  exact (hb.cell (p := ⟨b, off + i, none⟩) h2).trans h1
theorem Rd.drewN {w : World} {a : Option Addr} {n : Nat} {o : Nat → Int} (h : Rd w a n o) (m : Nat) : Rd (w.drewN m) a n o := ⟨h.cells, h.rng⟩
theorem Rd.le {w : World} {a : Option Addr} {n m : Nat} {o : Nat → Int} (h : Rd w a n o) (hm : m ≤ n) : Rd w a m o := by
  refine ⟨fun hn => ?_, fun i hi => h.rng i (by omega)⟩
  obtain ⟨b, off, ha, hc⟩ := h.cells (by omega)
  exact ⟨b, off, ha, fun i hi => hc i (by omega)⟩
theorem Rd.congr {w : World} {a : Option Addr} {n : Nat} {o o' : Nat → Int} (h : Rd w a n o) (e : ∀ i, i < n → o i = o' i) : Rd w a n o' := by
  refine ⟨fun hn => ?_, fun i hi => by rw [← e i hi]; exact h.rng i hi⟩
  obtain ⟨b, off, ha, hc⟩ := h.cells hn
  exact ⟨b, off, ha, fun i hi => by rw [hc i hi]; show some (Value.int .u32 (o i)) = _; rw [e i hi]⟩

/-- A list that the call has made itself: in a block from 'base' on, not frozen, from its head; or it has no room at all. -/
structure Own (T : Nat) (w : World) (base : Nat) (a : Option Addr) (n cap : Nat) (o : Nat → Int) : Prop where
  le : n ≤ cap
  place : (a = none ∧ n = 0 ∧ cap = 0) ∨ ∃ g cur, a = some ⟨g, 0, none⟩ ∧ base ≤ g ∧ w.heap[g]? = some (.cells cur T (0, 0)) ∧ cap ≤ cur.size ∧ ∀ i, i < n → cur[i]? = some (uc o i)
  rng : ∀ i, i < n → 0 ≤ o i ∧ o i ≤ 4294967295
theorem Own.rd {T : Nat} {w : World} {base : Nat} {a : Option Addr} {n cap : Nat} {o : Nat → Int} (h : Own T w base a n cap o) : Rd w a n o := by
  refine ⟨fun hn => ?_, h.rng⟩
  rcases h.place with ⟨_, h0, _⟩ | ⟨g, cur, ha, _, hg, _, hc⟩
  · omega
  · exact ⟨g, 0, ha, fun i hi => by rw [cell_of_row _ _ _ _ _ _ hg, Nat.zero_add]; exact hc i hi⟩
theorem Own.below {T : Nat} {w w' : World} {base : Nat} {a : Option Addr} {n cap : Nat} {o : Nat → Int} (h : Own T w base a n cap o) (hb : Below w.heap.size w w') : Own T w' base a n cap o := by
  refine ⟨h.le, ?_, h.rng⟩
  rcases h.place with h0 | ⟨g, cur, ha, hbg, hg, hcap, hc⟩
  · exact Or.inl h0
  · exact Or.inr ⟨g, cur, ha, hbg, (hb.block g (lt_of_block hg)).trans hg, hcap, hc⟩
theorem Own.mono {T : Nat} {w : World} {base base' : Nat} {a : Option Addr} {n cap : Nat} {o : Nat → Int} (h : Own T w base a n cap o) (hb : base' ≤ base) : Own T w base' a n cap o := by
  refine ⟨h.le, ?_, h.rng⟩
  rcases h.place with h0 | ⟨g, cur, ha, hbg, hg, hcap, hc⟩
  · exact Or.inl h0
  · exact Or.inr ⟨g, cur, ha, by omega, hg, hcap, hc⟩

/-- The result lies in a variable: a row of cells. -/
theorem results_cell {P : Program} {fn : Func} {p : Tmp} {ty : TypeId} (h : fn.results = #[.cell p ty]) (tmps : Array Value) (w : World) (g : Nat) (t : TypeId) (cs : Array Value) (fr : Nat × Nat) (d : TypeDesc)
    (hp : tmps.getD p undef = .pointer (some ⟨g, 0, none⟩)) (hg : w.heap[g]? = some (.cells cs t fr))
    (hu : P.underlying ty = some d) (hd : (match d with | .struct _ | .array _ _ => true | _ => false) = true) (hi : (P.info? ty).map (·.size) = some cs.size) :
    (results fn tmps).run P w = .ok (.agg cs) w := results_cell_row h tmps w g t cs fr d hp hg hu hd hi
theorem bcell {W w1 : World} (hb : Below W.heap.size W w1) : (∀ b o, b < W.heap.size → w1.cell? ⟨b, o, none⟩ = W.cell? ⟨b, o, none⟩) ∧ (∀ b o, b < W.heap.size → w1.frozen? ⟨b, o, none⟩ = W.frozen? ⟨b, o, none⟩) :=
  ⟨fun b o h => hb.cell (p := ⟨b, o, none⟩) h, fun b o h => hb.frozen (p := ⟨b, o, none⟩) h⟩
theorem bdrewN {B : Nat} {a w : World} (h : Below B a w) (n : Nat) : Below B a (w.drewN n) := ⟨h.os, h.tape, h.output, h.size, h.block⟩
end Go.Proofs.YtkpajfjjhbbieaaGreatDoor.Limb
namespace Go.Proofs.YtkpajfjjhbbieaaGreatDoor.Limb

/-- One part set anew. -/
def upd (o : Nat → Int) (j : Nat) (v : Int) : Nat → Int := fun t => if t = j then v else o t
theorem upd_same (o : Nat → Int) (j : Nat) (v : Int) : upd o j v j = v := by simp [upd]
theorem upd_ne (o : Nat → Int) {j t : Nat} (v : Int) (h : t ≠ j) : upd o j v t = o t := by simp [upd, h]
theorem sumB_upd_ge (o : Nat → Int) (v : Int) {j : Nat} : ∀ {n : Nat}, n ≤ j → sumB (upd o j v) n = sumB o n := fun h =>
  sumB_congr fun i hi => upd_ne o v (by omega)
theorem sumB_upd (o : Nat → Int) (v : Int) {j n : Nat} (h : j < n) : sumB (upd o j v) n = sumB o n + (v - o j) * (pw j : Int) := by
  induction n with
  | zero => omega
  | succ n ih =>
    rw [sumB, sumB]
    by_cases e : j = n
    · subst e
      rw [sumB_upd_ge o v (Nat.le_refl _), upd_same, Int.sub_mul]; omega
    · rw [ih (by omega), upd_ne o v (by omega)]; omega
theorem upd_Dig {o : Nat → Int} {n : Nat} (h : Dig o n) (j : Nat) {v : Int} (hv : 0 ≤ v ∧ v < 1000000000) : Dig (upd o j v) n := by
  intro i hi
  by_cases e : i = j
  · subst e; rw [upd_same]; exact hv
  · rw [upd_ne o v e]; exact h i hi

/-- Ahead of row i: what stands there is the product of the first i parts with the other amount; behind there is nothing. -/
structure MulRow (x y : Nat → Int) (lb n i : Nat) (o : Nat → Int) : Prop where
  dig : Dig o n
  sum : sumB o n = sumB x i * sumB y lb
  out : ∀ j, i + lb ≤ j → j < n → o j = 0
/-- Within row i, ahead of place k. -/
structure MulIn (x y : Nat → Int) (lb n i k : Nat) (o : Nat → Int) (on : Int) : Prop where
  dig : Dig o n
  on0 : 0 ≤ on ∧ on < 1000000000
  sum : sumB o n + on * (pw (i + k) : Int) = sumB x i * sumB y lb + x i * sumB y k * (pw i : Int)
  out : ∀ j, i + lb ≤ j → j < n → o j = 0
theorem MulRow.start (x y : Nat → Int) (lb n : Nat) : MulRow x y lb n 0 (fun _ => 0) :=
  ⟨fun i _ => by omega, by rw [sumB_zero (fun _ _ => rfl)]; show (0 : Int) = 0 * _; omega, fun _ _ _ => rfl⟩
theorem MulRow.inner {x y : Nat → Int} {lb n i : Nat} {o : Nat → Int} (h : MulRow x y lb n i o) : MulIn x y lb n i 0 o 0 :=
  ⟨h.dig, by omega, by rw [h.sum]; show _ + 0 * _ = _ + x i * 0 * _; rw [Int.mul_zero]; omega, h.out⟩
theorem mul_bd {a b : Int} (ha : 0 ≤ a ∧ a < 1000000000) (hb : 0 ≤ b ∧ b < 1000000000) : 0 ≤ a * b ∧ a * b ≤ 999999998000000001 := by
  constructor
  · exact Int.mul_nonneg ha.1 hb.1
  · calc a * b ≤ 999999999 * b := Int.mul_le_mul_of_nonneg_right (by omega) hb.1
      _ ≤ 999999999 * 999999999 := Int.mul_le_mul_of_nonneg_left (by omega) (by omega)
      _ = 999999998000000001 := by decide
theorem MulIn.step {x y : Nat → Int} {lb n i k : Nat} {o : Nat → Int} {on : Int} (h : MulIn x y lb n i k o on) (hx : 0 ≤ x i ∧ x i < 1000000000) (hy : 0 ≤ y k ∧ y k < 1000000000) (hk : k < lb) (hn : i + lb ≤ n) :
    (0 ≤ on + (x i * y k + o (i + k)) ∧ on + (x i * y k + o (i + k)) ≤ 999999999999999999) ∧
    MulIn x y lb n i (k + 1) (upd o (i + k) ((on + (x i * y k + o (i + k))) % 1000000000)) ((on + (x i * y k + o (i + k))) / 1000000000) := by
  have hb := mul_bd hx hy
  have hd := h.dig (i + k) (by omega)
  have h0 := h.on0
  have hs := h.sum
  refine ⟨by omega, upd_Dig h.dig _ (by omega), by omega, ?_, fun j hj hjn => by rw [upd_ne o _ (by omega)]; exact h.out j hj hjn⟩
  rw [sumB_upd o _ (show i + k < n by omega), ← Nat.add_assoc, pw_succ, Int.natCast_mul]
  generalize hT : on + (x i * y k + o (i + k)) = T
  have e1 : T = 1000000000 * (T / 1000000000) + T % 1000000000 := by omega
  have e2 : (T % 1000000000 - o (i + k)) * (pw (i + k) : Int) + T / 1000000000 * ((pw (i + k) : Int) * ((1000000000 : Nat) : Int)) = (T - o (i + k)) * (pw (i + k) : Int) := by
    have : T / 1000000000 * ((pw (i + k) : Int) * ((1000000000 : Nat) : Int)) = 1000000000 * (T / 1000000000) * (pw (i + k) : Int) := by
      rw [Int.mul_comm (pw (i + k) : Int), ← Int.mul_assoc, Int.mul_comm (T / 1000000000)]; rfl
    rw [this, ← Int.add_mul]
    congr 1
    omega
  have e3 : (T - o (i + k)) * (pw (i + k) : Int) = on * (pw (i + k) : Int) + x i * y k * (pw (i + k) : Int) := by
    rw [← Int.add_mul, ← hT]; congr 1; omega
  have e4 : x i * sumB y (k + 1) * (pw i : Int) = x i * sumB y k * (pw i : Int) + x i * y k * (pw (i + k) : Int) := by
    rw [sumB, Int.mul_add, Int.add_mul, pw_add, Int.natCast_mul]
    congr 1
    rw [Int.mul_assoc, Int.mul_assoc, Int.mul_assoc, Int.mul_comm (pw k : Int)]
  omega
theorem MulIn.row {x y : Nat → Int} {lb n i : Nat} {o : Nat → Int} {on : Int} (h : MulIn x y lb n i lb o on) (hn : i + lb < n) : MulRow x y lb n (i + 1) (upd o (i + lb) on) := by
  have hs := h.sum
  have ho := h.out (i + lb) (Nat.le_refl _) hn
  refine ⟨upd_Dig h.dig _ h.on0, ?_, fun j hj hjn => by rw [upd_ne o _ (by omega)]; exact h.out j (by omega) hjn⟩
  rw [sumB_upd o _ hn, ho, Int.sub_zero, hs, sumB, Int.add_mul]
  congr 1
  rw [Int.mul_assoc, Int.mul_assoc, Int.mul_comm (sumB y lb)]
end Go.Proofs.YtkpajfjjhbbieaaGreatDoor.Limb
namespace Go.Proofs.YtkpajfjjhbbieaaGreatDoor.Book
open Go.RowKit Go.Sort

set_option maxHeartbeats 400000 in
theorem fillByte (b : Nat) (w : World) (h : w.cell? ⟨b, 1, none⟩ = some (.slice none 0 0)) : Calls Tryz.prog 62 #[.pointer (some ⟨b, 0, none⟩)] w fun e w' => (∃ v, e = .returned v) ∧ w' = w := by
  go_enter Tryz.func62, Tryz.ntmps62
  go_wp2_with fail
  go_loopw [2] (fun i wr => i = .int .i64 0 ∧ wr = w) (fun _ _ => 0)
  case atStart => exact ⟨rfl, rfl⟩
  case round =>
    obtain ⟨rfl, rfl⟩ := hrel
    go_wp2
    (try simp only [Exit.inBlock, Exit.then])
    refine bodyPost_end (results_none rfl _ _ _) rfl ?_
    exact ⟨⟨_, rfl⟩, rfl⟩
set_option maxHeartbeats 400000 in
theorem growByte (b : Nat) (w : World) (h : w.cell? ⟨b, 1, none⟩ = some (.slice none 0 0)) : Calls Tryz.prog 74 #[.pointer (some ⟨b, 0, none⟩)] w fun e w' => (∃ v, e = .returned v) ∧ w' = w := by
  go_enter Tryz.func74, Tryz.ntmps74
  go_wp2_with fail
  go_loopw [2] (fun i wr => i = .int .i64 0 ∧ wr = w) (fun _ _ => 0)
  case atStart => exact ⟨rfl, rfl⟩
  case round =>
    obtain ⟨rfl, rfl⟩ := hrel
    go_wp2
    (try simp only [Exit.inBlock, Exit.then])
    refine bodyPost_end (results_none rfl _ _ _) rfl ?_
    exact ⟨⟨_, rfl⟩, rfl⟩
set_option maxHeartbeats 400000 in
theorem lookByte (b : Nat) (w : World) (h : w.cell? ⟨b, 1, none⟩ = some (.slice none 0 0)) : Calls Tryz.prog 86 #[.pointer (some ⟨b, 0, none⟩)] w fun e w' => e = .returned (.bool true) ∧ w' = w := by
  go_enter Tryz.func86, Tryz.ntmps86
  go_wp2_with fail
  go_loopw [3] (fun i wr => i = .int .i64 0 ∧ wr = w) (fun _ _ => 0)
  case atStart => exact ⟨rfl, rfl⟩
  case round =>
    obtain ⟨rfl, rfl⟩ := hrel
    go_wp2
    go_ret
    exact ⟨rfl, rfl⟩
set_option maxHeartbeats 400000 in
theorem fillText (b : Nat) (w : World) (h : w.cell? ⟨b, 3, none⟩ = some (.slice none 0 0)) : Calls Tryz.prog 64 #[.pointer (some ⟨b, 0, none⟩)] w fun e w' => (∃ v, e = .returned v) ∧ w' = w := by
  go_enter Tryz.func64, Tryz.ntmps64
  go_wp2_with fail
  go_loopw [2] (fun i wr => i = .int .i64 0 ∧ wr = w) (fun _ _ => 0)
  case atStart => exact ⟨rfl, rfl⟩
  case round =>
    obtain ⟨rfl, rfl⟩ := hrel
    go_wp2
    (try simp only [Exit.inBlock, Exit.then])
    refine bodyPost_end (results_none rfl _ _ _) rfl ?_
    exact ⟨⟨_, rfl⟩, rfl⟩
set_option maxHeartbeats 400000 in
theorem growText (b : Nat) (w : World) (h : w.cell? ⟨b, 3, none⟩ = some (.slice none 0 0)) : Calls Tryz.prog 76 #[.pointer (some ⟨b, 0, none⟩)] w fun e w' => (∃ v, e = .returned v) ∧ w' = w := by
  go_enter Tryz.func76, Tryz.ntmps76
  go_wp2_with fail
  go_loopw [2] (fun i wr => i = .int .i64 0 ∧ wr = w) (fun _ _ => 0)
  case atStart => exact ⟨rfl, rfl⟩
  case round =>
    obtain ⟨rfl, rfl⟩ := hrel
    go_wp2
    (try simp only [Exit.inBlock, Exit.then])
    refine bodyPost_end (results_none rfl _ _ _) rfl ?_
    exact ⟨⟨_, rfl⟩, rfl⟩
set_option maxHeartbeats 400000 in
theorem lookText (b : Nat) (w : World) (h : w.cell? ⟨b, 3, none⟩ = some (.slice none 0 0)) : Calls Tryz.prog 88 #[.pointer (some ⟨b, 0, none⟩)] w fun e w' => e = .returned (.bool true) ∧ w' = w := by
  go_enter Tryz.func88, Tryz.ntmps88
  go_wp2_with fail
  go_loopw [3] (fun i wr => i = .int .i64 0 ∧ wr = w) (fun _ _ => 0)
  case atStart => exact ⟨rfl, rfl⟩
  case round =>
    obtain ⟨rfl, rfl⟩ := hrel
    go_wp2
    go_ret
    exact ⟨rfl, rfl⟩
set_option maxHeartbeats 400000 in
theorem fillToken (b : Nat) (w : World) (h : w.cell? ⟨b, 4, none⟩ = some (.slice none 0 0)) : Calls Tryz.prog 65 #[.pointer (some ⟨b, 0, none⟩)] w fun e w' => (∃ v, e = .returned v) ∧ w' = w := by
  go_enter Tryz.func65, Tryz.ntmps65
  go_wp2_with fail
  go_loopw [2] (fun i wr => i = .int .i64 0 ∧ wr = w) (fun _ _ => 0)
  case atStart => exact ⟨rfl, rfl⟩
  case round =>
    obtain ⟨rfl, rfl⟩ := hrel
    go_wp2
    (try simp only [Exit.inBlock, Exit.then])
    refine bodyPost_end (results_none rfl _ _ _) rfl ?_
    exact ⟨⟨_, rfl⟩, rfl⟩
set_option maxHeartbeats 400000 in
theorem growToken (b : Nat) (w : World) (h : w.cell? ⟨b, 4, none⟩ = some (.slice none 0 0)) : Calls Tryz.prog 77 #[.pointer (some ⟨b, 0, none⟩)] w fun e w' => (∃ v, e = .returned v) ∧ w' = w := by
  go_enter Tryz.func77, Tryz.ntmps77
  go_wp2_with fail
  go_loopw [2] (fun i wr => i = .int .i64 0 ∧ wr = w) (fun _ _ => 0)
  case atStart => exact ⟨rfl, rfl⟩
  case round =>
    obtain ⟨rfl, rfl⟩ := hrel
    go_wp2
    (try simp only [Exit.inBlock, Exit.then])
    refine bodyPost_end (results_none rfl _ _ _) rfl ?_
    exact ⟨⟨_, rfl⟩, rfl⟩
set_option maxHeartbeats 400000 in
theorem lookToken (b : Nat) (w : World) (h : w.cell? ⟨b, 4, none⟩ = some (.slice none 0 0)) : Calls Tryz.prog 89 #[.pointer (some ⟨b, 0, none⟩)] w fun e w' => e = .returned (.bool true) ∧ w' = w := by
  go_enter Tryz.func89, Tryz.ntmps89
  go_wp2_with fail
  go_loopw [3] (fun i wr => i = .int .i64 0 ∧ wr = w) (fun _ _ => 0)
  case atStart => exact ⟨rfl, rfl⟩
  case round =>
    obtain ⟨rfl, rfl⟩ := hrel
    go_wp2
    go_ret
    exact ⟨rfl, rfl⟩
set_option maxHeartbeats 400000 in
theorem fillNum (b : Nat) (w : World) (h : w.cell? ⟨b, 5, none⟩ = some (.slice none 0 0)) : Calls Tryz.prog 66 #[.pointer (some ⟨b, 0, none⟩)] w fun e w' => (∃ v, e = .returned v) ∧ w' = w := by
  go_enter Tryz.func66, Tryz.ntmps66
  go_wp2_with fail
  go_loopw [2] (fun i wr => i = .int .i64 0 ∧ wr = w) (fun _ _ => 0)
  case atStart => exact ⟨rfl, rfl⟩
  case round =>
    obtain ⟨rfl, rfl⟩ := hrel
    go_wp2
    (try simp only [Exit.inBlock, Exit.then])
    refine bodyPost_end (results_none rfl _ _ _) rfl ?_
    exact ⟨⟨_, rfl⟩, rfl⟩
set_option maxHeartbeats 400000 in
theorem growNum (b : Nat) (w : World) (h : w.cell? ⟨b, 5, none⟩ = some (.slice none 0 0)) : Calls Tryz.prog 78 #[.pointer (some ⟨b, 0, none⟩)] w fun e w' => (∃ v, e = .returned v) ∧ w' = w := by
  go_enter Tryz.func78, Tryz.ntmps78
  go_wp2_with fail
  go_loopw [2] (fun i wr => i = .int .i64 0 ∧ wr = w) (fun _ _ => 0)
  case atStart => exact ⟨rfl, rfl⟩
  case round =>
    obtain ⟨rfl, rfl⟩ := hrel
    go_wp2
    (try simp only [Exit.inBlock, Exit.then])
    refine bodyPost_end (results_none rfl _ _ _) rfl ?_
    exact ⟨⟨_, rfl⟩, rfl⟩
set_option maxHeartbeats 400000 in
theorem lookNum (b : Nat) (w : World) (h : w.cell? ⟨b, 5, none⟩ = some (.slice none 0 0)) : Calls Tryz.prog 90 #[.pointer (some ⟨b, 0, none⟩)] w fun e w' => e = .returned (.bool true) ∧ w' = w := by
  go_enter Tryz.func90, Tryz.ntmps90
  go_wp2_with fail
  go_loopw [3] (fun i wr => i = .int .i64 0 ∧ wr = w) (fun _ _ => 0)
  case atStart => exact ⟨rfl, rfl⟩
  case round =>
    obtain ⟨rfl, rfl⟩ := hrel
    go_wp2
    go_ret
    exact ⟨rfl, rfl⟩
set_option maxHeartbeats 400000 in
theorem fillTerm (b : Nat) (w : World) (h : w.cell? ⟨b, 6, none⟩ = some (.slice none 0 0)) : Calls Tryz.prog 67 #[.pointer (some ⟨b, 0, none⟩)] w fun e w' => (∃ v, e = .returned v) ∧ w' = w := by
  go_enter Tryz.func67, Tryz.ntmps67
  go_wp2_with fail
  go_loopw [2] (fun i wr => i = .int .i64 0 ∧ wr = w) (fun _ _ => 0)
  case atStart => exact ⟨rfl, rfl⟩
  case round =>
    obtain ⟨rfl, rfl⟩ := hrel
    go_wp2
    (try simp only [Exit.inBlock, Exit.then])
    refine bodyPost_end (results_none rfl _ _ _) rfl ?_
    exact ⟨⟨_, rfl⟩, rfl⟩
set_option maxHeartbeats 400000 in
theorem growTerm (b : Nat) (w : World) (h : w.cell? ⟨b, 6, none⟩ = some (.slice none 0 0)) : Calls Tryz.prog 79 #[.pointer (some ⟨b, 0, none⟩)] w fun e w' => (∃ v, e = .returned v) ∧ w' = w := by
  go_enter Tryz.func79, Tryz.ntmps79
  go_wp2_with fail
  go_loopw [2] (fun i wr => i = .int .i64 0 ∧ wr = w) (fun _ _ => 0)
  case atStart => exact ⟨rfl, rfl⟩
  case round =>
    obtain ⟨rfl, rfl⟩ := hrel
    go_wp2
    (try simp only [Exit.inBlock, Exit.then])
    refine bodyPost_end (results_none rfl _ _ _) rfl ?_
    exact ⟨⟨_, rfl⟩, rfl⟩
set_option maxHeartbeats 400000 in
theorem lookTerm (b : Nat) (w : World) (h : w.cell? ⟨b, 6, none⟩ = some (.slice none 0 0)) : Calls Tryz.prog 91 #[.pointer (some ⟨b, 0, none⟩)] w fun e w' => e = .returned (.bool true) ∧ w' = w := by
  go_enter Tryz.func91, Tryz.ntmps91
  go_wp2_with fail
  go_loopw [3] (fun i wr => i = .int .i64 0 ∧ wr = w) (fun _ _ => 0)
  case atStart => exact ⟨rfl, rfl⟩
  case round =>
    obtain ⟨rfl, rfl⟩ := hrel
    go_wp2
    go_ret
    exact ⟨rfl, rfl⟩
set_option maxHeartbeats 400000 in
theorem fillFactor (b : Nat) (w : World) (h : w.cell? ⟨b, 7, none⟩ = some (.slice none 0 0)) : Calls Tryz.prog 68 #[.pointer (some ⟨b, 0, none⟩)] w fun e w' => (∃ v, e = .returned v) ∧ w' = w := by
  go_enter Tryz.func68, Tryz.ntmps68
  go_wp2_with fail
  go_loopw [2] (fun i wr => i = .int .i64 0 ∧ wr = w) (fun _ _ => 0)
  case atStart => exact ⟨rfl, rfl⟩
  case round =>
    obtain ⟨rfl, rfl⟩ := hrel
    go_wp2
    (try simp only [Exit.inBlock, Exit.then])
    refine bodyPost_end (results_none rfl _ _ _) rfl ?_
    exact ⟨⟨_, rfl⟩, rfl⟩
set_option maxHeartbeats 400000 in
theorem growFactor (b : Nat) (w : World) (h : w.cell? ⟨b, 7, none⟩ = some (.slice none 0 0)) : Calls Tryz.prog 80 #[.pointer (some ⟨b, 0, none⟩)] w fun e w' => (∃ v, e = .returned v) ∧ w' = w := by
  go_enter Tryz.func80, Tryz.ntmps80
  go_wp2_with fail
  go_loopw [2] (fun i wr => i = .int .i64 0 ∧ wr = w) (fun _ _ => 0)
  case atStart => exact ⟨rfl, rfl⟩
  case round =>
    obtain ⟨rfl, rfl⟩ := hrel
    go_wp2
    (try simp only [Exit.inBlock, Exit.then])
    refine bodyPost_end (results_none rfl _ _ _) rfl ?_
    exact ⟨⟨_, rfl⟩, rfl⟩
set_option maxHeartbeats 400000 in
theorem lookFactor (b : Nat) (w : World) (h : w.cell? ⟨b, 7, none⟩ = some (.slice none 0 0)) : Calls Tryz.prog 92 #[.pointer (some ⟨b, 0, none⟩)] w fun e w' => e = .returned (.bool true) ∧ w' = w := by
  go_enter Tryz.func92, Tryz.ntmps92
  go_wp2_with fail
  go_loopw [3] (fun i wr => i = .int .i64 0 ∧ wr = w) (fun _ _ => 0)
  case atStart => exact ⟨rfl, rfl⟩
  case round =>
    obtain ⟨rfl, rfl⟩ := hrel
    go_wp2
    go_ret
    exact ⟨rfl, rfl⟩
set_option maxHeartbeats 400000 in
theorem fillNode (b : Nat) (w : World) (h : w.cell? ⟨b, 8, none⟩ = some (.slice none 0 0)) : Calls Tryz.prog 69 #[.pointer (some ⟨b, 0, none⟩)] w fun e w' => (∃ v, e = .returned v) ∧ w' = w := by
  go_enter Tryz.func69, Tryz.ntmps69
  go_wp2_with fail
  go_loopw [2] (fun i wr => i = .int .i64 0 ∧ wr = w) (fun _ _ => 0)
  case atStart => exact ⟨rfl, rfl⟩
  case round =>
    obtain ⟨rfl, rfl⟩ := hrel
    go_wp2
    (try simp only [Exit.inBlock, Exit.then])
    refine bodyPost_end (results_none rfl _ _ _) rfl ?_
    exact ⟨⟨_, rfl⟩, rfl⟩
set_option maxHeartbeats 400000 in
theorem growNode (b : Nat) (w : World) (h : w.cell? ⟨b, 8, none⟩ = some (.slice none 0 0)) : Calls Tryz.prog 81 #[.pointer (some ⟨b, 0, none⟩)] w fun e w' => (∃ v, e = .returned v) ∧ w' = w := by
  go_enter Tryz.func81, Tryz.ntmps81
  go_wp2_with fail
  go_loopw [2] (fun i wr => i = .int .i64 0 ∧ wr = w) (fun _ _ => 0)
  case atStart => exact ⟨rfl, rfl⟩
  case round =>
    obtain ⟨rfl, rfl⟩ := hrel
    go_wp2
    (try simp only [Exit.inBlock, Exit.then])
    refine bodyPost_end (results_none rfl _ _ _) rfl ?_
    exact ⟨⟨_, rfl⟩, rfl⟩
set_option maxHeartbeats 400000 in
theorem lookNode (b : Nat) (w : World) (h : w.cell? ⟨b, 8, none⟩ = some (.slice none 0 0)) : Calls Tryz.prog 93 #[.pointer (some ⟨b, 0, none⟩)] w fun e w' => e = .returned (.bool true) ∧ w' = w := by
  go_enter Tryz.func93, Tryz.ntmps93
  go_wp2_with fail
  go_loopw [3] (fun i wr => i = .int .i64 0 ∧ wr = w) (fun _ _ => 0)
  case atStart => exact ⟨rfl, rfl⟩
  case round =>
    obtain ⟨rfl, rfl⟩ := hrel
    go_wp2
    go_ret
    exact ⟨rfl, rfl⟩
set_option maxHeartbeats 400000 in
theorem fillFunc (b : Nat) (w : World) (h : w.cell? ⟨b, 9, none⟩ = some (.slice none 0 0)) : Calls Tryz.prog 70 #[.pointer (some ⟨b, 0, none⟩)] w fun e w' => (∃ v, e = .returned v) ∧ w' = w := by
  go_enter Tryz.func70, Tryz.ntmps70
  go_wp2_with fail
  go_loopw [2] (fun i wr => i = .int .i64 0 ∧ wr = w) (fun _ _ => 0)
  case atStart => exact ⟨rfl, rfl⟩
  case round =>
    obtain ⟨rfl, rfl⟩ := hrel
    go_wp2
    (try simp only [Exit.inBlock, Exit.then])
    refine bodyPost_end (results_none rfl _ _ _) rfl ?_
    exact ⟨⟨_, rfl⟩, rfl⟩
set_option maxHeartbeats 400000 in
theorem growFunc (b : Nat) (w : World) (h : w.cell? ⟨b, 9, none⟩ = some (.slice none 0 0)) : Calls Tryz.prog 82 #[.pointer (some ⟨b, 0, none⟩)] w fun e w' => (∃ v, e = .returned v) ∧ w' = w := by
  go_enter Tryz.func82, Tryz.ntmps82
  go_wp2_with fail
  go_loopw [2] (fun i wr => i = .int .i64 0 ∧ wr = w) (fun _ _ => 0)
  case atStart => exact ⟨rfl, rfl⟩
  case round =>
    obtain ⟨rfl, rfl⟩ := hrel
    go_wp2
    (try simp only [Exit.inBlock, Exit.then])
    refine bodyPost_end (results_none rfl _ _ _) rfl ?_
    exact ⟨⟨_, rfl⟩, rfl⟩
set_option maxHeartbeats 400000 in
theorem lookFunc (b : Nat) (w : World) (h : w.cell? ⟨b, 9, none⟩ = some (.slice none 0 0)) : Calls Tryz.prog 94 #[.pointer (some ⟨b, 0, none⟩)] w fun e w' => e = .returned (.bool true) ∧ w' = w := by
  go_enter Tryz.func94, Tryz.ntmps94
  go_wp2_with fail
  go_loopw [3] (fun i wr => i = .int .i64 0 ∧ wr = w) (fun _ _ => 0)
  case atStart => exact ⟨rfl, rfl⟩
  case round =>
    obtain ⟨rfl, rfl⟩ := hrel
    go_wp2
    go_ret
    exact ⟨rfl, rfl⟩
set_option maxHeartbeats 400000 in
theorem fillValue (b : Nat) (w : World) (h : w.cell? ⟨b, 10, none⟩ = some (.slice none 0 0)) : Calls Tryz.prog 71 #[.pointer (some ⟨b, 0, none⟩)] w fun e w' => (∃ v, e = .returned v) ∧ w' = w := by
  go_enter Tryz.func71, Tryz.ntmps71
  go_wp2_with fail
  go_loopw [2] (fun i wr => i = .int .i64 0 ∧ wr = w) (fun _ _ => 0)
  case atStart => exact ⟨rfl, rfl⟩
  case round =>
    obtain ⟨rfl, rfl⟩ := hrel
    go_wp2
    (try simp only [Exit.inBlock, Exit.then])
    refine bodyPost_end (results_none rfl _ _ _) rfl ?_
    exact ⟨⟨_, rfl⟩, rfl⟩
set_option maxHeartbeats 400000 in
theorem growValue (b : Nat) (w : World) (h : w.cell? ⟨b, 10, none⟩ = some (.slice none 0 0)) : Calls Tryz.prog 83 #[.pointer (some ⟨b, 0, none⟩)] w fun e w' => (∃ v, e = .returned v) ∧ w' = w := by
  go_enter Tryz.func83, Tryz.ntmps83
  go_wp2_with fail
  go_loopw [2] (fun i wr => i = .int .i64 0 ∧ wr = w) (fun _ _ => 0)
  case atStart => exact ⟨rfl, rfl⟩
  case round =>
    obtain ⟨rfl, rfl⟩ := hrel
    go_wp2
    (try simp only [Exit.inBlock, Exit.then])
    refine bodyPost_end (results_none rfl _ _ _) rfl ?_
    exact ⟨⟨_, rfl⟩, rfl⟩
set_option maxHeartbeats 400000 in
theorem lookValue (b : Nat) (w : World) (h : w.cell? ⟨b, 10, none⟩ = some (.slice none 0 0)) : Calls Tryz.prog 95 #[.pointer (some ⟨b, 0, none⟩)] w fun e w' => e = .returned (.bool true) ∧ w' = w := by
  go_enter Tryz.func95, Tryz.ntmps95
  go_wp2_with fail
  go_loopw [3] (fun i wr => i = .int .i64 0 ∧ wr = w) (fun _ _ => 0)
  case atStart => exact ⟨rfl, rfl⟩
  case round =>
    obtain ⟨rfl, rfl⟩ := hrel
    go_wp2
    go_ret
    exact ⟨rfl, rfl⟩
set_option maxHeartbeats 400000 in
theorem fillInstr (b : Nat) (w : World) (h : w.cell? ⟨b, 11, none⟩ = some (.slice none 0 0)) : Calls Tryz.prog 72 #[.pointer (some ⟨b, 0, none⟩)] w fun e w' => (∃ v, e = .returned v) ∧ w' = w := by
  go_enter Tryz.func72, Tryz.ntmps72
  go_wp2_with fail
  go_loopw [2] (fun i wr => i = .int .i64 0 ∧ wr = w) (fun _ _ => 0)
  case atStart => exact ⟨rfl, rfl⟩
  case round =>
    obtain ⟨rfl, rfl⟩ := hrel
    go_wp2
    (try simp only [Exit.inBlock, Exit.then])
    refine bodyPost_end (results_none rfl _ _ _) rfl ?_
    exact ⟨⟨_, rfl⟩, rfl⟩
set_option maxHeartbeats 400000 in
theorem growInstr (b : Nat) (w : World) (h : w.cell? ⟨b, 11, none⟩ = some (.slice none 0 0)) : Calls Tryz.prog 84 #[.pointer (some ⟨b, 0, none⟩)] w fun e w' => (∃ v, e = .returned v) ∧ w' = w := by
  go_enter Tryz.func84, Tryz.ntmps84
  go_wp2_with fail
  go_loopw [2] (fun i wr => i = .int .i64 0 ∧ wr = w) (fun _ _ => 0)
  case atStart => exact ⟨rfl, rfl⟩
  case round =>
    obtain ⟨rfl, rfl⟩ := hrel
    go_wp2
    (try simp only [Exit.inBlock, Exit.then])
    refine bodyPost_end (results_none rfl _ _ _) rfl ?_
    exact ⟨⟨_, rfl⟩, rfl⟩
set_option maxHeartbeats 400000 in
theorem lookInstr (b : Nat) (w : World) (h : w.cell? ⟨b, 11, none⟩ = some (.slice none 0 0)) : Calls Tryz.prog 96 #[.pointer (some ⟨b, 0, none⟩)] w fun e w' => e = .returned (.bool true) ∧ w' = w := by
  go_enter Tryz.func96, Tryz.ntmps96
  go_wp2_with fail
  go_loopw [3] (fun i wr => i = .int .i64 0 ∧ wr = w) (fun _ _ => 0)
  case atStart => exact ⟨rfl, rfl⟩
  case round =>
    obtain ⟨rfl, rfl⟩ := hrel
    go_wp2
    go_ret
    exact ⟨rfl, rfl⟩
set_option maxHeartbeats 400000 in
theorem fillChunk (b : Nat) (w : World) (h : w.cell? ⟨b, 12, none⟩ = some (.slice none 0 0)) : Calls Tryz.prog 73 #[.pointer (some ⟨b, 0, none⟩)] w fun e w' => (∃ v, e = .returned v) ∧ w' = w := by
  go_enter Tryz.func73, Tryz.ntmps73
  go_wp2_with fail
  go_loopw [2] (fun i wr => i = .int .i64 0 ∧ wr = w) (fun _ _ => 0)
  case atStart => exact ⟨rfl, rfl⟩
  case round =>
    obtain ⟨rfl, rfl⟩ := hrel
    go_wp2
    (try simp only [Exit.inBlock, Exit.then])
    refine bodyPost_end (results_none rfl _ _ _) rfl ?_
    exact ⟨⟨_, rfl⟩, rfl⟩
set_option maxHeartbeats 400000 in
theorem growChunk (b : Nat) (w : World) (h : w.cell? ⟨b, 12, none⟩ = some (.slice none 0 0)) : Calls Tryz.prog 85 #[.pointer (some ⟨b, 0, none⟩)] w fun e w' => (∃ v, e = .returned v) ∧ w' = w := by
  go_enter Tryz.func85, Tryz.ntmps85
  go_wp2_with fail
  go_loopw [2] (fun i wr => i = .int .i64 0 ∧ wr = w) (fun _ _ => 0)
  case atStart => exact ⟨rfl, rfl⟩
  case round =>
    obtain ⟨rfl, rfl⟩ := hrel
    go_wp2
    (try simp only [Exit.inBlock, Exit.then])
    refine bodyPost_end (results_none rfl _ _ _) rfl ?_
    exact ⟨⟨_, rfl⟩, rfl⟩
set_option maxHeartbeats 400000 in
theorem lookChunk (b : Nat) (w : World) (h : w.cell? ⟨b, 12, none⟩ = some (.slice none 0 0)) : Calls Tryz.prog 97 #[.pointer (some ⟨b, 0, none⟩)] w fun e w' => e = .returned (.bool true) ∧ w' = w := by
  go_enter Tryz.func97, Tryz.ntmps97
  go_wp2_with fail
  go_loopw [3] (fun i wr => i = .int .i64 0 ∧ wr = w) (fun _ _ => 0)
  case atStart => exact ⟨rfl, rfl⟩
  case round =>
    obtain ⟨rfl, rfl⟩ := hrel
    go_wp2
    go_ret
    exact ⟨rfl, rfl⟩
end Go.Proofs.YtkpajfjjhbbieaaGreatDoor.Book
namespace Go.Proofs.YtkpajfjjhbbieaaGreatDoor.Limb
open Go.RowKit Go.Sort

set_option maxHeartbeats 400000 in
theorem cmp32_any (x y : Int) (w : World) :
    Calls Tryz.prog 150 #[.int .u32 x, .int .u32 y] w fun e w' => e = .returned (.int .i64 (cmpZ x y)) ∧ w' = w := by
  rcases Int.lt_trichotomy x y with h | h | h
  · have E := Lib.hid (cmpZ_lt h)
    go_enter Tryz.func150, Tryz.ntmps150
    go_wp2
    go_ret
    exact ⟨by rw [E.out]; rfl, rfl⟩
  · have E := Lib.hid (cmpZ_eq h)
    subst h
    go_enter Tryz.func150, Tryz.ntmps150
    go_wp2
    go_ret
    exact ⟨by rw [E.out]; rfl, rfl⟩
  · have E := Lib.hid (cmpZ_gt h)
    go_enter Tryz.func150, Tryz.ntmps150
    go_wp2
    go_ret
    exact ⟨by rw [E.out]; rfl, rfl⟩
set_option maxHeartbeats 400000 in
theorem cmp64_any (x y : Int) (w : World) :
    Calls Tryz.prog 149 #[.int .i64 x, .int .i64 y] w fun e w' => e = .returned (.int .i64 (cmpZ x y)) ∧ w' = w := by
  rcases Int.lt_trichotomy x y with h | h | h
  · have E := Lib.hid (cmpZ_lt h)
    go_enter Tryz.func149, Tryz.ntmps149
    go_wp2
    go_ret
    exact ⟨by rw [E.out]; rfl, rfl⟩
  · have E := Lib.hid (cmpZ_eq h)
    subst h
    go_enter Tryz.func149, Tryz.ntmps149
    go_wp2
    go_ret
    exact ⟨by rw [E.out]; rfl, rfl⟩
  · have E := Lib.hid (cmpZ_gt h)
    go_enter Tryz.func149, Tryz.ntmps149
    go_wp2
    go_ret
    exact ⟨by rw [E.out]; rfl, rfl⟩

set_option maxHeartbeats 400000 in
theorem part_any (a : Option Addr) (n cap : Nat) (o : Nat → Int) (i : Nat) (w : World) (h : Rd w a n o) (hn : n ≤ 1000000000) (hi : i ≤ 1000000000) :
    Calls Tryz.prog 101 #[.slice a n cap, .int .i64 i] w fun e w' => e = .returned (.int .i64 (part o n i)) ∧ w' = w := by
  by_cases hlt : i < n
  · have E := Lib.hid (show part o n i = o i by unfold part; rw [if_pos hlt])
    obtain ⟨b, off, rfl, hc⟩ := h.cells (by omega)
    have c1 := hc i hlt
    have r1 := h.rng i hlt
    have e1 := IntWalk.i64_in (o i) (by omega)
    clear hc h
    go_enter Tryz.func101, Tryz.ntmps101
    go_wp2
    go_ret
    exact ⟨by rw [E.out]; rfl, rfl⟩
  · have E := Lib.hid (show part o n i = 0 by unfold part; rw [if_neg hlt])
    clear h
    go_enter Tryz.func101, Tryz.ntmps101
    go_wp2
    go_ret
    exact ⟨by rw [E.out]; rfl, rfl⟩
end Go.Proofs.YtkpajfjjhbbieaaGreatDoor.Limb
namespace Go.Proofs.YtkpajfjjhbbieaaGreatDoor.Limb

theorem div_step {by' Q rest o : Int} (h0 : 0 < by') (hr : 0 ≤ rest ∧ rest < by') : (o + 1000000000 * (by' * Q + rest)) / by' = (rest * 1000000000 + o) / by' + 1000000000 * Q ∧ (o + 1000000000 * (by' * Q + rest)) % by' = (rest * 1000000000 + o) % by' := by
  have e : o + 1000000000 * (by' * Q + rest) = (rest * 1000000000 + o) + by' * (1000000000 * Q) := by
    have : by' * (1000000000 * Q) = 1000000000 * (by' * Q) := by rw [← Int.mul_assoc, Int.mul_comm by', Int.mul_assoc]
    rw [this, Int.mul_add]; omega
  rw [e]
  exact ⟨Int.add_mul_ediv_left _ _ (by omega), Int.add_mul_emod_self_left _ _ _⟩
theorem part_bd {by' rest o : Int} (h0 : 0 < by') (hr : 0 ≤ rest ∧ rest < by') (ho : 0 ≤ o ∧ o < 1000000000) : 0 ≤ (rest * 1000000000 + o) / by' ∧ (rest * 1000000000 + o) / by' < 1000000000 := by
  refine ⟨Int.ediv_nonneg (by omega) (by omega), Int.ediv_lt_of_lt_mul h0 ?_⟩
  have : rest * 1000000000 ≤ (by' - 1) * 1000000000 := Int.mul_le_mul_of_nonneg_right (by omega) (by omega)
  rw [Int.mul_comm]
  omega

/-- An amount by one part, from the uppermost part on, ahead of part i. -/
structure ShortIn (o : Nat → Int) (n : Nat) (by' : Int) (i : Nat) (p : Nat → Int) (rest : Int) : Prop where
  quo : sumB (fun k => p (i + k)) (n - i) = sumB (fun k => o (i + k)) (n - i) / by'
  rst : rest = sumB (fun k => o (i + k)) (n - i) % by'
  dig : Dig p n
theorem ShortIn.start (o : Nat → Int) (n : Nat) (by' : Int) : ShortIn o n by' n (fun _ => 0) 0 := by
  refine ⟨?_, ?_, fun i _ => ⟨by omega, by omega⟩⟩
  · rw [Nat.sub_self, sumB, sumB]; simp
  · rw [Nat.sub_self, sumB]; simp
theorem ShortIn.bd {o p : Nat → Int} {n i : Nat} {by' rest : Int} (h : ShortIn o n by' i p rest) (h0 : 0 < by') : 0 ≤ rest ∧ rest < by' := by
  rw [h.rst]; exact ⟨Int.emod_nonneg _ (by omega), Int.emod_lt_of_pos _ h0⟩
theorem ShortIn.step {o p : Nat → Int} {n i : Nat} {by' rest : Int} (h : ShortIn o n by' (i + 1) p rest) (h0 : 0 < by') (hd : Dig o n) (hi : i < n) : ShortIn o n by' i (upd p i ((rest * 1000000000 + o i) / by')) ((rest * 1000000000 + o i) % by') := by
  have hb := h.bd h0
  have hs : ∀ f : Nat → Int, sumB (fun k => f (i + k)) (n - i) = f i + 1000000000 * sumB (fun k => f (i + 1 + k)) (n - (i + 1)) := by
    intro f
    rw [show n - i = (n - (i + 1)) + 1 by omega, sumB_shift]
    have e : (fun k => f (i + (k + 1))) = fun k => f (i + 1 + k) := by funext k; rw [show i + (k + 1) = i + 1 + k by omega]
    rw [e]; rfl
  have hq := h.quo
  have hr := h.rst
  generalize hA : sumB (fun k => o (i + 1 + k)) (n - (i + 1)) = A at hq hr
  have hA2 : A = by' * (A / by') + rest := by rw [hr]; exact (Int.mul_ediv_add_emod A by').symm
  obtain ⟨d1, d2⟩ := div_step (o := o i) (Q := A / by') h0 hb
  refine ⟨?_, ?_, upd_Dig h.dig i (part_bd h0 hb (hd i hi))⟩
  · rw [hs o, hs (upd p i _), hA]
    have e : (fun k => upd p i ((rest * 1000000000 + o i) / by') (i + 1 + k)) = fun k => p (i + 1 + k) := by funext k; exact upd_ne _ _ (by omega)
    rw [e, hq, upd_same]
    conv => rhs; rw [hA2]
    rw [d1]
  · rw [hs o, hA]
    conv => rhs; rw [hA2]
    rw [d2]
theorem ShortIn.done {o p : Nat → Int} {n : Nat} {by' rest : Int} (h : ShortIn o n by' 0 p rest) : sumB p n = sumB o n / by' ∧ rest = sumB o n % by' := by
  have e : ∀ f : Nat → Int, (fun k => f (0 + k)) = f := fun f => by funext k; rw [Nat.zero_add]
  have h1 := h.quo
  have h2 := h.rst
  rw [e, e] at h1
  rw [e] at h2
  exact ⟨h1, h2⟩
end Go.Proofs.YtkpajfjjhbbieaaGreatDoor.Limb
namespace Go.Proofs.YtkpajfjjhbbieaaGreatDoor.Limb
open Go.RowKit Go.Sort

set_option maxHeartbeats 1000000 in
theorem amounts_any (x y : Nat) (a b : Option Addr) (ca cb : Nat) (w : World) (ha : Rd w a (lenB x) (dgi x)) (hb : Rd w b (lenB y) (dgi y)) (hx : lenB x ≤ 1000000000) (hy : lenB y ≤ 1000000000) :
    Calls Tryz.prog 98 #[.slice a (lenB x) ca, .slice b (lenB y) cb] w fun e w' => e = .returned (.int .i64 (cmpZ x y)) ∧ ∃ m, w' = w.drewN m := by
  rcases Nat.lt_trichotomy (lenB x) (lenB y) with h | h | h
  · have E := Lib.hid (show cmpZ x y = -1 from cmpZ_lt (by have := cmp_len h; omega))
    have E2 := Lib.hid (show cmpZ (lenB x : Int) (lenB y) = -1 from cmpZ_lt (by omega))
    go_enter Tryz.func98, Tryz.ntmps98
    go_wp2_with fail
    refine (cmp64_any _ _ _).mono ?_
    rintro e w' ⟨rfl, hw⟩
    subst w'
    rw [E2.out]
    go_wp2
    go_ret
    exact ⟨by rw [E.out]; rfl, 0, rfl⟩
  · obtain ⟨k0, hD⟩ := topDiff_any (dgi x) (dgi y) (lenB x)
    have hC := topDiff_cmp (dgi_Dig x _) (dgi_Dig y _) hD
    rw [sumB_dgi, show sumB (dgi y) (lenB x) = y by rw [h]; exact sumB_dgi y] at hC
    have E := Lib.hid hC
    have E2 := Lib.hid (show cmpZ (lenB x : Int) (lenB y) = 0 from cmpZ_eq (by omega))
    obtain ⟨hk0, heq, hne⟩ := hD
    have EQ := Lib.hid heq
    have NE := Lib.hid hne
    have HL := Lib.hid h
    clear hC heq hne h
    go_enter Tryz.func98, Tryz.ntmps98
    go_wp2_with fail
    refine (cmp64_any _ _ _).mono ?_
    rintro e w' ⟨rfl, hw⟩
    subst w'
    rw [E2.out]
    go_wp2_with fail
    go_loopw [6] (fun i wr => ∃ j : Nat, k0 ≤ j ∧ j ≤ lenB x ∧ i = .int .i64 ((j : Int) - 1) ∧ ∃ m, wr = w.drewN m) (fun i _ => (1 + intOf i).toNat)
    case atStart => exact ⟨lenB x, hk0, Nat.le_refl _, rfl, 0, rfl⟩
    case round =>
      obtain ⟨j, hj, hjn, rfl, m0, rfl⟩ := hrel
      by_cases hj0 : j = 0
      · subst hj0
        have Z := Lib.hid (show cmpZ x y = 0 by rw [E.out, if_pos (by omega)])
        rw [show (((0 : Nat) : Int) - 1) = -1 from rfl]
        go_wp2
        go_ret
        exact ⟨by rw [Z.out]; rfl, m0, rfl⟩
      · obtain ⟨q, rfl⟩ : ∃ q, j = q + 1 := ⟨j - 1, by omega⟩
        rw [show (((q + 1 : Nat) : Int) - 1) = (q : Int) by omega]
        obtain ⟨b1, o1, rfl, hc1⟩ := ha.cells (by omega)
        obtain ⟨b2, o2, rfl, hc2⟩ := hb.cells (by have := HL.out; omega)
        have c1 := hc1 q (by omega)
        have c2 := hc2 q (by have := HL.out; omega)
        have lx : q < lenB x := by omega
        have ly : q < lenB y := by have := HL.out; omega
        clear hc1 hc2 ha hb
        by_cases hlk : k0 ≤ q
        · have hne : (dgi x q != dgi y q) = false := by rw [EQ.out q hlk (by omega)]; simp
          go_wp2
          go_quiet (fail)
          go_wp2
          go_roundw
          case rel => exact ⟨q, hlk, by omega, rfl, _, rfl⟩
          case measure => simp [intOf]; omega
        · have hkq : k0 = q + 1 := by omega
          have hnn : dgi x q ≠ dgi y q := by have := NE.out (by omega); rw [hkq] at this; simpa using this
          have hne : (dgi x q != dgi y q) = true := by simpa using hnn
          have Z := Lib.hid (show cmpZ x y = cmpZ (dgi x q) (dgi y q) by rw [E.out, if_neg (by omega), hkq]; rfl)
          clear hkq hnn
          go_wp2
          go_quiet (fail)
          go_wp2
          go_quiet (exact (cmp32_any (dgi x q) (dgi y q) _).mono fun e w'' ⟨he, hw⟩ => ⟨he, _, hw⟩)
          go_wp2
          go_ret
          exact ⟨by rw [Z.out]; rfl, _, by rw [World.drewN_drewN, World.drewN_drewN]⟩
  · have E := Lib.hid (show cmpZ x y = 1 from cmpZ_gt (by have := cmp_len h; omega))
    have E2 := Lib.hid (show cmpZ (lenB x : Int) (lenB y) = 1 from cmpZ_gt (by omega))
    go_enter Tryz.func98, Tryz.ntmps98
    go_wp2_with fail
    refine (cmp64_any _ _ _).mono ?_
    rintro e w' ⟨rfl, hw⟩
    subst w'
    rw [E2.out]
    go_wp2
    go_ret
    exact ⟨by rw [E.out]; rfl, 0, rfl⟩
end Go.Proofs.YtkpajfjjhbbieaaGreatDoor.Limb
namespace Go.Proofs.YtkpajfjjhbbieaaGreatDoor.Limb

/-- Some parts put into others. -/
def splice (o : Nat → Int) (i m : Nat) (r : Nat → Int) : Nat → Int := fun k => if i ≤ k ∧ k < i + m then r (k - i) else o k
theorem splice_in {o r : Nat → Int} {i m k : Nat} (h : k < m) : splice o i m r (i + k) = r k := by
  unfold splice; rw [if_pos ⟨by omega, by omega⟩, Nat.add_sub_cancel_left]
theorem splice_out {o r : Nat → Int} {i m k : Nat} (h : k < i ∨ i + m ≤ k) : splice o i m r k = o k := by
  unfold splice; rw [if_neg (by omega)]
theorem splice_Dig {o r : Nat → Int} {i m L : Nat} (ho : Dig o L) (hr : Dig r m) : Dig (splice o i m r) L := by
  intro k hk
  by_cases h : i ≤ k ∧ k < i + m
  · obtain ⟨j, rfl⟩ : ∃ j, k = i + j := ⟨k - i, by omega⟩
    rw [splice_in (by omega)]; exact hr j (by omega)
  · rw [splice_out (by omega)]; exact ho k hk

/-- Ahead of part i of the quotient: what has been worked out, what is left. -/
structure DivI (X V : Int) (n L M i : Nat) (up qp : Nat → Int) : Prop where
  udig : Dig up L
  qdig : Dig qp M
  qz : ∀ k, k < i → qp k = 0
  bal : X = V * ((pw i : Int) * sumB (fun k => qp (i + k)) (M - i)) + sumB up L
  lt : sumB up L < V * (pw i : Int)

/-- The head at a place: the parts that the divisor is taken from. -/
def headV (up : Nat → Int) (n i : Nat) : Int := sumB (fun k => up (i + k)) (n + 1)

theorem mul_lt_of {a b c : Int} (hc : 0 < c) (h : c * a < c * b) : a < b := Int.lt_of_mul_lt_mul_left h (by omega)

theorem DivI.head {X V : Int} {n L M i : Nat} {up qp : Nat → Int} (D : DivI X V n L M (i + 1) up qp) (hi : i < M) (hL : M + n = L) (hV : V < (pw n : Int)) (hV0 : 0 < V) :
    0 ≤ headV up n i ∧ headV up n i < V * 1000000000 ∧ sumB up L = sumB up i + (pw i : Int) * headV up n i ∧ sumB (fun k => up (i + (n + 1) + k)) (L - i - (n + 1)) = 0 := by
  have hpi : (0 : Int) < (pw i : Int) := by have := pw_pos i; omega
  have hpn : (0 : Int) < (pw (n + 1) : Int) := by have := pw_pos (n + 1); omega
  have e1 : sumB up L = sumB up i + (pw i : Int) * sumB (fun k => up (i + k)) (L - i) := by
    have h := sumB_add up i (L - i)
    rwa [show i + (L - i) = L by omega] at h
  have e2 : sumB (fun k => up (i + k)) (L - i) = headV up n i + (pw (n + 1) : Int) * sumB (fun k => up (i + (n + 1) + k)) (L - i - (n + 1)) := by
    have h := sumB_add (fun k => up (i + k)) (n + 1) (L - i - (n + 1))
    rw [show n + 1 + (L - i - (n + 1)) = L - i by omega] at h
    rw [h]
    have : (fun k => up (i + (n + 1 + k))) = fun k => up (i + (n + 1) + k) := by funext k; rw [← Nat.add_assoc]
    rw [this]; rfl
  have b1 := (sumB_bd (o := up) (n := i) fun k hk => D.udig k (by omega))
  have b2 := (sumB_bd (o := fun k => up (i + k)) (n := n + 1) fun k hk => D.udig (i + k) (by omega))
  have b3 := (sumB_bd (o := fun k => up (i + (n + 1) + k)) (n := L - i - (n + 1)) fun k hk => D.udig _ (by omega))
  have h0 : 0 ≤ headV up n i := b2.1
  generalize hs : sumB (fun k => up (i + (n + 1) + k)) (L - i - (n + 1)) = s at e2 b3
  generalize ht : sumB (fun k => up (i + k)) (L - i) = t at e1 e2
  have hlt := D.lt
  rw [e1, pw_succ, Int.natCast_mul] at hlt
  have ht2 : t < V * 1000000000 := by
    refine mul_lt_of hpi ?_
    have : V * ((pw i : Int) * ((1000000000 : Nat) : Int)) = (pw i : Int) * (V * 1000000000) := by rw [Int.mul_left_comm]; rfl
    omega
  have hpn1 : (pw (n + 1) : Int) = (pw n : Int) * 1000000000 := by rw [pw_succ, Int.natCast_mul]; rfl
  have hs0 : s = 0 := by
    have hsn : 0 ≤ s := b3.1
    rcases Int.lt_or_le 0 s with h | h
    · have h1 : (pw (n + 1) : Int) * 1 ≤ (pw (n + 1) : Int) * s := Int.mul_le_mul_of_nonneg_left (by omega) (by omega)
      omega
    · omega
  subst hs0
  rw [Int.mul_zero, Int.add_zero] at e2
  rw [e2] at e1 ht2
  exact ⟨h0, ht2, e1, rfl⟩

theorem sum_splice {up r : Nat → Int} {n i L : Nat} (hL : i + (n + 1) ≤ L) (hz : sumB (fun k => up (i + (n + 1) + k)) (L - i - (n + 1)) = 0) : sumB (splice up i (n + 1) r) L = sumB up i + (pw i : Int) * sumB r (n + 1) := by
  have h1 := sumB_add (splice up i (n + 1) r) i (L - i)
  rw [show i + (L - i) = L by omega] at h1
  have h2 := sumB_add (fun k => splice up i (n + 1) r (i + k)) (n + 1) (L - i - (n + 1))
  rw [show n + 1 + (L - i - (n + 1)) = L - i by omega] at h2
  rw [h1, h2]
  have e1 : sumB (splice up i (n + 1) r) i = sumB up i := sumB_congr fun k hk => splice_out (Or.inl hk)
  have e2 : sumB (fun k => splice up i (n + 1) r (i + k)) (n + 1) = sumB r (n + 1) := sumB_congr fun k hk => splice_in hk
  have e3 : sumB (fun k => splice up i (n + 1) r (i + (n + 1 + k))) (L - i - (n + 1)) = 0 := by
    rw [← hz]
    refine sumB_congr fun k hk => ?_
    rw [splice_out (Or.inr (by omega))]
    congr 1; omega
  rw [e1, e2, e3]; simp

theorem DivI.step {X V g : Int} {n L M i : Nat} {up qp r : Nat → Int} (D : DivI X V n L M (i + 1) up qp) (hi : i < M) (hL : M + n = L) (hV : V < (pw n : Int)) (hV0 : 0 < V)
    (hg : 0 ≤ g ∧ g < 1000000000) (hr : Dig r (n + 1)) (hs : sumB r (n + 1) = headV up n i - V * g) (hlt : headV up n i - V * g < V) : DivI X V n L M i (splice up i (n + 1) r) (upd qp i g) := by
  obtain ⟨h0, h1, h2, h3⟩ := D.head hi hL hV hV0
  have hS := sum_splice (r := r) (by omega) h3
  have hpi : (0 : Int) < (pw i : Int) := by have := pw_pos i; omega
  have b1 := (sumB_bd (o := up) (n := i) fun k hk => D.udig k (by omega))
  refine ⟨splice_Dig D.udig hr, upd_Dig D.qdig i hg, fun k hk => by rw [upd_ne _ _ (by omega)]; exact D.qz k (by omega), ?_, ?_⟩
  · rw [hS, hs]
    have hq : sumB (fun k => upd qp i g (i + k)) (M - i) = g + 1000000000 * sumB (fun k => qp (i + 1 + k)) (M - (i + 1)) := by
      rw [show M - i = (M - (i + 1)) + 1 by omega, sumB_shift]
      have e : (fun k => upd qp i g (i + (k + 1))) = fun k => qp (i + 1 + k) := by
        funext k
        rw [upd_ne _ _ (by omega), show i + (k + 1) = i + 1 + k by omega]
      rw [e, Nat.add_zero, upd_same]
    have hb := D.bal
    rw [h2, pw_succ, Int.natCast_mul] at hb
    rw [hq]
    generalize sumB (fun k => qp (i + 1 + k)) (M - (i + 1)) = Q at hb ⊢
    generalize headV up n i = h at hb ⊢
    generalize sumB up i = lo at hb ⊢
    generalize (pw i : Int) = P at hb ⊢
    rw [hb]
    have a1 : P * (V * g) = V * (P * g) := Int.mul_left_comm _ _ _
    have a2 : V * (P * ((1000000000 : Nat) : Int) * Q) = V * (P * (1000000000 * Q)) := by rw [Int.mul_assoc P]; rfl
    simp only [Int.mul_add, Int.mul_sub]
    rw [a1, a2]
    omega
  · rw [hS, hs]
    have : (pw i : Int) * (headV up n i - V * g) ≤ (pw i : Int) * (V - 1) := Int.mul_le_mul_of_nonneg_left (by omega) (by omega)
    rw [Int.mul_sub (pw i : Int) V 1, Int.mul_comm (pw i : Int) V] at this
    omega
/-- The first guess is not too small. -/
theorem guess_ge {h V v1 two : Int} {B1 : Int} (hv1 : 0 < v1) (hB1 : 0 < B1) (hV : v1 * B1 ≤ V) (h0 : 0 ≤ h) (hh : h < (two + 1) * B1) (hlt : h < V * 1000000000) (hV0 : 0 < V) : h / V ≤ min (two / v1) 999999999 := by
  have hq0 : 0 ≤ h / V := Int.ediv_nonneg h0 (by omega)
  have hqV : h / V * V ≤ h := Int.ediv_mul_le h (by omega)
  have h1 : h / V < 1000000000 := Int.ediv_lt_of_lt_mul hV0 (by rw [Int.mul_comm]; exact hlt)
  have h2 : h / V ≤ two / v1 := by
    refine (Int.le_ediv_iff_mul_le hv1).2 ?_
    have a1 : h / V * (v1 * B1) ≤ h / V * V := Int.mul_le_mul_of_nonneg_left hV hq0
    have a2 : (h / V * v1) * B1 < (two + 1) * B1 := by rw [Int.mul_assoc]; omega
    have := Int.lt_of_mul_lt_mul_right a2 (by omega)
    omega
  omega
/-- A guess that a second part shows too great may be made less. -/
theorem guess_down {h V v1 v2 two h2 B2 g : Int} (hB2 : 0 < B2) (hV : (v1 * 1000000000 + v2) * B2 ≤ V) (hh : h < (two * 1000000000 + h2 + 1) * B2) (hg : 0 ≤ g) (hover : (two - g * v1) * 1000000000 + h2 < g * v2) (hge : h / V ≤ g) (hV0 : 0 < V) : h / V ≤ g - 1 := by
  rcases Int.lt_or_le (h / V) g with hlt | hle
  · omega
  · have e : h / V = g := by omega
    have h1 : g * V ≤ h := by rw [← e]; exact Int.ediv_mul_le h (by omega)
    have a1 : g * ((v1 * 1000000000 + v2) * B2) ≤ g * V := Int.mul_le_mul_of_nonneg_left hV hg
    have a2 : (g * (v1 * 1000000000 + v2)) * B2 < (two * 1000000000 + h2 + 1) * B2 := by rw [Int.mul_assoc]; omega
    have a3 := Int.lt_of_mul_lt_mul_right a2 (by omega)
    rw [Int.mul_add, ← Int.mul_assoc] at a3
    rw [Int.sub_mul] at hover
    omega
/-- The guess is right, as soon as it is not too great. -/
theorem guess_right {h V g : Int} (hV0 : 0 < V) (hge : h / V ≤ g) (hle : ¬ h < V * g) : g = h / V ∧ 0 ≤ h - V * g ∧ h - V * g < V := by
  have h1 : g ≤ h / V := (Int.le_ediv_iff_mul_le hV0).2 (by rw [Int.mul_comm]; omega)
  have e : g = h / V := by omega
  refine ⟨e, by omega, ?_⟩
  have h2 := Int.lt_ediv_add_one_mul_self h hV0
  rw [← e, Int.add_mul, Int.mul_comm g V] at h2
  omega
/-- .. and if it is too great, one less is not too small. -/
theorem guess_less {h V g : Int} (hV0 : 0 < V) (hge : h / V ≤ g) (hlt : h < V * g) : h / V ≤ g - 1 := by
  have h1 : h / V < g := Int.ediv_lt_of_lt_mul hV0 (by rw [Int.mul_comm]; exact hlt)
  omega

/-- The two uppermost parts, the three uppermost ones: how they bound the head. -/
theorem top_two {f : Nat → Int} {m : Nat} (hd : Dig f (m + 1 + 1)) : sumB f (m + 1 + 1) < (f (m + 1) * 1000000000 + f m + 1) * (pw m : Int) ∧ (f (m + 1) * 1000000000 + f m) * (pw m : Int) ≤ sumB f (m + 1 + 1) := by
  have b := sumB_bd (o := f) (n := m) fun k hk => hd k (by omega)
  rw [sumB, sumB, pw_succ, Int.natCast_mul]
  have e : f (m + 1) * ((pw m : Int) * ((1000000000 : Nat) : Int)) = f (m + 1) * 1000000000 * (pw m : Int) := by rw [Int.mul_comm (pw m : Int), ← Int.mul_assoc]; rfl
  rw [e, Int.add_mul, Int.add_mul]
  omega
theorem top_three {f : Nat → Int} {m : Nat} (hd : Dig f (m + 1 + 1 + 1)) : sumB f (m + 1 + 1 + 1) < ((f (m + 1 + 1) * 1000000000 + f (m + 1)) * 1000000000 + f m + 1) * (pw m : Int) := by
  have b := top_two (f := f) (m := m) fun k hk => hd k (by omega)
  rw [sumB, pw_succ, pw_succ, Int.natCast_mul, Int.natCast_mul]
  have e : f (m + 1 + 1) * ((pw m : Int) * ((1000000000 : Nat) : Int) * ((1000000000 : Nat) : Int)) = f (m + 1 + 1) * 1000000000 * 1000000000 * (pw m : Int) := by
    rw [Int.mul_comm (pw m : Int), Int.mul_assoc, Int.mul_comm (pw m : Int), ← Int.mul_assoc, ← Int.mul_assoc]; rfl
  rw [e]
  have h1 : sumB f (m + 2) < (f (m + 1) * 1000000000 + f m + 1) * (pw m : Int) := b.1
  rw [Int.add_mul, Int.add_mul] at h1
  rw [Int.add_mul, Int.add_mul, Int.add_mul (f (m + 1 + 1) * 1000000000), Int.add_mul]
  omega
theorem sum_low {o : Nat → Int} {n L : Nat} (hd : Dig o L) (hn : n ≤ L) (h : sumB o L < (pw n : Int)) : sumB o n = sumB o L := by
  have e := sumB_add o n (L - n)
  rw [show n + (L - n) = L by omega] at e
  have b1 := (sumB_bd (o := o) (n := n) fun k hk => hd k (by omega))
  have b2 := (sumB_bd (o := fun k => o (n + k)) (n := L - n) fun k hk => hd (n + k) (by omega))
  have hp : (0 : Int) < (pw n : Int) := by have := pw_pos n; omega
  generalize sumB (fun k => o (n + k)) (L - n) = s at e b2
  rcases Int.lt_or_le 0 s with h1 | h1
  · have : (pw n : Int) * 1 ≤ (pw n : Int) * s := Int.mul_le_mul_of_nonneg_left (by omega) (by omega)
    omega
  · have h2 : s = 0 := by omega
    rw [h2, Int.mul_zero] at e
    omega
theorem div_end {A Bv sc Q R : Int} (hsc : 0 < sc) (h : A * sc = Bv * sc * Q + R) (h0 : 0 ≤ R) (hlt : R < Bv * sc) : Q = A / Bv ∧ R / sc = A % Bv := by
  have e : R = sc * (A - Bv * Q) := by
    rw [Int.mul_sub, Int.mul_comm sc A, ← Int.mul_assoc, Int.mul_comm sc Bv]
    omega
  have h1 : 0 ≤ A - Bv * Q := by
    rcases Int.lt_or_le (A - Bv * Q) 0 with h | h
    · have := Int.mul_neg_of_pos_of_neg hsc h
      omega
    · exact h
  have h2 : A - Bv * Q < Bv := by
    refine mul_lt_of hsc ?_
    rw [← e, Int.mul_comm sc Bv]; exact hlt
  have h3 := (Int.ediv_emod_unique (a := A) (b := Bv) (q := Q) (r := A - Bv * Q) (by omega)).2 ⟨by omega, h1, h2⟩
  refine ⟨h3.1.symm, ?_⟩
  rw [h3.2, e, Int.mul_ediv_cancel_left _ (by omega)]
theorem splice_self (up : Nat → Int) (i m : Nat) : splice up i m (fun k => up (i + k)) = up := by
  funext k
  by_cases h : i ≤ k ∧ k < i + m
  · obtain ⟨j, rfl⟩ : ∃ j, k = i + j := ⟨k - i, by omega⟩
    rw [splice_in (by omega)]
  · rw [splice_out (by omega)]
/-- The divisor does not go into the head. -/
theorem DivI.skip {X V : Int} {n L M i : Nat} {up qp : Nat → Int} (D : DivI X V n L M (i + 1) up qp) (hi : i < M) (hL : M + n = L) (hV : V < (pw n : Int)) (hV0 : 0 < V) (hq : headV up n i / V ≤ 0) : DivI X V n L M i up qp := by
  have h0 := (D.head hi hL hV hV0).1
  have h1 : 0 ≤ headV up n i / V := Int.ediv_nonneg h0 (by omega)
  have h2 := Int.lt_ediv_add_one_mul_self (headV up n i) hV0
  rw [show headV up n i / V = 0 by omega] at h2
  have h := D.step (g := 0) (r := fun k => up (i + k)) hi hL hV hV0 ⟨by omega, by omega⟩ (fun k hk => D.udig (i + k) (by omega)) (by rw [Int.mul_zero, Int.sub_zero]; rfl) (by rw [Int.mul_zero]; omega)
  rw [splice_self] at h
  have e : upd qp i 0 = qp := by
    funext k
    by_cases hk : k = i
    · subst hk; rw [upd_same, D.qz k (by omega)]
    · rw [upd_ne _ _ hk]
  rwa [e] at h
end Go.Proofs.YtkpajfjjhbbieaaGreatDoor.Limb
namespace Go.Proofs.YtkpajfjjhbbieaaGreatDoor.Limb
open Go.RowKit Go.Sort Go.ChangeShapes Go.WideShapes Go.ChangeAt

theorem cellsNum : Tryz.prog.cellsOf 24 = 2 := by kernel_rfl
theorem cellsBool : Tryz.prog.cellsOf 4 = 1 := by kernel_rfl
theorem cellsList : Tryz.prog.cellsOf 22 = 1 := by kernel_rfl
theorem cellsPart : Tryz.prog.cellsOf 56 = 1 := by kernel_rfl

theorem open_list {H : Type} {enc : TypeId × Value → H} {W : World} {sp : Nat → Bool} {hd : Bool} {fuel : Nat} {v : Value} {x : DataW H × List MemPlace}
    (h : DataW.trod enc Tryz.prog W 0 sp hd fuel 22 [v] = some x) : ∃ a n c o, v = .slice a n c ∧ Rd W a n o ∧ n ≤ c := by
  rcases open_ints Tryz.underlying22 Tryz.underlying56 cellsPart h with ⟨e, _⟩ | ⟨a, len, cap, zs, e, _, hl, _, hz, _, hc, hw⟩
  · simp only [List.cons.injEq, and_true] at e
    exact ⟨none, 0, 0, fun _ => 0, e, Rd.nil _ _ _, Nat.le_refl _⟩
  · simp only [List.cons.injEq, and_true] at e
    have hlz : len ≤ zs.length := by rw [hz]; split <;> omega
    refine ⟨some a, len, cap, fun i => zs.getD i 0, e, ⟨fun hn => ?_, fun i hi => ?_⟩, hl⟩
    · obtain ⟨b, off, rfl, h3⟩ := ints_at hc (by omega)
      exact ⟨b, off, rfl, fun i hi => h3 i (by omega)⟩
    · have hmem : zs.getD i 0 ∈ zs := by
        rw [List.getD_eq_getElem?_getD, List.getElem?_eq_getElem (by omega)]
        exact List.getElem_mem _
      exact bounds_u32 (hw _ hmem)

set_option maxRecDepth 100000 in
theorem open_num {H : Type} {enc : TypeId × Value → H} {W : World} {base : Nat} {r : Reach} {sp : Nat → Bool} {hd : Bool} {v : Value} {d : DataW H} {p : List MemPlace}
    (hok : Value.okWide Tryz.prog W r base 24 v) (h : DataW.Trod enc Tryz.prog W 0 sp hd 24 v d p) : ∃ s a n c o, v = numV s a n c ∧ Rd W a n o ∧ n ≤ c := by
  obtain ⟨cs, rfl, _⟩ : ∃ cs, v = .agg cs ∧ True := by
    unfold Value.okWide at hok
    rw [Tryz.underlying24] at hok
    obtain ⟨cs, h1, _⟩ := hok
    exact ⟨cs, h1, trivial⟩
  obtain ⟨fuel, hf⟩ := h
  obtain ⟨xs, m, _, _, hlen, hxl, hfld⟩ := DataW.trod_struct Tryz.underlying24 hf
  have hlen : cs.toList.length = 2 := hlen.trans cellsNum
  obtain ⟨l⟩ := cs
  obtain ⟨x0, x1, rfl⟩ : ∃ x0 x1, l = [x0, x1] := by
    match l, hlen with
    | [x0, x1], _ => exact ⟨x0, x1, rfl⟩
  have h0 : DataW.trod enc Tryz.prog W 0 sp hd m 4 (([x0, x1].drop 0).take (Tryz.prog.cellsOf 4)) = xs[0]? := hfld 0 _ rfl
  have h1 : DataW.trod enc Tryz.prog W 0 sp hd m 22 (([x0, x1].drop 1).take (Tryz.prog.cellsOf 22)) = xs[1]? := hfld 1 _ rfl
  have hx : xs.length = 2 := hxl
  rw [List.getElem?_eq_getElem (by omega)] at h0
  rw [List.getElem?_eq_getElem (by omega)] at h1
  rw [cellsBool] at h0
  rw [cellsList] at h1
  obtain ⟨s, e0, _⟩ := DataW.trod_bool Tryz.underlying4 h0
  obtain ⟨a, n, c, o, e1, hr, hl⟩ := open_list (v := x1) h1
  have e0 : x0 = .bool s := by
    have : [x0] = [Value.bool s] := e0
    simpa using this
  exact ⟨s, a, n, c, o, by rw [e0, e1], hr, hl⟩
end Go.Proofs.YtkpajfjjhbbieaaGreatDoor.Limb
