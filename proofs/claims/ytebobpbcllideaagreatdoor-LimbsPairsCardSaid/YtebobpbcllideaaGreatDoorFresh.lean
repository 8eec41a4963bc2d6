/-
  A REGION THAT DRAWS ITS ORDER, WHOSE CALLEES MAKE MEMORY OF THEIR OWN AND HAND BACK WHAT IS NOT KNOWN BEFOREHAND (a list at a place of its own).
  Of each operation one of two things is shown, in the order of the text, in whatever world of a class that keeps under growth ('Below'):
  it only reads, and its value is known; or it has a spec, given beforehand: a value of a kind V, with a fact on the world that keeps under growth.
  An operation may lean on the facts of those that it waits for. Behind them stands a tail in sequence. Then the region's wp holds, whatever the order.
-/
import Derived.Test.YtebobpbcllideaaGreatDoorRows
import Derived.Deep.Quiet
import Derived.StillTail
import Derived.StillTailTactics
import Derived.Below
namespace Go.Fresh
open Go.RowKit

variable {P : Program} {ops : Array Oper} {md : Region.Mode} {C : World → Prop}

/-- Of one operation: nothing (it only reads); or what kind of value it yields, and which fact is then known of the world. -/
abbrev Spec := Option ((Value → Prop) × (Value → World → Prop))
def Spec.keeps (s : Spec) : Prop := match s with
  | none => True
  | some s => ∀ v w w', s.2 v w → Below w.heap.size w w' → s.2 v w'
abbrev Facts := Nat → World → Prop
def Facts.set (F : Facts) (k : Nat) (Φ : World → Prop) : Facts := fun i w => if i = k then Φ w else F i w
def Facts.keeps (F : Facts) : Prop := ∀ i w w', F i w → Below w.heap.size w w' → F i w'
theorem Facts.set_same (F : Facts) (k : Nat) (Φ : World → Prop) (w : World) : F.set k Φ k w = Φ w := by simp [Facts.set]
theorem Facts.set_ne (F : Facts) {i k : Nat} (h : i ≠ k) (Φ : World → Prop) (w : World) : F.set k Φ i w = F i w := by simp [Facts.set, h]
theorem Facts.set_comm (F : Facts) {i k : Nat} (h : i ≠ k) (Φ Ψ : World → Prop) : (F.set k Φ).set i Ψ = (F.set i Ψ).set k Φ := by
  funext j w
  unfold Facts.set
  by_cases h1 : j = i
  · by_cases h2 : j = k
    · omega
    · simp [h1, h]
  · simp [h1]
theorem Facts.keeps_set {F : Facts} (hF : F.keeps) {k : Nat} {Φ : World → Prop} (hΦ : ∀ w w', Φ w → Below w.heap.size w w' → Φ w') : (F.set k Φ).keeps := by
  intro i w w' h hb
  unfold Facts.set at *
  by_cases hi : i = k
  · simp only [hi, if_true] at h ⊢; exact hΦ _ _ h hb
  · simp only [hi, if_false] at h ⊢; exact hF _ _ _ h hb

/-- It only reads. -/
def readsUpon (w : World) (u : Value) : Result Next → Prop
  | .ok (.value x) w' => w' = w ∧ x = u
  | .ok .skip w' => w' = w ∧ u = undef
  | _ => False
/-- It yields a value, in a world that has grown. -/
def givesUpon (P : Program) (w : World) (Post : Value → World → Prop) : Result Next → Prop
  | .ok (.value x) w' => Post x w' ∧ Below w.heap.size w w'
  | .ok (.enter f args) w' => Calls P f args w' fun e w'' => ∃ v, e = .returned v ∧ Post v w'' ∧ Below w.heap.size w w''
  | _ => False
attribute [go_sem] readsUpon givesUpon

/-- The facts that operation k may lean on. -/
def Has (md : Region.Mode) (ops : Array Oper) (C : World → Prop) (k : Nat) (F : Facts) (w : World) : Prop := C w ∧ ∀ i, Region.waitsFor md ops k i = true → F i w

/-- In state a, under F, operation number k yields a value of the kind V, and then Ψ. -/
def Yields (P : Program) (md : Region.Mode) (ops : Array Oper) (C : World → Prop) (s : Spec) (k : Nat) (o : Oper) (a : Act) (F : Facts) (V : Value → Prop) (Ψ : Value → World → Prop) : Prop :=
  (Region.wanted o (yielded ops a.tmps) = true ∧
    ((s = none ∧ ∃ u, V = (fun v => v = u) ∧ Ψ = (fun _ _ => True) ∧ ∀ w, Has md ops C k F w → readsUpon w u ((execOp a.eval o).run P w)) ∨
     (s = some (V, Ψ) ∧ ∀ w, Has md ops C k F w → givesUpon P w (fun v w' => V v ∧ Ψ v w') ((execOp a.eval o).run P w)))) ∨
  (Region.wanted o (yielded ops a.tmps) = false ∧ V = (fun v => v = undef) ∧ Ψ = fun _ _ => True)

theorem Yields.uniq {s : Spec} {k : Nat} {o : Oper} {a : Act} {F : Facts} {V V' : Value → Prop} {Ψ Ψ' : Value → World → Prop} {w : World} (hw : Has md ops C k F w)
    (h : Yields P md ops C s k o a F V Ψ) (h' : Yields P md ops C s k o a F V' Ψ') : V = V' ∧ Ψ = Ψ' := by
  rcases h with ⟨w1, h | h⟩ | ⟨w1, e1, e2⟩ <;> rcases h' with ⟨w2, h' | h'⟩ | ⟨w2, e1', e2'⟩
  · obtain ⟨_, u, rfl, rfl, hr⟩ := h
    obtain ⟨_, u', rfl, rfl, hr'⟩ := h'
    have h1 := hr w hw
    have h2 := hr' w hw
    revert h1 h2
    generalize (execOp a.eval o).run P w = r
    intro h1 h2
    have e : u = u' := by
      cases r with
      | ok n w' =>
        cases n <;> simp only [readsUpon] at h1 h2
        · rw [← h1.2, h2.2]
        · rw [h1.2, h2.2]
      | halt x w' => simp only [readsUpon] at h1
    rw [e]
    exact ⟨rfl, rfl⟩
  · rw [h.1] at h'; cases h'.1
  · rw [w1] at w2; cases w2
  · rw [h'.1] at h; cases h.1
  · have := h.1.symm.trans h'.1
    simp only [Option.some.injEq, Prod.mk.injEq] at this
    exact this
  · rw [w1] at w2; cases w2
  · rw [w1] at w2; cases w2
  · rw [w1] at w2; cases w2
  · exact ⟨e1.trans e1'.symm, e2.trans e2'.symm⟩

theorem Yields.keeps {s : Spec} {k : Nat} {o : Oper} {a : Act} {F : Facts} {V : Value → Prop} {Ψ : Value → World → Prop} (hs : s.keeps)
    (h : Yields P md ops C s k o a F V Ψ) : ∀ v w w', Ψ v w → Below w.heap.size w w' → Ψ v w' := by
  rcases h with ⟨_, ⟨_, u, rfl, rfl, _⟩ | ⟨rfl, _⟩⟩ | ⟨_, rfl, rfl⟩
  · exact fun _ _ _ _ _ => trivial
  · exact hs
  · exact fun _ _ _ _ _ => trivial

/-- The facts hold on. -/
theorem keep_all {F : Facts} (hF : F.keeps) {k : Nat} {Φ : World → Prop} {w w' : World} (hw : ∀ i, F i w) (hb : Below w.heap.size w w') (hΦ : Φ w') : ∀ i, F.set k Φ i w' := by
  intro i
  unfold Facts.set
  by_cases hi : i = k
  · simp only [hi, if_true]; exact hΦ
  · simp only [hi, if_false]; exact hF _ _ _ (hw i) hb

theorem Yields.run {s : Spec} {k : Nat} {o : Oper} {a : Act} {F : Facts} {V : Value → Prop} {Ψ : Value → World → Prop} {w : World}
    (hCg : ∀ w w', C w → Below w.heap.size w w' → C w') (hF : F.keeps) (hw : C w) (hFw : ∀ i, F i w) (h : Yields P md ops C s k o a F V Ψ) :
    ∃ v w', V v ∧ C w' ∧ ∀ i, F.set k (Ψ v) i w' := by
  have hH : Has md ops C k F w := ⟨hw, fun i _ => hFw i⟩
  rcases h with ⟨_, ⟨_, u, rfl, rfl, _⟩ | ⟨rfl, hg⟩⟩ | ⟨_, rfl, rfl⟩
  · exact ⟨u, w, rfl, hw, keep_all hF hFw (Below.refl _ _) trivial⟩
  · have h1 := hg w hH
    revert h1
    generalize (execOp a.eval o).run P w = r
    intro h1
    cases r with
    | ok n w' =>
      cases n <;> simp only [givesUpon] at h1
      case value x => exact ⟨x, w', h1.1.1, hCg _ _ hw h1.2, keep_all hF hFw h1.2 h1.1.2⟩
      case enter f args =>
        obtain ⟨e, w'', fr, ⟨v, rfl, hp, hb⟩, _⟩ := h1 []
        exact ⟨v, w'', hp.1, hCg _ _ hw hb, keep_all hF hFw hb hp.2⟩
    | halt x w' => simp only [givesUpon] at h1
  · exact ⟨undef, w, rfl, hw, keep_all hF hFw (Below.refl _ _) trivial⟩

def Sat (C : World → Prop) (F : Facts) : Prop := ∃ w, C w ∧ ∀ i, F i w
def fOp (P : Program) (md : Region.Mode) (ops : Array Oper) (C : World → Prop) (sp : Nat → Spec) (i : Nat) (K : Act → (World → Prop) → Prop) (a : Act) (F : Facts) : Prop :=
  ∃ o V Ψ, ops[i]? = some o ∧ Yields P md ops C (sp i) i o a F V Ψ ∧ ∀ v, V v → K (a.put o.dst v) (Ψ v)
/-- Whatever order is picked from here on. -/
def wpAnyF (P : Program) (md : Region.Mode) (ops : Array Oper) (C : World → Prop) (sp : Nat → Spec) (n : Nat) (L : Array Bool → Act → Facts → Prop) : Nat → Array Bool → Act → Facts → Prop
  | 0, listed, a, F => Sat C F → L listed a F
  | f + 1, listed, a, F => Sat C F → Region.ready md ops listed ≠ [] ∧
      ∀ i ∈ Region.ready md ops listed, i < n ∧ fOp P md ops C sp i (fun a' Φ => wpAnyF P md ops C sp n L f (listed.setIfInBounds i true) a' (F.set i Φ)) a F
theorem wpAnyF_guard {sp : Nat → Spec} {n : Nat} {L : Array Bool → Act → Facts → Prop} {f : Nat} {listed : Array Bool} {a : Act} {F : Facts}
    (h : Sat C F → wpAnyF P md ops C sp n L f listed a F) : wpAnyF P md ops C sp n L f listed a F := by
  cases f with
  | zero => exact fun hs => h hs hs
  | succ f => exact fun hs => h hs hs

theorem wpOp_of_fOp {sp : Nat → Spec} {i : Nat} {a : Act} {F : Facts} {K : Act → (World → Prop) → Prop} {K' : Act → World → Prop} {Q' : Exit → Act → World → Prop} {w : World}
    (hsp : ∀ i, (sp i).keeps) (hCg : ∀ w w', C w → Below w.heap.size w w' → C w') (hF : F.keeps) (hw : C w) (hFw : ∀ i, F i w)
    (h : ∀ a' Φ w', C w' → (F.set i Φ).keeps → (∀ j, F.set i Φ j w') → K a' Φ → K' a' w') (hh : fOp P md ops C sp i K a F) : wpOp P ops Q' i K' a w := by
  obtain ⟨o, V, Ψ, ho, hY, hK⟩ := hh
  have hH : Has md ops C i F w := ⟨hw, fun i _ => hFw i⟩
  have hkeep := fun v => Facts.keeps_set hF (k := i) (hY.keeps (hsp i) v)
  unfold wpOp
  simp only [ho]
  rcases hY with ⟨hwd, ⟨_, u, rfl, rfl, hr⟩ | ⟨_, hg⟩⟩ | ⟨hwd, rfl, rfl⟩
  · simp only [hwd, if_true]
    refine .inl ?_
    have h1 := hr w hH
    unfold Oper.wp
    revert h1
    generalize (execOp a.eval o).run P w = r
    intro h1
    cases r with
    | ok n w' =>
      cases n <;> simp only [readsUpon] at h1 <;> simp only [Oper.upon]
      case value x =>
        obtain ⟨rfl, rfl⟩ := h1
        exact h _ _ _ hw (hkeep x) (keep_all hF hFw (Below.refl _ _) trivial) (hK _ rfl)
      case skip =>
        obtain ⟨rfl, rfl⟩ := h1
        exact h _ _ _ hw (hkeep undef) (keep_all hF hFw (Below.refl _ _) trivial) (hK _ rfl)
    | halt x w' => simp only [readsUpon] at h1
  · simp only [hwd, if_true]
    refine .inl ?_
    have h1 := hg w hH
    unfold Oper.wp
    revert h1
    generalize (execOp a.eval o).run P w = r
    intro h1
    cases r with
    | ok n w' =>
      cases n <;> simp only [givesUpon] at h1 <;> simp only [Oper.upon]
      case value x => exact h _ _ _ (hCg _ _ hw h1.2) (hkeep x) (keep_all hF hFw h1.2 h1.1.2) (hK _ h1.1.1)
      case enter f args =>
        refine h1.mono fun e w'' hp => ?_
        obtain ⟨v, rfl, hp, hb⟩ := hp
        exact h _ _ _ (hCg _ _ hw hb) (hkeep v) (keep_all hF hFw hb hp.2) (hK _ hp.1)
    | halt x w' => simp only [givesUpon] at h1
  · simp only [hwd, Bool.false_eq_true, if_false]
    exact h _ _ _ hw (hkeep undef) (keep_all hF hFw (Below.refl _ _) trivial) (hK _ rfl)

theorem wpAny_of_headF {sp : Nat → Spec} {n g : Nat} {L : Array Bool → Act → Facts → Prop} {Q' : Exit → Act → World → Prop}
    (hsp : ∀ i, (sp i).keeps) (hCg : ∀ w w', C w → Below w.heap.size w w' → C w')
    (hL : ∀ listed a F w, C w → (∀ i, F i w) → L listed a F → wpAny P md ops Q' g listed a w) :
    ∀ (f : Nat) (listed : Array Bool) (a : Act) (F : Facts) (w : World), F.keeps → C w → (∀ i, F i w) → wpAnyF P md ops C sp n L f listed a F → wpAny P md ops Q' (f + g) listed a w
  | 0, listed, a, F, w, hF, hw, hFw, h => by rw [Nat.zero_add]; exact hL _ _ _ _ hw hFw (h ⟨w, hw, hFw⟩)
  | f + 1, listed, a, F, w, hF, hw, hFw, h => by
    rw [show f + 1 + g = (f + g) + 1 by omega]
    have h1 := h ⟨w, hw, hFw⟩
    exact ⟨fun h0 => absurd h0 h1.1, fun i hi => wpOp_of_fOp hsp hCg hF hw hFw (fun a' Φ w' hw' hF' hFw' h' => wpAny_of_headF hsp hCg hL f _ a' _ w' hF' hw' hFw' h') (h1.2 i hi).2⟩

/-- What an operation apart has put makes no difference. -/
theorem Yields.of_same {s : Spec} {k : Nat} {o : Oper} {a a' : Act} {F F' : Facts} {V : Value → Prop} {Ψ : Value → World → Prop} (h : Yields P md ops C s k o a F V Ψ)
    (he : execOp a'.eval o = execOp a.eval o) (hwd : Region.wanted o (yielded ops a'.tmps) = Region.wanted o (yielded ops a.tmps)) (hF : ∀ w, Has md ops C k F' w → Has md ops C k F w) :
    Yields P md ops C s k o a' F' V Ψ := by
  unfold Yields at *
  rw [he, hwd]
  rcases h with ⟨w1, ⟨e, u, e1, e2, h⟩ | ⟨e, h⟩⟩ | h
  · exact .inl ⟨w1, .inl ⟨e, u, e1, e2, fun w hw => h w (hF w hw)⟩⟩
  · exact .inl ⟨w1, .inr ⟨e, fun w hw => h w (hF w hw)⟩⟩
  · exact .inr h

theorem not_waits {k i : Nat} {o : Oper} (ho : ops[k]? = some o) (h : ∀ e ∈ o.after, Region.binds md e = true → e.on ≠ i) : Region.waitsFor md ops k i = false := by
  cases hb : Region.waitsFor md ops k i with
  | false => rfl
  | true =>
    obtain ⟨o', ho', e, he, hb, hon⟩ := Region.waitsFor_spec hb
    have : o' = o := Option.some.inj (ho'.symm.trans ho)
    subst this
    exact absurd hon (h e he hb)
theorem Has.of_set {F : Facts} {k i : Nat} {Φ : World → Prop} {w : World} (hn : Region.waitsFor md ops k i = false) (h : Has md ops C k (F.set i Φ) w) : Has md ops C k F w := by
  refine ⟨h.1, fun j hj => ?_⟩
  have hji : j ≠ i := fun e => by rw [e, hn] at hj; cases hj
  have := h.2 j hj
  rwa [Facts.set_ne F hji] at this
theorem Has.to_set {F : Facts} {k i : Nat} {Φ : World → Prop} {w : World} (hn : Region.waitsFor md ops k i = false) (h : Has md ops C k F w) : Has md ops C k (F.set i Φ) w := by
  refine ⟨h.1, fun j hj => ?_⟩
  have hji : j ≠ i := fun e => by rw [e, hn] at hj; cases hj
  rw [Facts.set_ne F hji]
  exact h.2 j hj

/-- An operation that may come up now may be taken first. -/
theorem wpAnyF_first {sp : Nat → Spec} {n i : Nat} {oi : Oper} {L : Array Bool → Act → Facts → Prop} (hsp : ∀ i, (sp i).keeps) (hCg : ∀ w w', C w → Below w.heap.size w w' → C w')
    (hi : ops[i]? = some oi) (hsel : ∀ (j : Nat) (o : Oper) cs b, ops[j]? = some o → o.op ≠ .select cs b)
    (hs : Region.sinkB md ops n = true) (hc : Region.chainB md ops n = true) (hn : n < ops.size) (hin : i < n)
    (hdone : ∀ listed a F, L listed a F → ∀ j ∈ Region.ready md ops listed, n ≤ j) {V : Value → Prop} {Ψ : Value → World → Prop} :
    ∀ (f : Nat) (listed : Array Bool) (a : Act) (F : Facts), HeadInv md ops n listed → F.keeps → (∀ k, listed.getD k false = false → ∀ w, F k w) →
      (∀ j oj, ops[j]? = some oj → j ≠ i → listed.getD j true = false → (∀ e ∈ oj.after, Region.binds md e = true → e.on ≠ i) → oi.apart ops oj = true) →
      i ∈ Region.ready md ops listed → Yields P md ops C (sp i) i oi a F V Ψ →
      (∀ v, V v → wpAnyF P md ops C sp n L f (listed.setIfInBounds i true) (a.put oi.dst v) (F.set i (Ψ v))) → wpAnyF P md ops C sp n L (f + 1) listed a F := by
  intro f
  induction f with
  | zero =>
    intro listed a F inv hF hFt _ hr hy H hsat
    have hun := (mem_ready.1 hr).1
    obtain ⟨w, hw, hFw⟩ := hsat
    obtain ⟨v, w', hv, hw', hFw'⟩ := hy.run hCg hF hw hFw
    have H0 := H v hv ⟨w', hw', hFw'⟩
    refine ⟨fun h => (by rw [h] at hr; cases hr), fun j hj => ?_⟩
    have hjn : j < n := by
      rcases Nat.lt_or_ge j n with h | h
      · exact h
      · exact absurd hj (tail_waits hs hc hn inv _ i rfl hin hun j h)
    refine ⟨hjn, ?_⟩
    by_cases hji : j = i
    · subst hji; exact ⟨oi, V, Ψ, hi, hy, H⟩
    · have := hdone _ _ _ H0 j (ready_mono hj hji)
      omega
  | succ f ih =>
    intro listed a F inv hF hFt hfree hr hy H hsat
    have hun := (mem_ready.1 hr).1
    obtain ⟨w, hw, hFw⟩ := hsat
    obtain ⟨v0, w0, hv0, hw0, hFw0⟩ := hy.run hCg hF hw hFw
    have H0 := H v0 hv0 ⟨w0, hw0, hFw0⟩
    refine ⟨fun h => (by rw [h] at hr; cases hr), fun j hj => ?_⟩
    have hjn : j < n := by
      rcases Nat.lt_or_ge j n with h | h
      · exact h
      · exact absurd hj (tail_waits hs hc hn inv _ i rfl hin hun j h)
    refine ⟨hjn, ?_⟩
    by_cases hji : j = i
    · subst hji; exact ⟨oi, V, Ψ, hi, hy, H⟩
    · obtain ⟨hjun, oj, hoj, hall⟩ := mem_ready.1 hj
      have hnot : ∀ e ∈ oj.after, Region.binds md e = true → e.on ≠ i := fun e he hb heq => by
        have h1 := hall e he hb
        rw [heq, getD_both hun] at h1
        cases h1
      have hwji := not_waits (md := md) hoj hnot
      have hwij : Region.waitsFor md ops i j = false := by
        obtain ⟨_, o', ho', hall'⟩ := mem_ready.1 hr
        refine not_waits ho' fun e he hb heq => ?_
        have h1 := hall' e he hb
        rw [heq, getD_both hjun] at h1
        cases h1
      have hap := hfree j oj hoj hji hjun hnot
      obtain ⟨p1, p2, p3⟩ := Oper.apart_spec hap
      have back : ∀ (v : Value) {V' : Value → Prop} {Ψ' : Value → World → Prop}, Yields P md ops C (sp j) j oj (a.put oi.dst v) (F.set i (Ψ v)) V' Ψ' → Yields P md ops C (sp j) j oj a F V' Ψ' := fun v _ _ h =>
        h.of_same (execOp_put oj (hsel j oj · · hoj) a oi.dst v p1).symm (wanted_put oj a oi.dst v p1).symm (fun _ h => h.to_set hwji)
      obtain ⟨oj', Vj, Ψj, hoj', hYj, _⟩ := (H0.2 j (ready_mono hj hji)).2
      obtain rfl : oj' = oj := Option.some.inj (hoj'.symm.trans hoj)
      have hYj0 := back v0 hYj
      refine ⟨oj', Vj, Ψj, hoj, hYj0, fun vj hvj => ?_⟩
      have hun' : (listed.setIfInBounds j true).getD i true = false := by rw [getD_set_ne true hji]; exact hun
      refine ih (listed.setIfInBounds j true) (a.put oj'.dst vj) (F.set j (Ψj vj)) (inv.set hj hjn) (Facts.keeps_set hF (hYj0.keeps (hsp j) vj)) (fun k hk w => ?_) (fun k ok hk hki hun hno => ?_) (ready_mono hr (Ne.symm hji))
        (hy.of_same (execOp_put oi (hsel i oi · · hi) a oj'.dst vj p3) (wanted_put oi a oj'.dst vj p3) (fun _ h => h.of_set hwij)) (fun v hv => wpAnyF_guard fun hsat2 => ?_)
      · have hkj : k ≠ j := fun e => by
          subst e
          have hlt : k < listed.size := by
            rcases Nat.lt_or_ge k listed.size with h' | h'
            · exact h'
            · simp [Array.getElem?_eq_none h'] at hjun
          simp [hlt] at hk
        rw [Facts.set_ne F hkj]
        rw [getD_set_ne false (Ne.symm hkj)] at hk
        exact hFt k hk w
      · refine hfree k ok hk hki ?_ hno
        by_cases hjk : j = k
        · subst hjk; exact hjun
        · rw [getD_set_ne true hjk] at hun; exact hun
      · obtain ⟨w2, hw2, hF2⟩ := hsat2
        have hsat3 : Sat C (F.set i (Ψ v)) := ⟨w2, hw2, fun k => by
          by_cases hk : k = i
          · subst hk
            have := hF2 k
            rw [Facts.set_same] at this ⊢
            exact this
          · rw [Facts.set_ne F hk]
            by_cases hkj : k = j
            · subst hkj; exact hFt k (getD_both hjun) w2
            · have := hF2 k
              rw [Facts.set_ne _ hk, Facts.set_ne _ hkj] at this
              exact this⟩
        obtain ⟨oj2, Vj2, Ψj2, hoj2, hYj2, hK2⟩ := ((H v hv hsat3).2 j (ready_mono hj hji)).2
        obtain rfl : oj2 = oj' := Option.some.inj (hoj2.symm.trans hoj)
        obtain ⟨rfl, rfl⟩ := (back v hYj2).uniq ⟨hw, fun k _ => hFw k⟩ hYj0
        have h3 := hK2 vj hvj
        rw [Array.setIfInBounds_comm _ _ hji, Facts.set_comm F (Ne.symm hji), ← Act.put_comm a v vj p2]
        exact h3

/-- THE WALK, in the order of the text. -/
def wpF (P : Program) (md : Region.Mode) (ops : Array Oper) (C : World → Prop) (sp : Nat → Spec) (Q : Act → Facts → Prop) : List Oper → Nat → Act → Facts → Prop
  | [], _, a, F => Q a F
  | o :: rest, k, a, F => ∃ V Ψ, Yields P md ops C (sp k) k o a F V Ψ ∧ ∀ v, V v → wpF P md ops C sp Q rest (k + 1) (a.put o.dst v) (F.set k (Ψ v))

theorem wpAnyF_lex {sp : Nat → Spec} {n g : Nat} {Lq : Act → Facts → Prop} (hsp : ∀ i, (sp i).keeps) (hCg : ∀ w w', C w → Below w.heap.size w w' → C w')
    (hsel : Region.noSelect ops = true) (hs : Region.sinkB md ops n = true) (hc : Region.chainB md ops n = true) (hn : n < ops.size) :
    ∀ (l : List Oper) (k : Nat) (listed : Array Bool) (a : Act) (F : Facts), (∀ j, j < l.length → l[j]? = ops[k + j]?) → k + l.length = n → HeadInv md ops n listed → F.keeps → (∀ k, listed.getD k false = false → ∀ w, F k w) →
    Region.lexHead md ops g l.length k listed = true → wpF P md ops C sp Lq l k a F →
    wpAnyF P md ops C sp n (fun listed' a' F' => Region.seqB md ops g n listed' = true ∧ Lq a' F') l.length listed a F
  | [], k, listed, a, F, _, hk, _, _, _, hB, h => by
    have : k = n := by simpa using hk
    subst this
    exact fun _ => ⟨by simpa [Region.lexHead] using hB, h⟩
  | o :: l, k, listed, a, F, hl, hk, inv, hF, hFt, hB, h => by
    have h0 : ops[k]? = some o := by simpa using (hl 0 (by simp)).symm
    simp only [List.length_cons, Region.lexHead, Bool.and_eq_true] at hB
    obtain ⟨⟨hr, hf⟩, hB'⟩ := hB
    have hkn : k < n := by simp only [List.length_cons] at hk; omega
    have hr' : k ∈ Region.ready md ops listed := by simpa using hr
    obtain ⟨V, Ψ, hY, hK⟩ := h
    refine wpAnyF_first hsp hCg h0 (Region.noSelect_spec hsel) hs hc hn hkn (fun listed' a' _ hL => seqB_ready hL.1) l.length listed a F inv hF hFt (Region.free_spec h0 hf) hr' hY fun v hv => ?_
    refine wpAnyF_lex hsp hCg hsel hs hc hn l (k + 1) _ _ _ (fun j hj => by have := hl (j + 1) (by simp; omega); simpa [Nat.add_assoc, Nat.add_comm 1 j] using this) (by simp only [List.length_cons] at hk; omega) (inv.set hr' hkn)
      (Facts.keeps_set hF (hY.keeps (hsp k) v)) (fun j hj w => ?_) hB' (hK v hv)
    have hjk : j ≠ k := fun e => by
      subst e
      have hlt : j < listed.size := by rw [inv.size]; omega
      simp [hlt] at hj
    rw [Facts.set_ne F hjk]
    rw [getD_set_ne false (Ne.symm hjk)] at hj
    exact hFt j hj w

/-- **A drawn region: the first n operations in whatever order, the rest in sequence.** -/
theorem wp_region_fresh {id : Nat} {Q : Exit → Act → World → Prop} {a : Act} {w : World} {l : List Oper} (n : Nat) (sp : Nat → Spec) (C : World → Prop) (hm : P.follows .mixedOrders = true) (hB : Region.lexTailB .any l.toArray n = true)
    (hsp : ∀ i, (sp i).keeps) (hCg : ∀ w w', C w → Below w.heap.size w w' → C w') (hC0 : C { w with drawn := w.drawn + 1 })
    (h : wpF P .any l.toArray C sp (fun a' F => ∀ w', C w' → (∀ i, F i w') → wpList P l.toArray Q (l.drop n) a' w') (l.take n) 0 a (fun _ _ => True)) : (Code.region id l.toArray true).wp P Q a w := by
  simp only [Region.lexTailB, Bool.and_eq_true, decide_eq_true_eq] at hB
  obtain ⟨⟨⟨⟨hsel, hn⟩, hs⟩, hc⟩, hlex⟩ := hB
  have hn' : n < l.length := by simpa using hn
  have htl : (l.take n).length = n := by simp; omega
  have hdl : (l.drop n).length = l.toArray.size - n := by simp
  have inv0 : HeadInv .any l.toArray n (Array.replicate l.toArray.size false) :=
    ⟨by simp, fun j oj _ hl => (by rw [getD_replicate_false] at hl; cases hl), fun t _ ht => getD_in (by simpa using ht) (getD_replicate_false _ _)⟩
  have H := wpAnyF_lex (P := P) (md := .any) (C := C) (g := l.toArray.size - n) hsp hCg hsel hs hc hn (l.take n) 0 _ a (fun _ _ => True) (fun j hj => by
    have hj' : j < n := by rw [htl] at hj; exact hj
    simp [hj']) (by simpa using htl) inv0 (fun _ _ _ _ _ => trivial) (fun _ _ _ => trivial) (by rw [htl]; exact hlex) h
  refine wp_region_any hm ?_
  have := wpAny_of_headF (Q' := Q) (g := l.toArray.size - n) hsp hCg (fun listed a' F w' hw' hF' hL => by
    have := wpAny_of_seq (md := .any) (Q' := Q) (l.drop n) n listed a' w' (fun j => by simp [List.getElem?_drop]) (by rw [hdl]; exact hL.1) (hL.2 w' hw' hF')
    rwa [hdl] at this) _ _ _ _ _ (fun _ _ _ _ _ => trivial) hC0 (fun _ => trivial) H
  rw [htl, show n + (l.toArray.size - n) = l.toArray.size by omega] at this
  exact this

/-! ### Steps of the walk -/
theorem wpF_nil {sp : Nat → Spec} {Q : Act → Facts → Prop} {k : Nat} {a : Act} {F : Facts} (h : Q a F) : wpF P md ops C sp Q [] k a F := h
theorem wpF_reads {sp : Nat → Spec} {Q : Act → Facts → Prop} {o : Oper} {rest : List Oper} {k : Nat} {a : Act} {F : Facts} (hg : o.guard = none) (hs : sp k = none) (u : Value)
    (hr : ∀ w, Has md ops C k F w → readsUpon w u ((execOp a.eval o).run P w)) (hK : wpF P md ops C sp Q rest (k + 1) (a.put o.dst u) (F.set k (fun _ => True))) : wpF P md ops C sp Q (o :: rest) k a F :=
  ⟨_, _, .inl ⟨by simp [Region.wanted, hg], .inl ⟨hs, u, rfl, rfl, hr⟩⟩, fun v hv => by cases hv; exact hK⟩
theorem wpF_spec {sp : Nat → Spec} {Q : Act → Facts → Prop} {o : Oper} {rest : List Oper} {k : Nat} {a : Act} {F : Facts} (hg : o.guard = none) {V : Value → Prop} {Ψ : Value → World → Prop} (hs : sp k = some (V, Ψ))
    (hr : ∀ w, Has md ops C k F w → givesUpon P w (fun v w' => V v ∧ Ψ v w') ((execOp a.eval o).run P w)) (hK : ∀ v, V v → wpF P md ops C sp Q rest (k + 1) (a.put o.dst v) (F.set k (Ψ v))) : wpF P md ops C sp Q (o :: rest) k a F :=
  ⟨V, Ψ, .inl ⟨by simp [Region.wanted, hg], .inr ⟨hs, hr⟩⟩, hK⟩
/-- Guarded: it comes up, or not. -/
theorem wpF_readsG {sp : Nat → Spec} {Q : Act → Facts → Prop} {o : Oper} {rest : List Oper} {k : Nat} {a : Act} {F : Facts} (hg : Region.wanted o (yielded ops a.tmps) = true) (hs : sp k = none) (u : Value)
    (hr : ∀ w, Has md ops C k F w → readsUpon w u ((execOp a.eval o).run P w)) (hK : wpF P md ops C sp Q rest (k + 1) (a.put o.dst u) (F.set k (fun _ => True))) : wpF P md ops C sp Q (o :: rest) k a F :=
  ⟨_, _, .inl ⟨hg, .inl ⟨hs, u, rfl, rfl, hr⟩⟩, fun v hv => by cases hv; exact hK⟩
theorem wpF_skip {sp : Nat → Spec} {Q : Act → Facts → Prop} {o : Oper} {rest : List Oper} {k : Nat} {a : Act} {F : Facts} (hg : Region.wanted o (yielded ops a.tmps) = false)
    (hK : wpF P md ops C sp Q rest (k + 1) (a.put o.dst undef) (F.set k (fun _ => True))) : wpF P md ops C sp Q (o :: rest) k a F :=
  ⟨_, _, .inr ⟨hg, rfl, rfl⟩, fun v hv => by cases hv; exact hK⟩

theorem Has.world {F : Facts} {k : Nat} {w : World} (h : Has md ops C k F w) : C w := h.1
theorem Has.fact {F : Facts} {k : Nat} {w : World} (h : Has md ops C k F w) (i : Nat) (hi : Region.waitsFor md ops k i = true) : F i w := h.2 i hi

/-! ### Specs -/
abbrev Sp := (Value → Prop) × (Value → World → Prop)
/-- A known value. -/
def Sp.know (u : Value) : Sp := (fun v => v = u, fun _ _ => True)
/-- A value made of what is not known, with a fact on it. -/
def Sp.made {α : Type} (val : α → Value) (Φ : α → World → Prop) : Sp := (fun v => ∃ x, v = val x, fun v w => ∃ x, v = val x ∧ Φ x w)
def Sp.keeps (s : Sp) : Prop := ∀ v w w', s.2 v w → Below w.heap.size w w' → s.2 v w'
theorem Sp.know_keeps (u : Value) : (Sp.know u).keeps := fun _ _ _ _ _ => trivial
theorem Sp.made_keeps {α : Type} {val : α → Value} {Φ : α → World → Prop} (h : ∀ x w w', Φ x w → Below w.heap.size w w' → Φ x w') : (Sp.made val Φ).keeps := fun _ _ _ ⟨x, e, hx⟩ hb => ⟨x, e, h x _ _ hx hb⟩
def spOf : List (Nat × Sp) → Nat → Spec
  | [], _ => none
  | (k, s) :: l, i => if i = k then some s else spOf l i
theorem spOf_nil : ∀ i, (spOf [] i).keeps := fun _ => trivial
theorem spOf_cons {k : Nat} {s : Sp} {l : List (Nat × Sp)} (hs : s.keeps) (hl : ∀ i, (spOf l i).keeps) : ∀ i, (spOf ((k, s) :: l) i).keeps := by
  intro i
  unfold spOf
  by_cases h : i = k
  · rw [if_pos h]; exact hs
  · rw [if_neg h]; exact hl i
end Go.Fresh
