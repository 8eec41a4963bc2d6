/-
  The walks of package monos: what each call of Mul, Div, Lcm, Degree does, told by plain functions on numbers.
-/
import Derived.Test.YtlhkiodgjcbjbaaRows
import Derived.WalkKit
import Derived.WalkSpells
import Derived.WalkLawsBesides
import Derived.BigQuiet
import Derived.Handy
import Derived.Deep.OwnRows
import Derived.Lib.Hide
namespace Go.Proofs.Ytlhkiodgjcbjbaa.Mono
open Go.RowKit

/-- A product as a value. -/
abbrev mv (a b c d : Int) : Value := .agg #[.int .u16 a, .int .u16 b, .int .u16 c, .int .u16 d]

set_option maxHeartbeats 400000 in
theorem mulFn (x y : Int) (w : World) (h1 : 0 ≤ x) (h2 : x ≤ 65535) (h3 : 0 ≤ y) (h4 : y ≤ 65535) :
    Calls Try.prog 23 #[.int .i64 x, .int .i64 y] w fun e w' => e = .returned (.int .i64 (x + y)) ∧ w' = w := by
  go_enter Try.func23, Try.ntmps23
  go_wp2
  go_ret
  exact ⟨rfl, rfl⟩
theorem divFn (x y : Int) (w : World) (h1 : 0 ≤ x) (h2 : x ≤ 65535) (h3 : 0 ≤ y) (h4 : y ≤ 65535) :
    Calls Try.prog 24 #[.int .i64 x, .int .i64 y] w fun e w' => e = .returned (.int .i64 (x - y)) ∧ w' = w := by
  go_enter Try.func24, Try.ntmps24
  go_wp2
  go_ret
  exact ⟨rfl, rfl⟩
theorem lcmFn (x y : Int) (w : World) :
    Calls Try.prog 25 #[.int .i64 x, .int .i64 y] w fun e w' => e = .returned (.int .i64 (max x y)) ∧ w' = w := by
  go_enter Try.func25, Try.ntmps25
  go_wp2
  · go_ret
    exact ⟨by rw [Int.max_eq_right (by omega)]; rfl, rfl⟩
  · go_ret
    exact ⟨by rw [Int.max_eq_left (by omega)]; rfl, rfl⟩

theorem cf_mul (args : Array Value) (w : World) : (callFunc 23 args).run Try.prog w = .ok (.enter 23 args) w := by kernel_rfl
theorem cf_div (args : Array Value) (w : World) : (callFunc 24 args).run Try.prog w = .ok (.enter 24 args) w := by kernel_rfl
theorem cf_lcm (args : Array Value) (w : World) : (callFunc 25 args).run Try.prog w = .ok (.enter 25 args) w := by kernel_rfl

/-- Counts of letters, by place. -/
abbrev cell (a : Nat → Int) (i : Nat) : Value := .int .u16 (a i)
abbrev mvf (a : Nat → Int) : Value := .agg #[.int .u16 (a 0), .int .u16 (a 1), .int .u16 (a 2), .int .u16 (a 3)]
def Small (a : Nat → Int) : Prop := ∀ i, i < 4 → 0 ≤ a i ∧ a i ≤ 65535

abbrev arr4 (a : Nat → Int) : Array Value := #[.int .u16 (a 0), .int .u16 (a 1), .int .u16 (a 2), .int .u16 (a 3)]
theorem four (a : Nat → Int) (i : Nat) (h : i < (arr4 a).size) : (arr4 a)[i]? = some (cell a i) := by
  have h' : i < 4 := h
  match i, h' with
  | 0, _ => rfl
  | 1, _ => rfl
  | 2, _ => rfl
  | 3, _ => rfl

theorem row_four {w : World} {b : Nat} {t : TypeId} {f : Nat → Value} (h : w.rowIs b t 4 f) : w.heap[b]? = some (.cells #[f 0, f 1, f 2, f 3] t (0, 0)) := by
  obtain ⟨c, hb, hn, hc⟩ := h
  rw [hb]
  have e : c = #[f 0, f 1, f 2, f 3] := by
    apply Array.ext
    · simpa using hn
    · intro i h1 h2
      have h3 := hc i (by omega)
      rw [Array.getElem?_eq_getElem h1] at h3
      have h4 : i < 4 := by omega
      have h5 : #[f 0, f 1, f 2, f 3][i]? = some (f i) := by
        match i, h4 with
        | 0, _ => rfl
        | 1, _ => rfl
        | 2, _ => rfl
        | 3, _ => rfl
      rw [Array.getElem?_eq_getElem h2] at h5
      simp only [Option.some.injEq] at h3 h5
      rw [h3, h5]
  rw [e]

/-- Two results, the first one a row in a variable. -/
theorem results_row_tmp {P : Program} {fn : Func} {p q : Tmp} {ty : TypeId} (h : fn.results = #[.cell p ty, .tmp q]) (tmps : Array Value) (w : World) (g : Nat) (t : TypeId) (cs : Array Value) (fr : Nat × Nat) (d : TypeDesc)
    (hp : tmps.getD p undef = .pointer (some ⟨g, 0, none⟩)) (hg : w.heap[g]? = some (.cells cs t fr))
    (hu : P.underlying ty = some d) (hd : (match d with | .struct _ | .array _ _ => true | _ => false) = true) (hi : (P.info? ty).map (·.size) = some cs.size) :
    (results fn tmps).run P w = .ok (.tuple #[.agg cs, tmps.getD q undef]) w := by
  have hp' : tmps[p]?.getD undef = .pointer (some ⟨g, 0, none⟩) := by simpa using hp
  simp [results, h, hp', asAddr, run_loadVar_row w g t ty cs fr d hg hu hd hi]

def zeroM (_ : Nat) : Int := 0
def part (n : Nat → Int) (k : Nat) (j : Nat) : Int := if j < k then n j else 0
/-- In the loop: the two that came in, what is made of the first k places. -/
structure Rel (B T : Nat) (a b n : Nat → Int) (w wr : World) (k : Nat) : Prop where
  one : wr.rowIs B T 4 (cell a)
  two : wr.rowIs (B + 1) T 4 (cell b)
  out : wr.rowIs (B + 1 + 1) T 4 (cell (part n k))
  below : Below B w wr

theorem rel_start (w : World) (T : TypeId) (a b n : Nat → Int) : Rel w.heap.size T a b n w
    (((w.alloc (.cells #[.int .u16 (a 0), .int .u16 (a 1), .int .u16 (a 2), .int .u16 (a 3)] T)).alloc (.cells #[.int .u16 (b 0), .int .u16 (b 1), .int .u16 (b 2), .int .u16 (b 3)] T)).alloc (.cells #[.int .u16 0, .int .u16 0, .int .u16 0, .int .u16 0] T)) 0 := by
  refine ⟨((w.rowIs_alloc (arr4 a) T (cell a) (four a)).alloc _).alloc _, ?_, ?_, ?_⟩
  · have h := (World.rowIs_alloc (w.alloc (.cells (arr4 a) T)) (arr4 b) T (cell b) (four b)).alloc (.cells (arr4 (part n 0)) T)
    rw [World.size_alloc] at h
    exact h
  · have h := World.rowIs_alloc ((w.alloc (.cells (arr4 a) T)).alloc (.cells (arr4 b) T)) (arr4 (part n 0)) T (cell (part n 0)) (four (part n 0))
    rw [World.size_alloc, World.size_alloc] at h
    exact h
  · go_grown

theorem Rel.drewN {B T : Nat} {a b n : Nat → Int} {w wr : World} {k : Nat} (h : Rel B T a b n w wr k) (m : Nat) : Rel B T a b n w (wr.drewN m) k :=
  ⟨h.one.of_block rfl, h.two.of_block rfl, h.out.of_block rfl, below_drewN h.below m⟩
theorem Rel.step {B T : Nat} {a b n : Nat → Int} {w wr : World} {k : Nat} (h : Rel B T a b n w wr k) : Rel B T a b n w (wr.setCell ⟨B + 1 + 1, k, none⟩ (.int .u16 (n k))) (k + 1) :=
  ⟨h.one.setOther (by simp; omega) _, h.two.setOther (by simp) _, (h.out.set k _).congr (fun j _ => by
    by_cases e : j = k
    · subst e; simp [part]
    · simp only [if_neg e, cell, part]
      by_cases e2 : j < k
      · rw [if_pos e2, if_pos (by omega)]
      · rw [if_neg e2, if_neg (by omega)]), h.below.setCell (by simp; omega) _⟩

set_option maxHeartbeats 1000000 in
theorem each_ok (F : Nat) (a b n : Nat → Int) (w : World) (ha : Small a) (hb : Small b)
    (hcf : ∀ (args : Array Value) (w : World), (callFunc F args).run Try.prog w = .ok (.enter F args) w)
    (hF : ∀ k, k < 4 → ∀ w, Calls Try.prog F #[.int .i64 (a k), .int .i64 (b k)] w fun e w' => e = .returned (.int .i64 (n k)) ∧ w' = w)
    (hn : Small n) :
    Calls Try.prog 22 #[mvf a, mvf b, .func (.func F) #[] #[]] w fun e w' => e = .returned (.tuple #[mvf n, .bool true]) ∧ Below w.heap.size w w' := by
  have HF := Lib.hid hF; clear hF
  have HA := Lib.hid ha; clear ha
  have HB := Lib.hid hb; clear hb
  have HN := Lib.hid hn; clear hn
  have hs := rel_start w 24 a b n
  go_enter Try.func22, Try.ntmps22
  go_wp2
  go_loopw [10] (fun i wr => ∃ k : Nat, k ≤ 4 ∧ i = .int .i64 k ∧ Rel w.heap.size 24 a b n w wr k) (fun i _ => 4 - (intOf i).toNat)
  case atStart => exact ⟨0, by omega, rfl, hs⟩
  case round =>
    obtain ⟨k, hk, rfl, R⟩ := hrel
    by_cases hlt : k < 4
    · have hc1 := R.one.cell hlt
      have hc2 := R.two.cell hlt
      have hfz := R.out.frozen k
      obtain ⟨vo, hco⟩ : ∃ v, wr.cell? ⟨w.heap.size + 1 + 1, k, none⟩ = some v := ⟨_, R.out.cell hlt⟩
      have ea := IntWalk.i64_in (a k) (by have := HA.out k hlt; omega)
      have eb := IntWalk.i64_in (b k) (by have := HB.out k hlt; omega)
      have h1 := (HN.out k hlt).1
      have h2 := (HN.out k hlt).2
      go_wp2
      go_quiet (exact Calls.quiet_of_same (HF.out k hlt _))
      go_wp2
      go_roundw
      case rel => exact ⟨k + 1, by omega, by go_num, (R.drewN _).step⟩
      case measure => simp [intOf]; omega
    · obtain rfl : k = 4 := by omega
      have hc0 := R.out.cell (i := 0) (by omega)
      have hc1 := R.out.cell (i := 1) (by omega)
      have hc2 := R.out.cell (i := 2) (by omega)
      have hc3 := R.out.cell (i := 3) (by omega)
      have hf := fun i => R.out.frozen i
      have hsz := R.out.lt
      go_wp2
      have R' := (((R.out.set 0 (.int .u16 (part n 4 0))).set 1 (.int .u16 (part n 4 1))).set 2 (.int .u16 (part n 4 2))).set 3 (.int .u16 (part n 4 3))
      have R2 := row_four (R'.congr (g := cell n) (fun j hj => by
        match j, hj with
        | 0, _ => simp [part]
        | 1, _ => simp [part]
        | 2, _ => simp [part]
        | 3, _ => simp [part]))
      refine bodyPost_ret (results_row_tmp rfl _ _ _ _ _ _ _ rfl R2 Try.underlying24 rfl (by kernel_rfl)) rfl ⟨rfl, ?_⟩
      have hb := R.below
      have hl := hb.size
      go_grown
set_option maxHeartbeats 1000000 in
theorem each_no (F : Nat) (a b n : Nat → Int) (w : World) (ha : Small a) (hb : Small b)
    (hcf : ∀ (args : Array Value) (w : World), (callFunc F args).run Try.prog w = .ok (.enter F args) w)
    (hF : ∀ k, k < 4 → ∀ w, Calls Try.prog F #[.int .i64 (a k), .int .i64 (b k)] w fun e w' => e = .returned (.int .i64 (n k)) ∧ w' = w)
    (k0 : Nat) (hk0 : k0 < 4) (hn : ∀ k, k < k0 → 0 ≤ n k ∧ n k ≤ 65535) (hbad : n k0 < 0 ∨ 65535 < n k0) :
    Calls Try.prog 22 #[mvf a, mvf b, .func (.func F) #[] #[]] w fun e w' => e = .returned (.tuple #[mvf zeroM, .bool false]) ∧ Below w.heap.size w w' := by
  have HF := Lib.hid hF; clear hF
  have HA := Lib.hid ha; clear ha
  have HB := Lib.hid hb; clear hb
  have HN := Lib.hid hn; clear hn
  have hs := rel_start w 24 a b n
  go_enter Try.func22, Try.ntmps22
  go_wp2
  go_loopw [10] (fun i wr => ∃ k : Nat, k ≤ k0 ∧ i = .int .i64 k ∧ Rel w.heap.size 24 a b n w wr k) (fun i _ => 4 - (intOf i).toNat)
  case atStart => exact ⟨0, by omega, rfl, hs⟩
  case round =>
    obtain ⟨k, hk, rfl, R⟩ := hrel
    by_cases hlk : k < k0
    · have hlt : k < 4 := by omega
      have hc1 := R.one.cell hlt
      have hc2 := R.two.cell hlt
      have hfz := R.out.frozen k
      obtain ⟨vo, hco⟩ : ∃ v, wr.cell? ⟨w.heap.size + 1 + 1, k, none⟩ = some v := ⟨_, R.out.cell hlt⟩
      have ea := IntWalk.i64_in (a k) (by have := HA.out k hlt; omega)
      have eb := IntWalk.i64_in (b k) (by have := HB.out k hlt; omega)
      have h1 := (HN.out k hlk).1
      have h2 := (HN.out k hlk).2
      go_wp2
      go_quiet (exact Calls.quiet_of_same (HF.out k hlt _))
      go_wp2
      go_roundw
      case rel => exact ⟨k + 1, by omega, by go_num, (R.drewN _).step⟩
      case measure => simp [intOf]; omega
    · obtain rfl : k = k0 := by omega
      have hlt : k < 4 := hk0
      have hc1 := R.one.cell hlt
      have hc2 := R.two.cell hlt
      obtain ⟨v0, q0⟩ : ∃ v, wr.cell? ⟨w.heap.size + 1 + 1, 0, none⟩ = some v := ⟨_, R.out.cell (by omega)⟩
      obtain ⟨v1, q1⟩ : ∃ v, wr.cell? ⟨w.heap.size + 1 + 1, 1, none⟩ = some v := ⟨_, R.out.cell (by omega)⟩
      obtain ⟨v2, q2⟩ : ∃ v, wr.cell? ⟨w.heap.size + 1 + 1, 2, none⟩ = some v := ⟨_, R.out.cell (by omega)⟩
      obtain ⟨v3, q3⟩ : ∃ v, wr.cell? ⟨w.heap.size + 1 + 1, 3, none⟩ = some v := ⟨_, R.out.cell (by omega)⟩
      have hf := fun i => R.out.frozen i
      have hsz := R.out.lt
      have ea := IntWalk.i64_in (a k) (by have := HA.out k hlt; omega)
      have eb := IntWalk.i64_in (b k) (by have := HB.out k hlt; omega)
      rcases hbad with hbad | hbad
      all_goals
        go_wp2
        go_quiet (exact Calls.quiet_of_same (HF.out k hlt _))
        go_wp2
        have R' := (((((R.drewN nq).out.set 0 (.int .u16 0)).set 1 (.int .u16 0)).set 2 (.int .u16 0)).set 3 (.int .u16 0))
        have R2 := row_four (R'.congr (g := cell zeroM) (fun j hj => by
          match j, hj with
          | 0, _ => simp [zeroM]
          | 1, _ => simp [zeroM]
          | 2, _ => simp [zeroM]
          | 3, _ => simp [zeroM]))
        refine bodyPost_ret (results_row_tmp rfl _ _ _ _ _ _ _ rfl R2 Try.underlying24 rfl (by kernel_rfl)) rfl ⟨rfl, ?_⟩
        have hb := (R.drewN nq).below
        have hl := hb.size
        go_grown


/-! ### What Mul, Div, Lcm and Degree tell -/
def mulB (a b : Nat → Int) : Bool := decide (a 0 + b 0 ≤ 65535 ∧ a 1 + b 1 ≤ 65535 ∧ a 2 + b 2 ≤ 65535 ∧ a 3 + b 3 ≤ 65535)
def mulM (a b : Nat → Int) (k : Nat) : Int := if mulB a b = true then a k + b k else 0
def mulE (a b : Nat → Int) : Int := if mulB a b = true then 0 else 3
def divB (a b : Nat → Int) : Bool := decide (b 0 ≤ a 0 ∧ b 1 ≤ a 1 ∧ b 2 ≤ a 2 ∧ b 3 ≤ a 3)
def divM (a b : Nat → Int) (k : Nat) : Int := if divB a b = true then a k - b k else 0
def lcmM (a b : Nat → Int) (k : Nat) : Int := max (a k) (b k)
def degM (a : Nat → Int) : Int := a 0 + a 1 + a 2 + a 3

theorem first_bad (p : Nat → Prop) [DecidablePred p] (n : Nat) (h : ¬ ∀ k, k < n → p k) : ∃ k0, k0 < n ∧ (∀ k, k < k0 → p k) ∧ ¬ p k0 := by
  induction n with
  | zero => exact absurd (fun k hk => absurd hk (by omega)) h
  | succ n ih =>
    by_cases h1 : ∀ k, k < n → p k
    · refine ⟨n, by omega, h1, fun hp => h fun k hk => ?_⟩
      by_cases e : k = n
      · rw [e]; exact hp
      · exact h1 k (by omega)
    · obtain ⟨k0, h2, h3, h4⟩ := ih h1
      exact ⟨k0, by omega, h3, h4⟩

theorem all4 (p : Nat → Prop) : (∀ k, k < 4 → p k) ↔ p 0 ∧ p 1 ∧ p 2 ∧ p 3 := by
  constructor
  · intro h; exact ⟨h 0 (by omega), h 1 (by omega), h 2 (by omega), h 3 (by omega)⟩
  · intro ⟨h0, h1, h2, h3⟩ k hk
    match k, hk with
    | 0, _ => exact h0
    | 1, _ => exact h1
    | 2, _ => exact h2
    | 3, _ => exact h3
theorem mulB_iff (a b : Nat → Int) : mulB a b = true ↔ ∀ k, k < 4 → a k + b k ≤ 65535 := by rw [all4 fun k => a k + b k ≤ 65535, mulB, decide_eq_true_iff]
theorem divB_iff (a b : Nat → Int) : divB a b = true ↔ ∀ k, k < 4 → b k ≤ a k := by rw [all4 fun k => b k ≤ a k, divB, decide_eq_true_iff]

theorem mul_small {a b : Nat → Int} (ha : Small a) (hb : Small b) : Small (mulM a b) := by
  intro k hk
  have h1 := ha k hk
  have h2 := hb k hk
  unfold mulM
  by_cases h : mulB a b = true
  · rw [if_pos h]
    have := (mulB_iff a b).1 h k hk
    omega
  · rw [if_neg h]; omega
theorem div_small {a b : Nat → Int} (ha : Small a) (hb : Small b) : Small (divM a b) := by
  intro k hk
  have h1 := ha k hk
  have h2 := hb k hk
  unfold divM
  by_cases h : divB a b = true
  · rw [if_pos h]
    have := (divB_iff a b).1 h k hk
    omega
  · rw [if_neg h]; omega
theorem lcm_small {a b : Nat → Int} (ha : Small a) (hb : Small b) : Small (lcmM a b) := by
  intro k hk
  have h1 := ha k hk
  have h2 := hb k hk
  unfold lcmM
  omega

theorem each_mul (a b : Nat → Int) (w : World) (ha : Small a) (hb : Small b) :
    Calls Try.prog 22 #[mvf a, mvf b, .func (.func 23) #[] #[]] w fun e w' => e = .returned (.tuple #[mvf (mulM a b), .bool (mulB a b)]) ∧ Below w.heap.size w w' := by
  by_cases h : mulB a b = true
  · have h' := (mulB_iff a b).1 h
    have e : mulM a b = fun k => a k + b k := by funext k; simp [mulM, h]
    rw [h, e]
    exact each_ok _ a b (fun k => a k + b k) w ha hb cf_mul (fun k hk w => mulFn _ _ w (ha k hk).1 (ha k hk).2 (hb k hk).1 (hb k hk).2) (fun k hk => by have := ha k hk; have := hb k hk; have := h' k hk; refine ⟨?_, ?_⟩ <;> dsimp only <;> omega)
  · have h' := fun hh => h ((mulB_iff a b).2 hh)
    obtain ⟨k0, h1, h2, h3⟩ := first_bad _ _ h'
    have e : mulM a b = zeroM := by funext k; simp [mulM, h, zeroM]
    have e2 : mulB a b = false := by simpa using h
    rw [e2, e]
    exact each_no _ a b (fun k => a k + b k) w ha hb cf_mul (fun k hk w => mulFn _ _ w (ha k hk).1 (ha k hk).2 (hb k hk).1 (hb k hk).2) k0 h1 (fun k hk => by have := ha k (by omega); have := hb k (by omega); have := h2 k hk; omega) (by omega)
theorem each_div (a b : Nat → Int) (w : World) (ha : Small a) (hb : Small b) :
    Calls Try.prog 22 #[mvf a, mvf b, .func (.func 24) #[] #[]] w fun e w' => e = .returned (.tuple #[mvf (divM a b), .bool (divB a b)]) ∧ Below w.heap.size w w' := by
  by_cases h : divB a b = true
  · have h' := (divB_iff a b).1 h
    have e : divM a b = fun k => a k - b k := by funext k; simp [divM, h]
    rw [h, e]
    exact each_ok _ a b (fun k => a k - b k) w ha hb cf_div (fun k hk w => divFn _ _ w (ha k hk).1 (ha k hk).2 (hb k hk).1 (hb k hk).2) (fun k hk => by have := ha k hk; have := hb k hk; have := h' k hk; refine ⟨?_, ?_⟩ <;> dsimp only <;> omega)
  · have h' := fun hh => h ((divB_iff a b).2 hh)
    obtain ⟨k0, h1, h2, h3⟩ := first_bad _ _ h'
    have e : divM a b = zeroM := by funext k; simp [divM, h, zeroM]
    have e2 : divB a b = false := by simpa using h
    rw [e2, e]
    exact each_no _ a b (fun k => a k - b k) w ha hb cf_div (fun k hk w => divFn _ _ w (ha k hk).1 (ha k hk).2 (hb k hk).1 (hb k hk).2) k0 h1 (fun k hk => by have := ha k (by omega); have := hb k (by omega); have := h2 k hk; omega) (by omega)
theorem each_lcm (a b : Nat → Int) (w : World) (ha : Small a) (hb : Small b) :
    Calls Try.prog 22 #[mvf a, mvf b, .func (.func 25) #[] #[]] w fun e w' => e = .returned (.tuple #[mvf (lcmM a b), .bool true]) ∧ Below w.heap.size w w' :=
  each_ok _ a b (lcmM a b) w ha hb cf_lcm (fun _ _ w => lcmFn _ _ w) (lcm_small ha hb)

end Go.Proofs.Ytlhkiodgjcbjbaa.Mono
