/-
  The contracts of package monos with the answer under a name of the caller's; 'alive' of the laws: it returns true.
-/
import Derived.Test.YtlhkiodgjcbjbaaMonoRCmp
namespace Go.Proofs.Ytlhkiodgjcbjbaa.Mono
open Go.RowKit Go.Sort

theorem mul_as {a b c : Nat → Int} {n : Int} (w : World) (ha : Small a) (hb : Small b) (h : mulM a b = c) (he : mulE a b = n) :
    Calls Try.prog 11 #[mvf a, mvf b] w fun e w' => e = .returned (.tuple #[mvf c, .int .i64 n]) ∧ Below w.heap.size w w' := by subst h; subst he; exact mul_any a b w ha hb
theorem div_as {a b c : Nat → Int} {n : Bool} (w : World) (ha : Small a) (hb : Small b) (h : divM a b = c) (he : divB a b = n) :
    Calls Try.prog 12 #[mvf a, mvf b] w fun e w' => e = .returned (.tuple #[mvf c, .bool n]) ∧ Below w.heap.size w w' := by subst h; subst he; exact div_any a b w ha hb
theorem lcm_as {a b c : Nat → Int} (w : World) (ha : Small a) (hb : Small b) (h : lcmM a b = c) :
    Calls Try.prog 15 #[mvf a, mvf b] w fun e w' => e = .returned (mvf c) ∧ Below w.heap.size w w' := by subst h; exact lcm_any a b w ha hb
theorem degree_as {a : Nat → Int} {n : Int} (w : World) (ha : Small a) (h : degM a = n) :
    Calls Try.prog 17 #[mvf a] w fun e w' => e = .returned (.int .i64 n) ∧ Below w.heap.size w w' := by subst h; exact degree_any a w ha
theorem cmp_as {o : Int} {a b : Nat → Int} {n : Int} (w : World) (ha : Small a) (hb : Small b) (h : cmpM o a b = n) :
    Calls Try.prog 19 #[.int .u8 o, mvf a, mvf b] w fun e w' => e = .returned (.int .i64 n) ∧ Below w.heap.size w w' := by subst h; exact cmp_any o a b w ha hb

/-- A product written out. -/
def k4 (x0 x1 x2 x3 : Int) (i : Nat) : Int := if i = 0 then x0 else if i = 1 then x1 else if i = 2 then x2 else if i = 3 then x3 else 0
theorem k4_small {x0 x1 x2 x3 : Int} (h0 : 0 ≤ x0 ∧ x0 ≤ 65535) (h1 : 0 ≤ x1 ∧ x1 ≤ 65535) (h2 : 0 ≤ x2 ∧ x2 ≤ 65535) (h3 : 0 ≤ x3 ∧ x3 ≤ 65535) : Small (k4 x0 x1 x2 x3) := by
  intro i hi
  match i, hi with
  | 0, _ => exact h0
  | 1, _ => exact h1
  | 2, _ => exact h2
  | 3, _ => exact h3
theorem mul_k4 {x0 x1 x2 x3 y0 y1 y2 y3 : Int} (h : x0 + y0 ≤ 65535 ∧ x1 + y1 ≤ 65535 ∧ x2 + y2 ≤ 65535 ∧ x3 + y3 ≤ 65535) : mulM (k4 x0 x1 x2 x3) (k4 y0 y1 y2 y3) = k4 (x0 + y0) (x1 + y1) (x2 + y2) (x3 + y3) := by
  have hB : mulB (k4 x0 x1 x2 x3) (k4 y0 y1 y2 y3) = true := decide_eq_true h
  funext i
  simp only [mulM, hB, if_true, k4]
  by_cases h0 : i = 0 <;> by_cases h1 : i = 1 <;> by_cases h2 : i = 2 <;> by_cases h3 : i = 3 <;> simp [h0, h1, h2, h3]

theorem al1 (w : World) : Calls Try.prog 11 #[mv 65535 0 0 0, mv 1 0 0 0] w fun e w' => e = .returned (.tuple #[mv 0 0 0 0, .int .i64 3]) ∧ Below w.heap.size w w' :=
  mul_as (a := k4 65535 0 0 0) (b := k4 1 0 0 0) (c := zeroM) w (k4_small (by omega) (by omega) (by omega) (by omega)) (k4_small (by omega) (by omega) (by omega) (by omega)) (by funext i; rfl) rfl
theorem al2 (w : World) : Calls Try.prog 11 #[mv 2 1 0 0, mv 1 0 0 3] w fun e w' => e = .returned (.tuple #[mv 3 1 0 3, .int .i64 0]) ∧ Below w.heap.size w w' :=
  mul_as (a := k4 2 1 0 0) (b := k4 1 0 0 3) (c := k4 (2 + 1) (1 + 0) (0 + 0) (0 + 3)) w (k4_small (by omega) (by omega) (by omega) (by omega)) (k4_small (by omega) (by omega) (by omega) (by omega)) (mul_k4 (by omega)) rfl
theorem al3 (w : World) : Calls Try.prog 12 #[mv 1 0 0 0, mv 0 1 0 0] w fun e w' => e = .returned (.tuple #[mv 0 0 0 0, .bool false]) ∧ Below w.heap.size w w' :=
  div_as (a := k4 1 0 0 0) (b := k4 0 1 0 0) (c := zeroM) w (k4_small (by omega) (by omega) (by omega) (by omega)) (k4_small (by omega) (by omega) (by omega) (by omega)) (by funext i; rfl) rfl
theorem al4 (w : World) : Calls Try.prog 15 #[mv 2 0 1 0, mv 1 3 0 0] w fun e w' => e = .returned (mv 2 3 1 0) ∧ Below w.heap.size w w' :=
  lcm_any (k4 2 0 1 0) (k4 1 3 0 0) w (k4_small (by omega) (by omega) (by omega) (by omega)) (k4_small (by omega) (by omega) (by omega) (by omega))
theorem al5 (w : World) : Calls Try.prog 17 #[mv 2 0 1 0] w fun e w' => e = .returned (.int .i64 3) ∧ Below w.heap.size w w' :=
  degree_as (a := k4 2 0 1 0) w (k4_small (by omega) (by omega) (by omega) (by omega)) rfl
theorem al6 (w : World) : Calls Try.prog 19 #[.int .u8 0, mv 1 0 0 0, mv 0 5 0 0] w fun e w' => e = .returned (.int .i64 1) ∧ Below w.heap.size w w' :=
  cmp_as (o := 0) (a := k4 1 0 0 0) (b := k4 0 5 0 0) w (k4_small (by omega) (by omega) (by omega) (by omega)) (k4_small (by omega) (by omega) (by omega) (by omega)) rfl
theorem al7 (w : World) : Calls Try.prog 19 #[.int .u8 1, mv 1 0 0 0, mv 0 5 0 0] w fun e w' => e = .returned (.int .i64 (-1)) ∧ Below w.heap.size w w' :=
  cmp_as (o := 1) (a := k4 1 0 0 0) (b := k4 0 5 0 0) w (k4_small (by omega) (by omega) (by omega) (by omega)) (k4_small (by omega) (by omega) (by omega) (by omega)) rfl
theorem al8 (w : World) : Calls Try.prog 19 #[.int .u8 1, mv 2 0 0 1, mv 1 1 1 0] w fun e w' => e = .returned (.int .i64 1) ∧ Below w.heap.size w w' :=
  cmp_as (o := 1) (a := k4 2 0 0 1) (b := k4 1 1 1 0) w (k4_small (by omega) (by omega) (by omega) (by omega)) (k4_small (by omega) (by omega) (by omega) (by omega)) rfl
theorem al9 (w : World) : Calls Try.prog 19 #[.int .u8 2, mv 2 0 0 1, mv 1 1 1 0] w fun e w' => e = .returned (.int .i64 (-1)) ∧ Below w.heap.size w w' :=
  cmp_as (o := 2) (a := k4 2 0 0 1) (b := k4 1 1 1 0) w (k4_small (by omega) (by omega) (by omega) (by omega)) (k4_small (by omega) (by omega) (by omega) (by omega)) rfl

set_option maxHeartbeats 2000000 in
theorem alive_any (w : World) : Calls Try.prog 21 #[] w fun e w' => e = .returned (.bool true) ∧ Below w.heap.size w w' := by
  go_enter Try.func21, Try.ntmps21
  go_wp2_with fail
  refine (al1 _).mono ?_
  rintro e w1 ⟨rfl, hb1⟩
  have L1 := Lib.hid hb1
  clear hb1
  go_wp2_with fail
  refine (al2 _).mono ?_
  rintro e w2 ⟨rfl, hb2⟩
  have L2 := Lib.hid ((L1.out.alloc L1.out.size _).trans (hb2.mono (by have := L1.out.size; simp; omega)) : Below w.heap.size w w2)
  clear hb2 L1
  go_wp2_with fail
  refine (al3 _).mono ?_
  rintro e w3 ⟨rfl, hb3⟩
  have P3 := rowBelow (rowNew w2 24 (k4 3 1 0 3)) hb3 (by simp)
  have L3 := Lib.hid ((L2.out.alloc L2.out.size _).trans (hb3.mono (by have := L2.out.size; simp; omega)) : Below w.heap.size w w3)
  clear hb3 L2
  obtain ⟨p0, p1, p2, p3⟩ := rowc P3
  simp only [cell, show k4 3 1 0 3 0 = 3 from rfl, show k4 3 1 0 3 1 = 1 from rfl, show k4 3 1 0 3 2 = 0 from rfl, show k4 3 1 0 3 3 = 3 from rfl] at p0 p1 p2 p3
  have LT := P3.lt
  go_wp2_with fail
  refine (al4 _).mono ?_
  rintro e w4 ⟨rfl, hb4⟩
  have L4 := Lib.hid ((L3.out.alloc L3.out.size _).trans (hb4.mono (by have := L3.out.size; simp; omega)) : Below w.heap.size w w4)
  clear hb4 L3 p0 p1 p2 p3 LT P3
  go_wp2_with fail
  refine (al5 _).mono ?_
  rintro e w5 ⟨rfl, hb5⟩
  have L5 := Lib.hid (L4.out.trans (hb5.mono L4.out.size))
  clear hb5 L4
  go_wp2_with fail
  refine (al6 _).mono ?_
  rintro e w6 ⟨rfl, hb6⟩
  have L6 := Lib.hid (L5.out.trans (hb6.mono L5.out.size))
  clear hb6 L5
  go_wp2_with fail
  refine (al7 _).mono ?_
  rintro e w7 ⟨rfl, hb7⟩
  have L7 := Lib.hid (L6.out.trans (hb7.mono L6.out.size))
  clear hb7 L6
  go_wp2_with fail
  refine (al8 _).mono ?_
  rintro e w8 ⟨rfl, hb8⟩
  have L8 := Lib.hid (L7.out.trans (hb8.mono L7.out.size))
  clear hb8 L7
  go_wp2_with fail
  refine (al9 _).mono ?_
  rintro e w9 ⟨rfl, hb9⟩
  have L9 := Lib.hid (L8.out.trans (hb9.mono L8.out.size))
  clear hb9 L8
  go_wp2
  go_ret
  exact ⟨rfl, L9.out⟩
end Go.Proofs.Ytlhkiodgjcbjbaa.Mono
