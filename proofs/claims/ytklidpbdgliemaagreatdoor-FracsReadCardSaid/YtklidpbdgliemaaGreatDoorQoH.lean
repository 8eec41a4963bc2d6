/-
  Numbers in hand, and what the functions of limbs do to them: for the laws that ask no document.
  The walks of whole and divs: numbers of 64 bits, back.
  The walk of alive: what the document fixes.
  Numbers at hand, whether they may be or not, and what the functions of limbs make of them: lists of the calls' own.
  All that the outright laws of limbs have in common.
  Signs of numbers, nought, and numbers that may not be: for the outright laws.
  Numbers as they stand in memory, under one name each; what the functions of limbs do to them.
  limbs.Parse at any text.
  Fractions as they stand in memory, under one name each; what the functions of fracs do to them.
  The walks of fracs.Text and Whole, and of the helpers of the laws of fractions.
  strings.Cut at a separator of one byte.
  fracs.Parse at any text.
-/
import Derived.Test.YtklidpbdgliemaaGreatDoorQoE
import Derived.Test.YtklidpbdgliemaaGreatDoorQoG
import Derived.WalkKit
import Derived.ProofKit
import Derived.OpenShut
import Derived.Deep.DeepHandedRow
import Derived.Lib.LaidTab
import Derived.Lay
import Derived.MakeChecks
import Derived.Stop.LaidErr
import Derived.Deep.DeepWitnessRowRef
import Derived.Lib.CutLaws
set_option linter.unusedSimpArgs false
set_option linter.unusedVariables false
namespace Go.Proofs.YtklidpbdgliemaaGreatDoor.Limb
open Go.RowKit Go.Sort

/-- A number in hand, at a place. -/
structure NumR (w : World) (z : Int) (a : Option Addr) (c : Nat) : Prop where
  rd : Rd w a (lenB z.natAbs) (dgi z.natAbs)
  le : lenB z.natAbs ≤ c
theorem NumR.below {w w' : World} {z : Int} {a : Option Addr} {c : Nat} (h : NumR w z a c) (hb : Below w.heap.size w w') : NumR w' z a c := ⟨h.rd.below hb, h.le⟩
abbrev numC (z : Int) (a : Option Addr) (c : Nat) : Value := numV (decide (z < 0)) a (lenB z.natAbs) c
/-- A number comes back. -/
def RetN (w : World) (z : Int) (e : Ending) (w' : World) : Prop := ∃ a c, e = .returned (numC z a c) ∧ NumR w' z a c ∧ Below w.heap.size w w'
open Classical in
theorem checkC {w : World} {z1 : Int} {a1 : Option Addr} {c1 : Nat} (h1 : NumR w z1 a1 c1) (b1 : lenB z1.natAbs ≤ 10000000) :
    Calls Tryz.prog 28 #[numC z1 a1 c1] w fun e w' => e = .returned (.bool true) ∧ Below w.heap.size w w' := by
  have h := check_any (decide (z1 < 0)) a1 _ c1 _ w h1.rd (by omega)
  rw [decide_eq_true (canon_ok z1)] at h
  exact h
/-- How often, and what is left. -/
def RetD (w : World) (q r : Int) (e : Ending) (w' : World) : Prop := ∃ a c a' c', e = .returned (.tuple #[numC q a c, numC r a' c', .int .i64 0]) ∧ NumR w' q a c ∧ NumR w' r a' c' ∧ Below w.heap.size w w'
/-! SameNum, of any two numbers in hand. -/
open Classical in
set_option maxHeartbeats 1000000 in
theorem sameLimbs_dec (a b : Option Addr) (n m ca cb : Nat) (o p : Nat → Int) (w : World) (ha : Rd w a n o) (hb : Rd w b m p) (hn : n ≤ 1000000000) (hm : m ≤ 1000000000) :
    Calls Tryz.prog 128 #[.slice a n ca, .slice b m cb] w fun e w' => e = .returned (.bool (decide (n = m ∧ ∀ i, i < n → o i = p i))) ∧ ∃ m, w' = w.drewN m := by
  have HA := Lib.hid ha; have HB := Lib.hid hb
  clear ha hb
  obtain ⟨d, hd⟩ : ∃ d, d = decide (n = m ∧ ∀ i, i < n → o i = p i) := ⟨_, rfl⟩
  rw [← hd]
  by_cases hnm : n = m
  · subst hnm
    have Y := Lib.hid (fun (h : ∀ i, i < n → o i = p i) => (hd.trans (decide_eq_true ⟨rfl, h⟩) : d = true))
    have Z := Lib.hid (fun (i : Nat) (hi : i < n) (h : o i ≠ p i) => (hd.trans (decide_eq_false (fun h2 => h (h2.2 i hi))) : d = false))
    clear hd
    go_enter Tryz.func128, Tryz.ntmps128
    go_wp2_with fail
    go_loopw [5] (fun i wr => ∃ t : Nat, t ≤ n ∧ i = .int .i64 t ∧ (∀ j, j < t → o j = p j) ∧ ∃ m, wr = w.drewN m) (fun i _ => n - (intOf i).toNat)
    case atStart => exact ⟨0, by omega, rfl, fun j hj => by omega, 0, rfl⟩
    case round =>
      obtain ⟨t, htn, rfl, he, hm⟩ := hrel
      have HM := Lib.hid hm
      have HE := Lib.hid he
      have cw : ∀ p, wr.cell? p = w.cell? p := by obtain ⟨m, rfl⟩ := hm; intro p; rfl
      clear hm he
      by_cases ht : t < n
      · obtain ⟨b1, o1, rfl, hc1⟩ := HA.out.cells (by omega)
        obtain ⟨b2, o2, rfl, hc2⟩ := HB.out.cells (by omega)
        have c1 : wr.cell? ⟨b1, o1 + t, none⟩ = some (.int .u32 (o t)) := (cw _).trans (hc1 t ht)
        have c2 : wr.cell? ⟨b2, o2 + t, none⟩ = some (.int .u32 (p t)) := (cw _).trans (hc2 t ht)
        obtain ⟨x, hx⟩ : ∃ x, x = o t := ⟨_, rfl⟩
        obtain ⟨y, hy⟩ : ∃ y, y = p t := ⟨_, rfl⟩
        rw [← hx] at c1
        rw [← hy] at c2
        have HXY := Lib.hid (And.intro hx hy)
        clear hc1 hc2 cw hx hy
        by_cases hxy : x = y
        · have hq : (x == y) = true := by simpa using hxy
          subst hxy
          go_wp2_with fail
          go_quiet (fail)
          go_wp2_with fail
          go_roundw
          case rel =>
            refine ⟨t + 1, by omega, by go_num, fun j hj => ?_, by obtain ⟨m, e⟩ := HM.out; exact ⟨_, by rw [e, World.drewN_drewN]⟩⟩
            by_cases e : j = t
            · subst e; rw [← HXY.out.1, ← HXY.out.2]
            · exact HE.out j (by omega)
          case measure => simp [intOf]; omega
        · have hq : (x == y) = false := by simpa using hxy
          have E := Lib.hid (Z.out t ht (by rw [← HXY.out.1, ← HXY.out.2]; exact hxy))
          go_wp2_with fail
          go_quiet (fail)
          go_wp2_with fail
          go_ret
          exact ⟨by rw [E.out]; rfl, by obtain ⟨m, e⟩ := HM.out; exact ⟨_, by rw [e, World.drewN_drewN]⟩⟩
      · obtain rfl : t = n := by omega
        have E := Lib.hid (Y.out HE.out)
        clear cw
        go_wp2_with fail
        go_ret
        exact ⟨by rw [E.out]; rfl, HM.out⟩
  · have hq : ¬ (n : Int) = (m : Int) := by omega
    rw [hd, decide_eq_false (fun h => hnm h.1)]
    clear hd
    go_enter Tryz.func128, Tryz.ntmps128
    go_wp2_with fail
    go_ret
    exact ⟨rfl, 0, rfl⟩
open Classical in
set_option maxHeartbeats 1000000 in
theorem sameC {w : World} {z1 z2 : Int} {a1 a2 : Option Addr} {c1 c2 : Nat} (h1 : NumR w z1 a1 c1) (b1 : lenB z1.natAbs ≤ 10000000) (h2 : NumR w z2 a2 c2) (b2 : lenB z2.natAbs ≤ 10000000) :
    Calls Tryz.prog 55 #[numC z1 a1 c1, numC z2 a2 c2] w fun e w' => e = .returned (.bool (decide (z1 = z2))) ∧ Below w.heap.size w w' := by
  have HC := Lib.hid (fun (w' : World) (h : Below w.heap.size w w') => sameLimbs_dec a1 a2 _ _ c1 c2 _ _ w' (h1.rd.below h) (h2.rd.below h) (by omega) (by omega))
  have HD := Lib.hid (show (decide (z1 < 0) == decide (z2 < 0) && decide (lenB z1.natAbs = lenB z2.natAbs ∧ ∀ i, i < lenB z1.natAbs → dgi z1.natAbs i = dgi z2.natAbs i)) = decide (z1 = z2) by
    by_cases h : z1 = z2
    · subst h; simp
    · rw [decide_eq_false h]
      by_cases hs : decide (z1 < 0) = decide (z2 < 0)
      · rw [hs, beq_self_eq_true, Bool.true_and]
        refine decide_eq_false fun h3 => h ?_
        have h4 := canon_val z1
        have h5 := canon_val z2
        rw [← h4, ← h5, hs, h3.1]
        unfold valN
        have e : sumB (dgi z1.natAbs) (lenB z2.natAbs) = sumB (dgi z2.natAbs) (lenB z2.natAbs) := sumB_congr fun i hi => h3.2 i (by rw [h3.1]; exact hi)
        have k1 : okN (decide (z2 < 0)) (lenB z2.natAbs) (dgi z1.natAbs) := by have := canon_ok z1; rw [hs, h3.1] at this; exact this
        rw [if_pos k1, if_pos (canon_ok z2), e]
      · have : (decide (z1 < 0) == decide (z2 < 0)) = false := by simpa using hs
        rw [this, Bool.false_and])
  obtain ⟨s1, hs1⟩ : ∃ s1, s1 = decide (z1 < 0) := ⟨_, rfl⟩
  obtain ⟨s2, hs2⟩ : ∃ s2, s2 = decide (z2 < 0) := ⟨_, rfl⟩
  obtain ⟨t, ht⟩ : ∃ t, t = decide (lenB z1.natAbs = lenB z2.natAbs ∧ ∀ i, i < lenB z1.natAbs → dgi z1.natAbs i = dgi z2.natAbs i) := ⟨_, rfl⟩
  rw [← hs1, ← hs2, ← ht] at HD
  rw [← ht] at HC
  show Calls Tryz.prog 55 #[numV (decide (z1 < 0)) a1 (lenB z1.natAbs) c1, numV (decide (z2 < 0)) a2 (lenB z2.natAbs) c2] w _
  rw [← hs1, ← hs2, ← HD.out]
  clear h1 h2 hs1 hs2 ht HD
  generalize lenB z1.natAbs = n1 at *
  generalize lenB z2.natAbs = n2 at *
  by_cases hs : s1 = s2
  · have hq : (s1 == s2) = true := by simpa using hs
    rw [hq, Bool.true_and]
    go_enter Tryz.func55, Tryz.ntmps55
    go_wp2_with fail
    refine (HC.out _ ?_).mono ?_
    · (repeat' (first | (with_reducible exact Below.refl _ _) | (with_reducible assumption) | (with_reducible refine Below.alloc ?_ ?_ _) | (with_reducible refine Below.drew ?_) | (with_reducible refine bdrewN ?_ _) | (with_reducible refine Below.setCell ?_ ?_ _) | (with_reducible refine Below.frame ?_ _) | go_size))
    rintro e w1 ⟨rfl, m, rfl⟩
    go_wp2_with fail
    go_ret
    exact ⟨rfl, by (repeat' (first | (with_reducible exact Below.refl _ _) | (with_reducible assumption) | (with_reducible refine Below.alloc ?_ ?_ _) | (with_reducible refine Below.drew ?_) | (with_reducible refine bdrewN ?_ _) | (with_reducible refine Below.setCell ?_ ?_ _) | (with_reducible refine Below.frame ?_ _) | go_size))⟩
  · have hq : (s1 == s2) = false := by simpa using hs
    rw [hq, Bool.false_and]
    go_enter Tryz.func55, Tryz.ntmps55
    go_wp2_with fail
    go_ret
    exact ⟨rfl, by (repeat' (first | (with_reducible exact Below.refl _ _) | (with_reducible assumption) | (with_reducible refine Below.alloc ?_ ?_ _) | (with_reducible refine Below.drew ?_) | (with_reducible refine bdrewN ?_ _) | (with_reducible refine Below.setCell ?_ ?_ _) | (with_reducible refine Below.frame ?_ _) | go_size))⟩
end Go.Proofs.YtklidpbdgliemaaGreatDoor.Limb
namespace Go.Proofs.YtklidpbdgliemaaGreatDoor.Limb
open Go.RowKit Go.Sort
end Go.Proofs.YtklidpbdgliemaaGreatDoor.Limb
namespace Go.Proofs.YtklidpbdgliemaaGreatDoor.Limb
open Go.RowKit Go.Sort Go.Fresh
end Go.Proofs.YtklidpbdgliemaaGreatDoor.Limb
namespace Go.Proofs.YtklidpbdgliemaaGreatDoor.Limb
open Go.RowKit Go.Sort Go.Fresh

/-- A number at hand, that may be or not: it stands for z. -/
structure NumA (w : World) (s : Bool) (a : Option Addr) (n c : Nat) (z : Int) : Prop where
  ex : ∃ o, Rd w a n o ∧ valN s n o = z
  le : n ≤ c
theorem NumA.below {w w' : World} {s : Bool} {a : Option Addr} {n c : Nat} {z : Int} (h : NumA w s a n c z) (hb : Below w.heap.size w w') : NumA w' s a n c z := by
  obtain ⟨o, hr, hv⟩ := h.ex
  exact ⟨⟨o, hr.below hb, hv⟩, h.le⟩
theorem NumR.any {w : World} {z : Int} {a : Option Addr} {c : Nat} (h : NumR w z a c) : NumA w (decide (z < 0)) a (lenB z.natAbs) c z := ⟨⟨_, h.rd, canon_val z⟩, h.le⟩
/-- A number that a call has made: a list of its own, from block b on. -/
structure NumO (w : World) (b : Nat) (z : Int) (a : Option Addr) (c : Nat) : Prop where
  own : Own 80 w b a (lenB z.natAbs) c (dgi z.natAbs)
theorem NumO.below {w w' : World} {b : Nat} {z : Int} {a : Option Addr} {c : Nat} (h : NumO w b z a c) (hb : Below w.heap.size w w') : NumO w' b z a c := ⟨h.own.below hb⟩
theorem NumO.mono {w : World} {b b' : Nat} {z : Int} {a : Option Addr} {c : Nat} (h : NumO w b z a c) (hb : b' ≤ b) : NumO w b' z a c := ⟨h.own.mono hb⟩
theorem NumO.r {w : World} {b : Nat} {z : Int} {a : Option Addr} {c : Nat} (h : NumO w b z a c) : NumR w z a c := ⟨h.own.rd, h.own.le⟩
theorem NumO.any {w : World} {b : Nat} {z : Int} {a : Option Addr} {c : Nat} (h : NumO w b z a c) : NumA w (decide (z < 0)) a (lenB z.natAbs) c z := h.r.any
theorem NumO.setBox {w : World} {b : Nat} {z : Int} {a : Option Addr} {c : Nat} (h : NumO w b z a c) {g : Nat} {t : TypeId} {x y : Value} (hb : Bx w g t x y) (ht : 80 ≠ t) (i : Nat) (v : Value) : NumO (w.setCell ⟨g, i, none⟩ v) b z a c := by
  refine ⟨⟨h.own.le, h.own.place.imp id fun ⟨p, cur, ha, hg, hc, hr⟩ => ⟨p, cur, ha, hg, ?_, hr⟩, h.own.rng⟩⟩
  rw [Below.heap_setCell _ _ _ _ ?_]
  · exact hc
  · intro e
    have e : p = g := e
    subst e
    have hb' : w.heap[p]? = some (.cells #[x, y] t (0, 0)) := hb
    rw [hc] at hb'
    cases hb'
    exact ht rfl
/-- A number comes back, in a list of the call's own. -/
def RetO (w : World) (z : Int) (e : Ending) (w' : World) : Prop := ∃ a c, e = .returned (numC z a c) ∧ NumO w' w.heap.size z a c ∧ Below w.heap.size w w'
theorem ResN.retO {w : World} {z : Int} {e : Ending} {w' : World} (h : ResN w z e w') : RetO w z e w' := by
  obtain ⟨a, rfl, ho, -, hb⟩ := h
  exact ⟨a, _, rfl, ⟨ho⟩, hb⟩
def RetOD (w : World) (q r : Int) (e : Ending) (w' : World) : Prop := ∃ a c a' c', e = .returned (.tuple #[numC q a c, numC r a' c', .int .i64 0]) ∧ NumO w' w.heap.size q a c ∧ NumO w' w.heap.size r a' c' ∧ Below w.heap.size w w'
theorem mulA {w : World} {s1 s2 : Bool} {n1 n2 : Nat} {z1 z2 : Int} {a1 a2 : Option Addr} {c1 c2 : Nat} (h1 : NumA w s1 a1 n1 c1 z1) (b1 : n1 ≤ 10000000) (h2 : NumA w s2 a2 n2 c2 z2) (b2 : n2 ≤ 10000000) :
    Calls Tryz.prog 30 #[numV s1 a1 n1 c1, numV s2 a2 n2 c2] w (RetO w (z1 * z2)) := by
  obtain ⟨o1, r1, rfl⟩ := h1.ex
  obtain ⟨o2, r2, rfl⟩ := h2.ex
  exact (mul_any s1 a1 _ c1 _ s2 a2 _ c2 _ w r1 (by omega) h1.le r2 (by omega) h2.le).mono fun _ _ h => ResN.retO h
theorem ofA (n : Int) (w : World) (h1 : -9223372036854775808 ≤ n) (h2 : n ≤ 9223372036854775807) : Calls Tryz.prog 32 #[.int .i64 n] w (RetO w n) := (of64_any n w h1 h2).mono fun _ _ h => ResN.retO h
theorem signA {w : World} {s1 : Bool} {n1 : Nat} {z1 : Int} {a1 : Option Addr} {c1 : Nat} (h1 : NumA w s1 a1 n1 c1 z1) (b1 : n1 ≤ 10000000) :
    Calls Tryz.prog 31 #[numV s1 a1 n1 c1] w fun e w' => e = .returned (.int .i64 (cmpZ z1 0)) ∧ Below w.heap.size w w' := by
  obtain ⟨o1, r1, rfl⟩ := h1.ex
  exact sign_any s1 a1 _ c1 _ w r1 (by omega) h1.le
theorem textA {w : World} {s1 : Bool} {n1 : Nat} {z1 : Int} {a1 : Option Addr} {c1 : Nat} (h1 : NumA w s1 a1 n1 c1 z1) (b1 : n1 ≤ 10000000) (ht : Tab w) :
    Calls Tryz.prog 53 #[numV s1 a1 n1 c1] w fun e w' => e = .returned (.string ⟨(Lib.itoa z1).toArray⟩) ∧ Below w.heap.size w w' := by
  obtain ⟨o1, r1, rfl⟩ := h1.ex
  exact text_any s1 a1 _ c1 _ w r1 (by omega) h1.le ht
/-! How many parts. -/
theorem lenZ_mul {a b : Int} {j k : Nat} (ha : lenB a.natAbs ≤ j) (hb : lenB b.natAbs ≤ k) : lenB (a * b).natAbs ≤ j + k := by
  rw [Int.natAbs_mul]
  refine lenB_le ?_
  rw [pw_add]
  have h1 := Nat.lt_of_lt_of_le (lt_pw_lenB a.natAbs) (pw_le ha)
  have h2 := Nat.lt_of_lt_of_le (lt_pw_lenB b.natAbs) (pw_le hb)
  by_cases h0 : b.natAbs = 0
  · rw [h0, Nat.mul_zero]; exact Nat.mul_pos (by omega) (by omega)
  · exact Nat.mul_lt_mul_of_lt_of_le h1 (Nat.le_of_lt h2) (by omega)
theorem lenZ_val (s : Bool) (n : Nat) (o : Nat → Int) (h : ∀ i, i < n → 0 ≤ o i ∧ o i ≤ 4294967295) : lenB (valN s n o).natAbs ≤ n := by
  by_cases hk : okN s n o
  · obtain ⟨f1, f2, f3⟩ := of_facts s n o hk h
    omega
  · rw [show valN s n o = 0 by unfold valN; rw [if_neg hk]]
    simp [lenB_zero]

theorem NumA.len {w : World} {s : Bool} {a : Option Addr} {n c : Nat} {z : Int} (h : NumA w s a n c z) : lenB z.natAbs ≤ n := by
  obtain ⟨o, hr, rfl⟩ := h.ex
  exact lenZ_val s n o hr.rng

/-! Has one of them more parts than are gone through? -/
/-! What is read out of a drawn region's facts. -/
end Go.Proofs.YtklidpbdgliemaaGreatDoor.Limb
namespace Go.Proofs.YtklidpbdgliemaaGreatDoor.Limb
end Go.Proofs.YtklidpbdgliemaaGreatDoor.Limb
namespace Go.Proofs.YtklidpbdgliemaaGreatDoor.Limb
open Go.RowKit Go.Sort Go.Fresh
open Classical in
theorem badC (s : Bool) (a : Option Addr) (n c : Nat) (o : Nat → Int) (w : World) (h : Rd w a n o) (hn : n ≤ 1000000000) (hk : ¬ okN s n o) :
    Calls Tryz.prog 28 #[numV s a n c] w fun e w' => e = .returned (.bool false) ∧ Below w.heap.size w w' := by
  have h := check_any s a n c o w h hn
  rw [decide_eq_false hk] at h
  exact h
theorem cmpZ_range (x y : Int) : -1 ≤ cmpZ x y ∧ cmpZ x y ≤ 1 := by
  unfold cmpZ
  split
  · omega
  · split <;> omega
theorem cmpZ_same (x y : Int) : (cmpZ x y == 0) = decide (x = y) := by
  unfold cmpZ
  by_cases h : x = y
  · rw [if_neg (by omega), if_neg (by omega), decide_eq_true h]; rfl
  · rw [decide_eq_false h]
    split
    · rfl
    · rw [if_pos (by omega)]; rfl
theorem len1 {z : Int} (h1 : -9223372036854775808 ≤ z) (h2 : z ≤ 9223372036854775807) : lenB z.natAbs ≤ 3 := len3 (by omega)
end Go.Proofs.YtklidpbdgliemaaGreatDoor.Limb
namespace Go.Proofs.YtklidpbdgliemaaGreatDoor.Limb
open Go.RowKit Go.Sort

/-- What a number's value is made of. -/
structure NV where
  s : Bool
  a : Option Addr
  n : Nat
  c : Nat
abbrev NV.v (x : NV) : Value := .agg #[.bool x.s, .slice x.a x.n x.c]
theorem NV.inj {x y : NV} (h : x.v = y.v) : x = y := by
  cases x; cases y
  simp only [Value.agg.injEq, Array.mk.injEq, List.cons.injEq, Value.bool.injEq, Value.slice.injEq, and_true] at h
  obtain ⟨rfl, rfl, rfl, rfl⟩ := h
  rfl
/-- It stands for z, whether it may be or not. -/
abbrev AN (w : World) (x : NV) (z : Int) : Prop := NumA w x.s x.a x.n x.c z
/-- It may be. -/
structure KN (w : World) (x : NV) (z : Int) : Prop where
  s : x.s = decide (z < 0)
  n : x.n = lenB z.natAbs
  rd : Rd w x.a x.n (dgi z.natAbs)
  le : x.n ≤ x.c
/-- A call has made it, from block lo on. -/
structure DN (w : World) (lo : Nat) (x : NV) (z : Int) : Prop where
  s : x.s = decide (z < 0)
  n : x.n = lenB z.natAbs
  own : Own 80 w lo x.a x.n x.c (dgi z.natAbs)
/-- It may not be. -/
structure XN (w : World) (x : NV) : Prop where
  ex : ∃ o, Rd w x.a x.n o ∧ ¬ okN x.s x.n o
  le : x.n ≤ x.c
theorem KN.below {w w' : World} {x : NV} {z : Int} (h : KN w x z) (hb : Below w.heap.size w w') : KN w' x z := ⟨h.s, h.n, h.rd.below hb, h.le⟩
theorem DN.below {w w' : World} {lo : Nat} {x : NV} {z : Int} (h : DN w lo x z) (hb : Below w.heap.size w w') : DN w' lo x z := ⟨h.s, h.n, h.own.below hb⟩
theorem XN.below {w w' : World} {x : NV} (h : XN w x) (hb : Below w.heap.size w w') : XN w' x := by
  obtain ⟨o, hr, hk⟩ := h.ex
  exact ⟨⟨o, hr.below hb, hk⟩, h.le⟩
theorem DN.mono {w : World} {lo lo' : Nat} {x : NV} {z : Int} (h : DN w lo x z) (hl : lo' ≤ lo) : DN w lo' x z := ⟨h.s, h.n, h.own.mono hl⟩
theorem DN.k {w : World} {lo : Nat} {x : NV} {z : Int} (h : DN w lo x z) : KN w x z := ⟨h.s, h.n, h.own.rd, h.own.le⟩
theorem KN.r {w : World} {x : NV} {z : Int} (h : KN w x z) : x.v = numC z x.a x.c ∧ NumR w z x.a x.c := by
  refine ⟨?_, ⟨by rw [← h.n]; exact h.rd, by rw [← h.n]; exact h.le⟩⟩
  show Value.agg #[.bool x.s, .slice x.a x.n x.c] = _
  rw [h.s, h.n]
theorem KN.any {w : World} {x : NV} {z : Int} (h : KN w x z) : AN w x z := by
  have h2 := h.r.2.any
  rw [← h.s, ← h.n] at h2
  exact h2
theorem XN.any {w : World} {x : NV} (h : XN w x) : AN w x 0 := by
  obtain ⟨o, hr, hk⟩ := h.ex
  exact ⟨⟨o, hr, by unfold valN; rw [if_neg hk]⟩, h.le⟩
theorem KN.len {w : World} {x : NV} {z : Int} {k m : Nat} (h : KN w x z) (hz : lenB z.natAbs ≤ k) (hk : k ≤ m) : x.n ≤ m := by rw [h.n]; omega
/-- A raw number: it may be, or it may not be. -/
theorem KN.raw {w : World} {s : Bool} {a : Option Addr} {n c : Nat} {o : Nat → Int} (h : Rd w a n o) (hc : n ≤ c) (hk : okN s n o) : KN w ⟨s, a, n, c⟩ (valN s n o) := by
  obtain ⟨f1, f2, f3⟩ := of_facts s n o hk h.rng
  exact ⟨f1.symm, f2.symm, h.congr f3, hc⟩
theorem XN.raw {w : World} {s : Bool} {a : Option Addr} {n c : Nat} {o : Nat → Int} (h : Rd w a n o) (hc : n ≤ c) (hk : ¬ okN s n o) : XN w ⟨s, a, n, c⟩ := ⟨⟨o, h, hk⟩, hc⟩
theorem AN.raw {w : World} {s : Bool} {a : Option Addr} {n c : Nat} {o : Nat → Int} (h : Rd w a n o) (hc : n ≤ c) : AN w ⟨s, a, n, c⟩ (valN s n o) := ⟨⟨o, h, rfl⟩, hc⟩
theorem KN.zero (w : World) (a : Option Addr) (c : Nat) : KN w ⟨false, a, 0, c⟩ 0 := by
  refine ⟨rfl, ?_, Rd.nil w a _, Nat.zero_le _⟩
  exact lenB_zero.symm
/-! What comes back. -/
def RN (w : World) (z : Int) (e : Ending) (w' : World) : Prop := ∃ x : NV, e = .returned x.v ∧ DN w' w.heap.size x z ∧ Below w.heap.size w w'
theorem RetO.rn {w : World} {z : Int} {e : Ending} {w' : World} (h : RetO w z e w') : RN w z e w' := by
  obtain ⟨a, c, rfl, ho, hb⟩ := h
  exact ⟨⟨_, a, _, c⟩, rfl, ⟨rfl, rfl, ho.own⟩, hb⟩
def RNN (w : World) (q r c : Int) (e : Ending) (w' : World) : Prop := ∃ x y : NV, e = .returned (.tuple #[x.v, y.v, .int .i64 c]) ∧ DN w' w.heap.size x q ∧ DN w' w.heap.size y r ∧ Below w.heap.size w w'
theorem RNN.zero {w : World} {c : Int} {e : Ending} {w' : World} (h : e = .returned (.tuple #[numV false none 0 0, numV false none 0 0, .int .i64 c]) ∧ Below w.heap.size w w') : RNN w 0 0 c e w' := by
  obtain ⟨rfl, hb⟩ := h
  have h0 : DN w' w.heap.size ⟨false, none, 0, 0⟩ 0 := ⟨rfl, lenB_zero.symm, ⟨Nat.le_refl _, Or.inl ⟨rfl, rfl, rfl⟩, fun i h => absurd h (Nat.not_lt_zero i)⟩⟩
  exact ⟨_, _, rfl, h0, h0, hb⟩
theorem mulN {w : World} {x y : NV} {p q : Int} (h1 : AN w x p) (b1 : x.n ≤ 10000000) (h2 : AN w y q) (b2 : y.n ≤ 10000000) : Calls Tryz.prog 30 #[x.v, y.v] w (RN w (p * q)) := (mulA h1 b1 h2 b2).mono fun _ _ h => h.rn
theorem ofN (n : Int) (w : World) (h1 : -9223372036854775808 ≤ n) (h2 : n ≤ 9223372036854775807) : Calls Tryz.prog 32 #[.int .i64 n] w (RN w n) := (ofA n w h1 h2).mono fun _ _ h => h.rn
theorem ofZ (n z : Int) (h : n = z) (w : World) (h1 : -9223372036854775808 ≤ n) (h2 : n ≤ 9223372036854775807) : Calls Tryz.prog 32 #[.int .i64 n] w (RN w z) := by subst h; exact ofN n w h1 h2
theorem signN {w : World} {x : NV} {p : Int} (h1 : AN w x p) (b1 : x.n ≤ 10000000) : Calls Tryz.prog 31 #[x.v] w fun e w' => e = .returned (.int .i64 (cmpZ p 0)) ∧ Below w.heap.size w w' := signA h1 b1
theorem textN {w : World} {x : NV} {p : Int} (h1 : AN w x p) (b1 : x.n ≤ 10000000) (ht : Tab w) : Calls Tryz.prog 53 #[x.v] w fun e w' => e = .returned (.string ⟨(Lib.itoa p).toArray⟩) ∧ Below w.heap.size w w' := textA h1 b1 ht
theorem checkN {w : World} {x : NV} {p : Int} (h1 : KN w x p) (b1 : x.n ≤ 10000000) : Calls Tryz.prog 28 #[x.v] w fun e w' => e = .returned (.bool true) ∧ Below w.heap.size w w' := by
  have h := h1.r
  rw [h.1]
  exact checkC h.2 (by rw [← h1.n]; exact b1)
theorem checkBN {w : World} {x : NV} (h1 : XN w x) (b1 : x.n ≤ 10000000) : Calls Tryz.prog 28 #[x.v] w fun e w' => e = .returned (.bool false) ∧ Below w.heap.size w w' := by
  obtain ⟨o, hr, hk⟩ := h1.ex
  exact badC x.s x.a x.n x.c o w hr (by omega) hk
open Classical in
theorem sameN {w : World} {x y : NV} {p q : Int} (h1 : KN w x p) (b1 : x.n ≤ 10000000) (h2 : KN w y q) (b2 : y.n ≤ 10000000) : Calls Tryz.prog 55 #[x.v, y.v] w fun e w' => e = .returned (.bool (decide (p = q))) ∧ Below w.heap.size w w' := by
  have k1 := h1.r
  have k2 := h2.r
  rw [k1.1, k2.1]
  exact sameC k1.2 (by rw [← h1.n]; exact b1) k2.2 (by rw [← h2.n]; exact b2)
theorem sameTN {w : World} {x y : NV} {p q : Int} (h1 : KN w x p) (b1 : x.n ≤ 10000000) (h2 : KN w y q) (b2 : y.n ≤ 10000000) (e : p = q) : Calls Tryz.prog 55 #[x.v, y.v] w fun e w' => e = .returned (.bool true) ∧ Below w.heap.size w w' := by
  have h := sameN h1 b1 h2 b2
  rw [decide_eq_true e] at h
  exact h

/-! Has one of them more parts than are gone through? -/
/-! For drawn regions. -/
/-- The block in which a number's list lies. -/
def NV.blk (x : NV) (b : Nat) : Prop := ∃ p : Addr, x.a = some p ∧ p.block = b
theorem Own.kept {w w' : World} {lo : Nat} {a : Option Addr} {n c : Nat} {o : Nat → Int} (h : Own 80 w lo a n c o) (hk : ∀ b, (∃ p : Addr, a = some p ∧ p.block = b) → w'.heap[b]? = w.heap[b]?) : Own 80 w' lo a n c o :=
  ⟨h.le, h.place.imp id fun ⟨g, cur, ha, hg, hc, hr⟩ => ⟨g, cur, ha, hg, (hk g ⟨_, ha, rfl⟩).trans hc, hr⟩, h.rng⟩
theorem DN.kept {w w' : World} {lo : Nat} {x : NV} {z : Int} (h : DN w lo x z) (hk : ∀ b, x.blk b → w'.heap[b]? = w.heap[b]?) : DN w' lo x z := ⟨h.s, h.n, h.own.kept hk⟩
theorem DN.blks {w : World} {lo : Nat} {x : NV} {z : Int} (h : DN w lo x z) : ∀ b, x.blk b → lo ≤ b ∧ b < w.heap.size := fun b ⟨p, hp, e⟩ => by
  have h1 := h.own.blk hp
  rw [← e]; exact h1.2
structure NV2 where
  p : NV
  q : NV
abbrev NV2.v (c : Int) (x : NV2) : Value := .tuple #[x.p.v, x.q.v, .int .i64 c]
def NV2.blk (x : NV2) (b : Nat) : Prop := x.p.blk b ∨ x.q.blk b
theorem NV2.inj (c : Int) (x y : NV2) (h : x.v c = y.v c) : x = y := by
  simp only [Value.tuple.injEq, Array.mk.injEq, List.cons.injEq, and_true] at h
  cases x; cases y
  have h1 := NV.inj h.1
  have h2 := NV.inj h.2
  dsimp only at h1 h2
  rw [h1, h2]
theorem shp4 {w : World} {g : Nat} {T : TypeId} (h : Go.FreshS.Shp w g T 4) : ∃ x y z u, Bxs w g T [x, y, z, u] := by
  obtain ⟨c, hc, hn⟩ := h
  obtain ⟨l⟩ := c
  match l, hn with
  | [x, y, z, u], _ => exact ⟨x, y, z, u, hc⟩
theorem shaped_set {w : World} {g i : Nat} {T : TypeId} {l : List Value} (h : Bxs w g T l) (v : Value) : Go.FreshS.Shaped w (w.setCell ⟨g, i, none⟩ v) := by
  refine ⟨by simp [World.setCell], fun k c T' hk => ?_⟩
  by_cases e : k = g
  · subst e
    have h' : w.heap[k]? = some (.cells l.toArray T (0, 0)) := h
    rw [h'] at hk
    cases hk
    exact ⟨_, h.put i v, by simp⟩
  · exact ⟨c, (Below.heap_setCell _ _ _ _ e).trans hk, rfl⟩
theorem Shaped.trans {a b c : World} (h : Go.FreshS.Shaped a b) (k : Go.FreshS.Shaped b c) : Go.FreshS.Shaped a c := by
  refine ⟨Nat.le_trans h.size k.size, fun i x T hx => ?_⟩
  obtain ⟨y, hy, e⟩ := h.shape i x T hx
  obtain ⟨z, hz, f⟩ := k.shape i y T hy
  exact ⟨z, hz, f.trans e⟩
theorem ne_own {b g : Nat} (h : ¬ Go.FreshS.ownOf (.pointer (some ⟨g, 0, none⟩)) b) : b ≠ g := fun e => h (by rw [e]; rfl)
theorem store4 {V w : World} {B g : Nat} {T : TypeId} {x y z x' : Value} (hb : Below B V w) (hB : B ≤ g) (h : Bxs w g T [x, y, z, x']) (u v s t : Value) :
    (Below B V ((((w.setCell ⟨g, 0, none⟩ u).setCell ⟨g, 1, none⟩ v).setCell ⟨g, 2, none⟩ s).setCell ⟨g, 3, none⟩ t) ∧ Go.FreshS.Shaped w ((((w.setCell ⟨g, 0, none⟩ u).setCell ⟨g, 1, none⟩ v).setCell ⟨g, 2, none⟩ s).setCell ⟨g, 3, none⟩ t) ∧ ((((w.setCell ⟨g, 0, none⟩ u).setCell ⟨g, 1, none⟩ v).setCell ⟨g, 2, none⟩ s).setCell ⟨g, 3, none⟩ t).heap.size = w.heap.size ∧ ∀ b, ¬ Go.FreshS.ownOf (.pointer (some ⟨g, 0, none⟩)) b → ((((w.setCell ⟨g, 0, none⟩ u).setCell ⟨g, 1, none⟩ v).setCell ⟨g, 2, none⟩ s).setCell ⟨g, 3, none⟩ t).heap[b]? = w.heap[b]?) ∧ Go.FreshS.Stored ((((w.setCell ⟨g, 0, none⟩ u).setCell ⟨g, 1, none⟩ v).setCell ⟨g, 2, none⟩ s).setCell ⟨g, 3, none⟩ t) T (.pointer (some ⟨g, 0, none⟩)) (.agg #[u, v, s, t]) :=
  ⟨⟨(((hb.setCell hB u).setCell hB v).setCell hB s).setCell hB t, Shaped.trans (Shaped.trans (Shaped.trans (shaped_set h u) (shaped_set (h.put 0 u) v)) (shaped_set ((h.put 0 u).put 1 v) s)) (shaped_set (((h.put 0 u).put 1 v).put 2 s) t), by simp [World.setCell], fun b hn => (((Below.heap_setCell _ _ _ _ (ne_own hn)).trans (Below.heap_setCell _ _ _ _ (ne_own hn))).trans (Below.heap_setCell _ _ _ _ (ne_own hn))).trans (Below.heap_setCell _ _ _ _ (ne_own hn))⟩, ⟨g, rfl, (((h.put 0 u).put 1 v).put 2 s).put 3 t⟩⟩
theorem stored_bxs {w : World} {T : TypeId} {g : Nat} {c : List Value} (h : Go.FreshS.Stored w T (.pointer (some ⟨g, 0, none⟩)) (.agg c.toArray)) : Bxs w g T c := by
  obtain ⟨g', e, h⟩ := h
  cases e
  exact h
theorem Own.setBxs {w : World} {lo : Nat} {a : Option Addr} {n c : Nat} {o : Nat → Int} (h : Own 80 w lo a n c o) {g : Nat} {t : TypeId} {l : List Value} (hb : Bxs w g t l) (ht : 80 ≠ t) (i : Nat) (v : Value) : Own 80 (w.setCell ⟨g, i, none⟩ v) lo a n c o := by
  refine ⟨h.le, h.place.imp id fun ⟨p, cur, ha, hg, hc, hr⟩ => ⟨p, cur, ha, hg, ?_, hr⟩, h.rng⟩
  rw [Below.heap_setCell _ _ _ _ ?_]
  · exact hc
  · intro e
    have e : p = g := e
    subst e
    have hb' : w.heap[p]? = some (.cells l.toArray t (0, 0)) := hb
    rw [hc] at hb'
    cases hb'
    exact ht rfl
def notInt : Value → Bool
  | .int _ _ => false
  | _ => true
theorem Rd.setBxs {w : World} {a : Option Addr} {n : Nat} {o : Nat → Int} (h : Rd w a n o) {g : Nat} {t : TypeId} {l : List Value} (hb : Bxs w g t l) (hl : l.all notInt = true) (i : Nat) (v : Value) : Rd (w.setCell ⟨g, i, none⟩ v) a n o := by
  refine ⟨fun hn => ?_, h.rng⟩
  obtain ⟨b, off, e, hc⟩ := h.cells hn
  refine ⟨b, off, e, fun j hj => ?_⟩
  have hbg : b ≠ g := fun e2 => by
    subst e2
    have h1 := hc j hj
    rw [cell_of_row _ _ _ _ _ _ hb] at h1
    have h2 : uc o j ∈ l := by
      have : l.toArray[off + j]? = some (uc o j) := h1
      rw [List.getElem?_toArray] at this
      exact List.mem_of_getElem? this
    have h3 := List.all_eq_true.1 hl _ h2
    simp [notInt] at h3
  rw [← hc j hj]
  simp only [World.cell?]
  rw [Below.heap_setCell _ _ _ _ (fun e2 => hbg e2)]
theorem KN.setBxs {w : World} {x : NV} {z : Int} (h : KN w x z) {g : Nat} {t : TypeId} {l : List Value} (hb : Bxs w g t l) (hl : l.all notInt = true) (i : Nat) (v : Value) : KN (w.setCell ⟨g, i, none⟩ v) x z := ⟨h.s, h.n, h.rd.setBxs hb hl i v, h.le⟩
theorem DN.setBxs {w : World} {lo : Nat} {x : NV} {z : Int} (h : DN w lo x z) {g : Nat} {t : TypeId} {l : List Value} (hb : Bxs w g t l) (ht : 80 ≠ t) (i : Nat) (v : Value) : DN (w.setCell ⟨g, i, none⟩ v) lo x z := ⟨h.s, h.n, h.own.setBxs hb ht i v⟩
end Go.Proofs.YtklidpbdgliemaaGreatDoor.Limb
namespace Go.Proofs.YtklidpbdgliemaaGreatDoor.Limb
open Go.RowKit Go.Sort

theorem bodyT_len (l : List UInt8) : (bodyT l).length ≤ l.length := by
  unfold bodyT Lib.trimPrefix
  split
  · simp
  · exact Nat.le_refl _
theorem parse_any (s : ByteArray) (w : World) (hs : s.size ≤ 9223372036854775807) : Calls Tryz.prog 41 #[.string s] w (ParseP w (codeT s.data.toList) (numT s.data.toList)) := by
  obtain ⟨l, hl⟩ : ∃ l, l = bodyT s.data.toList := ⟨_, rfl⟩
  obtain ⟨ng, hg⟩ : ∃ ng, ng = negT s.data.toList := ⟨_, rfl⟩
  have hsz : (ByteArray.mk l.toArray).size ≤ 9223372036854775807 := by
    show l.toArray.size ≤ _
    rw [List.size_toArray, hl]
    have h1 := bodyT_len s.data.toList
    rw [Array.length_toList] at h1
    exact Nat.le_trans h1 hs
  have bad : ¬ formT s.data.toList → codeT s.data.toList = 4 ∧ numT s.data.toList = 0 := fun h => by
    unfold codeT numT
    rw [if_neg h, if_neg (fun h2 => h h2.1)]
    exact ⟨rfl, rfl⟩
  by_cases h0 : l = []
  · obtain ⟨e1, e2⟩ := bad fun h => h.1 (by rw [← hl]; exact h0)
    rw [e1, e2]
    exact (parse_empty s l ng w hl hg hsz h0).mono fun _ _ h => parseP_err h
  by_cases h1 : ∀ c ∈ l, isDig c = true
  · by_cases h2 : l.head? = some 48 ∧ (ng = true ∨ l ≠ [48])
    · obtain ⟨e1, e2⟩ := bad fun h => h.2.2 (by rw [← hl, ← hg]; exact h2)
      rw [e1, e2]
      obtain ⟨r, hr⟩ : ∃ r, l = 48 :: r := by
        cases l with
        | nil => exact absurd rfl h0
        | cons c r => exact ⟨r, by have := h2.1; simp at this; rw [this]⟩
      exact (parse_nought s l r ng w hl hg hsz hr h1 (h2.2.imp id fun h e => h (by rw [hr, e]))).mono fun _ _ h => parseP_err h
    · have hf : formT s.data.toList := ⟨by rw [← hl]; exact h0, by rw [← hl]; exact h1, by rw [← hl, ← hg]; exact h2⟩
      by_cases h3 : 200 < l.length
      · have e1 : codeT s.data.toList = 3 := by unfold codeT; rw [if_pos hf, if_pos (by rw [← hl]; exact h3)]
        have e2 : numT s.data.toList = 0 := by unfold numT; rw [if_neg (fun h => by have := h.2; rw [← hl] at this; omega)]
        rw [e1, e2]
        refine (parse_long s l ng w hl hg hsz h1 h3 fun e => ?_).mono fun _ _ h => parseP_err h
        exact h2 ⟨e, Or.inr fun e2 => by rw [e2] at h3; simp at h3⟩
      · have e1 : codeT s.data.toList = 0 := by unfold codeT; rw [if_pos hf, if_neg (by rw [← hl]; exact h3)]
        rw [e1]
        refine parse_ok s l ng w _ hl hg hsz h1 h0 (by omega) ?_ (by unfold numT; rw [if_pos ⟨hf, by rw [← hl]; omega⟩, ← hl, ← hg])
        by_cases e : l.head? = some 48
        · right
          by_cases e3 : ng = true ∨ l ≠ [48]
          · exact absurd ⟨e, e3⟩ h2
          · refine ⟨Classical.byContradiction fun h => e3 (Or.inr h), ?_⟩
            cases hn : ng with
            | false => rfl
            | true => exact absurd (Or.inl hn) e3
        · exact Or.inl e
  · obtain ⟨e1, e2⟩ := bad fun h => h1 (by rw [hl]; exact h.2.1)
    rw [e1, e2]
    exact (parse_odd s l ng w hl hg hsz h0 h1).mono fun _ _ h => parseP_err h
/-- A number and a number of an error. -/
def RNE (w : World) (z c : Int) (e : Ending) (w' : World) : Prop := ∃ x : NV, e = .returned (.tuple #[x.v, .int .i64 c]) ∧ DN w' w.heap.size x z ∧ Below w.heap.size w w'
theorem parseN (s : ByteArray) (w : World) (hs : s.size ≤ 9223372036854775807) : Calls Tryz.prog 41 #[.string s] w (RNE w (numT s.data.toList) (codeT s.data.toList)) := by
  refine (parse_any s w hs).mono ?_
  rintro e w' ⟨a, rfl, ho, hb⟩
  exact ⟨⟨_, a, _, _⟩, rfl, ⟨rfl, rfl, ho⟩, hb⟩
/-- How great a number that is read can be. -/
theorem numT_len (l : List UInt8) : lenB (numT l).natAbs ≤ 23 := by
  unfold numT
  split
  · rename_i h
    have h1 := decV_lt (bodyT l) h.1.2.1
    have h2 : 10 ^ (bodyT l).length ≤ 10 ^ 200 := Nat.pow_le_pow_right (by omega) h.2
    have h3 : decV (bodyT l) < pw 23 := by
      rw [pw_ten]
      exact Nat.lt_of_lt_of_le h1 (Nat.le_trans h2 (Nat.pow_le_pow_right (by omega) (by omega)))
    refine lenB_le ?_
    split
    · rw [Int.natAbs_neg, Int.natAbs_natCast]; exact h3
    · rw [Int.natAbs_natCast]; exact h3
  · rw [show (0 : Int).natAbs = 0 from rfl, lenB_zero]; omega
end Go.Proofs.YtklidpbdgliemaaGreatDoor.Limb
namespace Go.Proofs.YtklidpbdgliemaaGreatDoor.Limb
open Go.RowKit Go.Sort

/-- What a fraction's value is made of. -/
structure FV where
  t : NV
  l : NV
abbrev FV.v (x : FV) : Value := .agg #[.bool x.t.s, .slice x.t.a x.t.n x.t.c, .bool x.l.s, .slice x.l.a x.l.n x.l.c]
theorem FV.inj {x y : FV} (h : x.v = y.v) : x = y := by
  obtain ⟨⟨a, b, c, d⟩, ⟨e, f, g, i⟩⟩ := x
  obtain ⟨⟨a', b', c', d'⟩, ⟨e', f', g', i'⟩⟩ := y
  simp only [Value.agg.injEq, Array.mk.injEq, List.cons.injEq, Value.bool.injEq, Value.slice.injEq, and_true] at h
  obtain ⟨rfl, ⟨rfl, rfl, rfl⟩, rfl, rfl, rfl, rfl⟩ := h
  rfl
/-- It stands for q, whether it may be or not. -/
structure AF (w : World) (x : FV) (q : Rat) : Prop where
  ex : ∃ o1 o2, Rd w x.t.a x.t.n o1 ∧ Rd w x.l.a x.l.n o2 ∧ valF x.t.s x.t.n o1 x.l.s x.l.n o2 = q
  l1 : x.t.n ≤ x.t.c
  l2 : x.l.n ≤ x.l.c
/-- It may be. -/
structure KF (w : World) (x : FV) (q : Rat) : Prop where
  t : KN w x.t q.num
  l : KN w x.l (q.den : Int)
/-- A call has made it, from block lo on. -/
structure DF (w : World) (lo : Nat) (x : FV) (q : Rat) : Prop where
  t : DN w lo x.t q.num
  l : DN w lo x.l (q.den : Int)
  ap : Apart2 x.t.a x.l.a
/-- It may not be. -/
structure BF (w : World) (x : FV) : Prop where
  ex : ∃ o1 o2, Rd w x.t.a x.t.n o1 ∧ Rd w x.l.a x.l.n o2 ∧ ¬ okF x.t.s x.t.n o1 x.l.s x.l.n o2
  l1 : x.t.n ≤ x.t.c
  l2 : x.l.n ≤ x.l.c
/-- Its lists are not too long. -/
abbrev LF (x : FV) (k : Nat) : Prop := x.t.n ≤ k ∧ x.l.n ≤ k
/-- A fraction's numbers have so many parts at most. -/
structure LQ (q : Rat) (k : Nat) : Prop where
  t : lenB q.num.natAbs ≤ k
  l : lenB (q.den : Int).natAbs ≤ k
theorem AF.below {w w' : World} {x : FV} {q : Rat} (h : AF w x q) (hb : Below w.heap.size w w') : AF w' x q := by
  obtain ⟨o1, o2, h1, h2, h3⟩ := h.ex
  exact ⟨⟨o1, o2, h1.below hb, h2.below hb, h3⟩, h.l1, h.l2⟩
theorem KF.below {w w' : World} {x : FV} {q : Rat} (h : KF w x q) (hb : Below w.heap.size w w') : KF w' x q := ⟨h.t.below hb, h.l.below hb⟩
theorem DF.below {w w' : World} {lo : Nat} {x : FV} {q : Rat} (h : DF w lo x q) (hb : Below w.heap.size w w') : DF w' lo x q := ⟨h.t.below hb, h.l.below hb, h.ap⟩
theorem BF.below {w w' : World} {x : FV} (h : BF w x) (hb : Below w.heap.size w w') : BF w' x := by
  obtain ⟨o1, o2, h1, h2, h3⟩ := h.ex
  exact ⟨⟨o1, o2, h1.below hb, h2.below hb, h3⟩, h.l1, h.l2⟩
theorem DF.mono {w : World} {lo lo' : Nat} {x : FV} {q : Rat} (h : DF w lo x q) (hl : lo' ≤ lo) : DF w lo' x q := ⟨h.t.mono hl, h.l.mono hl, h.ap⟩
theorem DF.k {w : World} {lo : Nat} {x : FV} {q : Rat} (h : DF w lo x q) : KF w x q := ⟨h.t.k, h.l.k⟩
theorem DF.setBxs {w : World} {lo : Nat} {x : FV} {q : Rat} (h : DF w lo x q) {g : Nat} {t : TypeId} {l : List Value} (hb : Bxs w g t l) (ht : 80 ≠ t) (i : Nat) (v : Value) : DF (w.setCell ⟨g, i, none⟩ v) lo x q := ⟨h.t.setBxs hb ht i v, h.l.setBxs hb ht i v, h.ap⟩
theorem KF.setBxs {w : World} {x : FV} {q : Rat} (h : KF w x q) {g : Nat} {t : TypeId} {l : List Value} (hb : Bxs w g t l) (hl : l.all notInt = true) (i : Nat) (v : Value) : KF (w.setCell ⟨g, i, none⟩ v) x q := ⟨h.t.setBxs hb hl i v, h.l.setBxs hb hl i v⟩
theorem KF.any {w : World} {x : FV} {q : Rat} (h : KF w x q) : AF w x q := by
  refine ⟨⟨_, _, h.t.rd, h.l.rd, ?_⟩, h.t.le, h.l.le⟩
  rw [h.t.s, h.t.n, h.l.s, h.l.n]
  exact valF_canon q
theorem BF.any {w : World} {x : FV} (h : BF w x) : AF w x 0 := by
  obtain ⟨o1, o2, h1, h2, h3⟩ := h.ex
  exact ⟨⟨o1, o2, h1, h2, valF_not h3⟩, h.l1, h.l2⟩
theorem KF.len {w : World} {x : FV} {q : Rat} {k m : Nat} (h : KF w x q) (hz : LQ q k) (hk : k ≤ m) : LF x m := ⟨h.t.len hz.t hk, h.l.len hz.l hk⟩
theorem LQ.up {q : Rat} {k m : Nat} (h : LQ q k) (hk : k ≤ m) : LQ q m := ⟨Nat.le_trans h.t hk, Nat.le_trans h.l hk⟩
theorem LF.up {x : FV} {k m : Nat} (h : LF x k) (hk : k ≤ m) : LF x m := ⟨Nat.le_trans h.1 hk, Nat.le_trans h.2 hk⟩
theorem LQ.add {x y : Rat} {k m : Nat} (h1 : LQ x k) (h2 : LQ y k) (hm : 2 * k + 1 ≤ m) : LQ (x + y) m := by
  have h := add_len h1.t h1.l h2.t h2.l
  exact ⟨by omega, by omega⟩
theorem LQ.sub {x y : Rat} {k m : Nat} (h1 : LQ x k) (h2 : LQ y k) (hm : 2 * k + 1 ≤ m) : LQ (x - y) m := by
  have h := sub_len h1.t h1.l h2.t h2.l
  exact ⟨by omega, by omega⟩
theorem LQ.mul {x y : Rat} {k m : Nat} (h1 : LQ x k) (h2 : LQ y k) (hm : 2 * k ≤ m) : LQ (x * y) m := by
  have h := mul_len h1.t h1.l h2.t h2.l
  exact ⟨by omega, by omega⟩
theorem LQ.div {x y : Rat} {k m : Nat} (hy : y ≠ 0) (h1 : LQ x k) (h2 : LQ y k) (hm : 2 * k ≤ m) : LQ (x / y) m := by
  have h := div_len hy h1.t h1.l h2.t h2.l
  exact ⟨by omega, by omega⟩
theorem LQ.int {n : Int} (h1 : -9223372036854775808 ≤ n) (h2 : n ≤ 9223372036854775807) : LQ (n : Rat) 3 := ⟨by rw [Rat.num_intCast]; exact len1 h1 h2, by rw [Rat.den_intCast]; exact len1 (by decide) (by decide)⟩
/-- A raw fraction: it may be, or it may not be. -/
theorem KF.raw {w : World} {s1 : Bool} {a1 : Option Addr} {n1 c1 : Nat} {o1 : Nat → Int} {s2 : Bool} {a2 : Option Addr} {n2 c2 : Nat} {o2 : Nat → Int} (h1 : Rd w a1 n1 o1) (hc1 : n1 ≤ c1) (h2 : Rd w a2 n2 o2) (hc2 : n2 ≤ c2) (hk : okF s1 n1 o1 s2 n2 o2) : KF w ⟨⟨s1, a1, n1, c1⟩, ⟨s2, a2, n2, c2⟩⟩ (valF s1 n1 o1 s2 n2 o2) := by
  obtain ⟨e1, e2⟩ := valF_ok hk
  refine ⟨?_, ?_⟩
  · rw [e1]; exact KN.raw h1 hc1 hk.1
  · rw [e2]; exact KN.raw h2 hc2 hk.2.1
theorem BF.raw {w : World} {s1 : Bool} {a1 : Option Addr} {n1 c1 : Nat} {o1 : Nat → Int} {s2 : Bool} {a2 : Option Addr} {n2 c2 : Nat} {o2 : Nat → Int} (h1 : Rd w a1 n1 o1) (hc1 : n1 ≤ c1) (h2 : Rd w a2 n2 o2) (hc2 : n2 ≤ c2) (hk : ¬ okF s1 n1 o1 s2 n2 o2) : BF w ⟨⟨s1, a1, n1, c1⟩, ⟨s2, a2, n2, c2⟩⟩ := ⟨⟨o1, o2, h1, h2, hk⟩, hc1, hc2⟩
theorem AF.raw {w : World} {s1 : Bool} {a1 : Option Addr} {n1 c1 : Nat} {o1 : Nat → Int} {s2 : Bool} {a2 : Option Addr} {n2 c2 : Nat} {o2 : Nat → Int} (h1 : Rd w a1 n1 o1) (hc1 : n1 ≤ c1) (h2 : Rd w a2 n2 o2) (hc2 : n2 ≤ c2) : AF w ⟨⟨s1, a1, n1, c1⟩, ⟨s2, a2, n2, c2⟩⟩ (valF s1 n1 o1 s2 n2 o2) := ⟨⟨o1, o2, h1, h2, rfl⟩, hc1, hc2⟩
theorem AF.len {w : World} {x : FV} {q : Rat} {k : Nat} (h : AF w x q) (hl : LF x k) : LQ q (k + 1) := by
  obtain ⟨o1, o2, h1, h2, h3⟩ := h.ex
  have h4 := valF_len (s1 := x.t.s) (s2 := x.l.s) h1.rng h2.rng
  rw [h3] at h4
  exact ⟨by omega, by omega⟩
/-! What comes back. -/
def RF (w : World) (q : Rat) (e : Ending) (w' : World) : Prop := ∃ x : FV, e = .returned x.v ∧ DF w' w.heap.size x q ∧ Below w.heap.size w w'
theorem FracR.rf {w : World} {q : Rat} {e : Ending} {w' : World} (h : FracR w q.num (q.den : Int) e w') : RF w q e w' := by
  obtain ⟨a1, a2, rfl, h1, h2, ap, hb⟩ := h
  exact ⟨⟨⟨_, a1, _, _⟩, ⟨_, a2, _, _⟩⟩, rfl, ⟨⟨rfl, rfl, h1⟩, ⟨rfl, rfl, h2⟩, ap⟩, hb⟩
/-- A fraction and a number of an error. -/
def RFE (w : World) (q : Rat) (c : Int) (e : Ending) (w' : World) : Prop := ∃ x : FV, e = .returned (.tuple #[x.v, .int .i64 c]) ∧ DF w' w.heap.size x q ∧ Below w.heap.size w w'
theorem MakeP.rfe {w : World} {q : Rat} {e : Ending} {w' : World} (h : MakeP w 0 q.num (q.den : Int) e w') : RFE w q 0 e w' := by
  obtain ⟨a1, a2, rfl, h1, h2, ap, hb⟩ := h
  exact ⟨⟨⟨_, a1, _, _⟩, ⟨_, a2, _, _⟩⟩, rfl, ⟨⟨rfl, rfl, h1⟩, ⟨rfl, rfl, h2⟩, ap⟩, hb⟩
abbrev NOF : Value := .agg #[.bool false, .slice none 0 0, .bool false, .slice none 0 0]
def RFX (w : World) (c : Int) (e : Ending) (w' : World) : Prop := e = .returned (.tuple #[NOF, .int .i64 c]) ∧ Below w.heap.size w w'
def RFZ (w : World) (c : Int) (e : Ending) (w' : World) : Prop := ∃ x : FV, e = .returned (.tuple #[x.v, .int .i64 c]) ∧ Below w.heap.size w w'
theorem MakeP.rfz {w : World} {c p q : Int} {e : Ending} {w' : World} (h : MakeP w c p q e w') : RFZ w c e w' := by
  obtain ⟨a1, a2, rfl, h1, h2, ap, hb⟩ := h
  exact ⟨⟨⟨_, a1, _, _⟩, ⟨_, a2, _, _⟩⟩, rfl, hb⟩
theorem qadd {w : World} {x y : FV} {p q : Rat} (h1 : AF w x p) (b1 : LF x 900000) (h2 : AF w y q) (b2 : LF y 900000) : Calls Tryz.prog 26 #[x.v, y.v] w (RF w (p + q)) := by
  obtain ⟨o1, o2, r1, r2, e1⟩ := h1.ex
  obtain ⟨o3, o4, r3, r4, e2⟩ := h2.ex
  exact (fadd_any x.t.s x.t.a x.t.n x.t.c o1 x.l.s x.l.a x.l.n x.l.c o2 y.t.s y.t.a y.t.n y.t.c o3 y.l.s y.l.a y.l.n y.l.c o4 w p q e1.symm e2.symm r1 (by omega) h1.l1 r2 (by omega) h1.l2 r3 (by omega) h2.l1 r4 (by omega) h2.l2).mono fun _ _ h => FracR.rf h
theorem qsub {w : World} {x y : FV} {p q : Rat} (h1 : AF w x p) (b1 : LF x 900000) (h2 : AF w y q) (b2 : LF y 900000) : Calls Tryz.prog 33 #[x.v, y.v] w (RF w (p - q)) := by
  obtain ⟨o1, o2, r1, r2, e1⟩ := h1.ex
  obtain ⟨o3, o4, r3, r4, e2⟩ := h2.ex
  exact (fsub_any x.t.s x.t.a x.t.n x.t.c o1 x.l.s x.l.a x.l.n x.l.c o2 y.t.s y.t.a y.t.n y.t.c o3 y.l.s y.l.a y.l.n y.l.c o4 w p q e1.symm e2.symm r1 (by omega) h1.l1 r2 (by omega) h1.l2 r3 (by omega) h2.l1 r4 (by omega) h2.l2).mono fun _ _ h => FracR.rf h
theorem qmul {w : World} {x y : FV} {p q : Rat} (h1 : AF w x p) (b1 : LF x 900000) (h2 : AF w y q) (b2 : LF y 900000) : Calls Tryz.prog 27 #[x.v, y.v] w (RF w (p * q)) := by
  obtain ⟨o1, o2, r1, r2, e1⟩ := h1.ex
  obtain ⟨o3, o4, r3, r4, e2⟩ := h2.ex
  exact (fmul_any x.t.s x.t.a x.t.n x.t.c o1 x.l.s x.l.a x.l.n x.l.c o2 y.t.s y.t.a y.t.n y.t.c o3 y.l.s y.l.a y.l.n y.l.c o4 w p q e1.symm e2.symm r1 (by omega) h1.l1 r2 (by omega) h1.l2 r3 (by omega) h2.l1 r4 (by omega) h2.l2).mono fun _ _ h => FracR.rf h
theorem qof (n : Int) (w : World) (h1 : -9223372036854775808 ≤ n) (h2 : n ≤ 9223372036854775807) : Calls Tryz.prog 38 #[.int .i64 n] w (RF w (n : Rat)) :=
  (fof_any n w h1 h2).mono fun _ _ h => FracR.rf (by rw [Rat.num_intCast, Rat.den_intCast]; exact h)
/-- Which of two fractions is greater. -/
def cmpQ (x y : Rat) : Int := cmpZ (x.num * (y.den : Int)) (y.num * (x.den : Int))
theorem qcmp {w : World} {x y : FV} {p q : Rat} (h1 : AF w x p) (b1 : LF x 900000) (h2 : AF w y q) (b2 : LF y 900000) : Calls Tryz.prog 37 #[x.v, y.v] w fun e w' => e = .returned (.int .i64 (cmpQ p q)) ∧ Below w.heap.size w w' := by
  obtain ⟨o1, o2, r1, r2, e1⟩ := h1.ex
  obtain ⟨o3, o4, r3, r4, e2⟩ := h2.ex
  exact fcmp_any x.t.s x.t.a x.t.n x.t.c o1 x.l.s x.l.a x.l.n x.l.c o2 y.t.s y.t.a y.t.n y.t.c o3 y.l.s y.l.a y.l.n y.l.c o4 w p q e1.symm e2.symm r1 (by omega) h1.l1 r2 (by omega) h1.l2 r3 (by omega) h2.l1 r4 (by omega) h2.l2
theorem qsign {w : World} {x : FV} {p : Rat} (h1 : AF w x p) (b1 : LF x 900000) : Calls Tryz.prog 36 #[x.v] w fun e w' => e = .returned (.int .i64 (cmpZ p.num 0)) ∧ Below w.heap.size w w' := by
  obtain ⟨o1, o2, r1, r2, e1⟩ := h1.ex
  exact fsign_any x.t.s x.t.a x.t.n x.t.c o1 x.l.s x.l.a x.l.n x.l.c o2 w p e1.symm r1 (by omega) h1.l1 r2 (by omega) h1.l2
open Classical in
theorem qcheck {w : World} {x : FV} {p : Rat} (h1 : KF w x p) (b1 : LF x 900000) : Calls Tryz.prog 14 #[x.v] w fun e w' => e = .returned (.bool true) ∧ Below w.heap.size w w' := by
  have h := fcheck_any x.t.s x.t.a x.t.n x.t.c _ x.l.s x.l.a x.l.n x.l.c _ w h1.t.rd (by omega) h1.t.le h1.l.rd (by omega) h1.l.le
  rw [decide_eq_true (by rw [h1.t.s, h1.t.n, h1.l.s, h1.l.n]; exact okF_canon p)] at h
  exact h
open Classical in
theorem qcheckB {w : World} {x : FV} (h1 : BF w x) (b1 : LF x 900000) : Calls Tryz.prog 14 #[x.v] w fun e w' => e = .returned (.bool false) ∧ Below w.heap.size w w' := by
  obtain ⟨o1, o2, r1, r2, hk⟩ := h1.ex
  have h := fcheck_any x.t.s x.t.a x.t.n x.t.c o1 x.l.s x.l.a x.l.n x.l.c o2 w r1 (by omega) h1.l1 r2 (by omega) h1.l2
  rw [decide_eq_false hk] at h
  exact h
/-- What may be, not written out. -/
theorem KF.okv {w : World} {x : FV} {p : Rat} (h : KF w x p) : okF x.t.s x.t.n (dgi p.num.natAbs) x.l.s x.l.n (dgi (p.den : Int).natAbs) := by
  rw [h.t.s, h.t.n, h.l.s, h.l.n]; exact okF_canon p
theorem KF.valv {w : World} {x : FV} {p : Rat} (h : KF w x p) : p = valF x.t.s x.t.n (dgi p.num.natAbs) x.l.s x.l.n (dgi (p.den : Int).natAbs) := by
  rw [h.t.s, h.t.n, h.l.s, h.l.n]; exact (valF_canon p).symm
theorem qdiv {w : World} {x y : FV} {p q : Rat} (h1 : KF w x p) (b1 : LF x 900000) (h2 : KF w y q) (b2 : LF y 900000) (hq : q ≠ 0) : Calls Tryz.prog 35 #[x.v, y.v] w (RFE w (p / q) 0) := by
  have h := fdiv_ok x.t.s x.t.a x.t.n x.t.c _ x.l.s x.l.a x.l.n x.l.c _ y.t.s y.t.a y.t.n y.t.c _ y.l.s y.l.a y.l.n y.l.c _ w h1.t.rd (by omega) h1.t.le h1.l.rd (by omega) h1.l.le h2.t.rd (by omega) h2.t.le h2.l.rd (by omega) h2.l.le h1.okv h2.okv p q h1.valv h2.valv
  rw [if_neg hq, if_neg hq] at h
  exact h.mono fun _ _ h => MakeP.rfe h
theorem qdiv0 {w : World} {x y : FV} {p q : Rat} (h1 : KF w x p) (b1 : LF x 900000) (h2 : KF w y q) (b2 : LF y 900000) (hq : q = 0) : Calls Tryz.prog 35 #[x.v, y.v] w (RFZ w 6) := by
  have h := fdiv_ok x.t.s x.t.a x.t.n x.t.c _ x.l.s x.l.a x.l.n x.l.c _ y.t.s y.t.a y.t.n y.t.c _ y.l.s y.l.a y.l.n y.l.c _ w h1.t.rd (by omega) h1.t.le h1.l.rd (by omega) h1.l.le h2.t.rd (by omega) h2.t.le h2.l.rd (by omega) h2.l.le h1.okv h2.okv p q h1.valv h2.valv
  rw [if_pos hq, if_pos hq] at h
  exact h.mono fun _ _ h => MakeP.rfz h
theorem KN.okv {w : World} {x : NV} {p : Int} (h : KN w x p) : okN x.s x.n (dgi p.natAbs) := by rw [h.s, h.n]; exact canon_ok p
theorem KN.valv {w : World} {x : NV} {p : Int} (h : KN w x p) : valN x.s x.n (dgi p.natAbs) = p := by rw [h.s, h.n]; exact canon_val p
theorem qmake {w : World} {x y : NV} {p q : Int} (h1 : KN w x p) (b1 : x.n ≤ 900000) (h2 : KN w y q) (b2 : y.n ≤ 900000) (hq : q ≠ 0) : Calls Tryz.prog 29 #[x.v, y.v] w (RFE w ((p : Rat) / (q : Rat)) 0) := by
  have h := make_ok x.s x.a x.n x.c _ y.s y.a y.n y.c _ w h1.rd (by omega) h1.le h2.rd (by omega) h2.le h1.okv h2.okv (by rw [h2.valv]; exact hq)
  rw [h1.valv, h2.valv, Rat.divInt_eq_div] at h
  exact h.mono fun _ _ h => MakeP.rfe h
theorem qmake0 {w : World} {x y : NV} {p q : Int} (h1 : KN w x p) (b1 : x.n ≤ 900000) (h2 : KN w y q) (b2 : y.n ≤ 900000) (hq : q = 0) : Calls Tryz.prog 29 #[x.v, y.v] w (RFX w 6) :=
  make_3 x.s x.a x.n x.c _ y.s y.a y.n y.c _ w h1.rd (by omega) h1.le h2.rd (by omega) h2.le h1.okv h2.okv (by rw [h2.valv]; exact hq)
end Go.Proofs.YtklidpbdgliemaaGreatDoor.Limb
namespace Go.Proofs.YtklidpbdgliemaaGreatDoor.Limb
open Go.RowKit Go.Sort

theorem rd_block {w : World} {a : Option Addr} {n : Nat} {o : Nat → Int} (h : Rd w a n o) (hn : 0 < n) : ∀ p, a = some p → p.block < w.heap.size := fun p hp => by
  obtain ⟨b, off, e, hc⟩ := h.cells hn
  rw [e] at hp
  cases hp
  exact block_lt_of_cell (hc 0 hn)
theorem qfit {w : World} {x : FV} {p : Rat} (h1 : AF w x p) (b1 : LF x 900000) : Calls Tryz.prog 51 #[x.v] w fun e w' => ∃ y : FV, e = .returned y.v ∧ KF w' y p ∧ Below w.heap.size w w' := by
  obtain ⟨o1, o2, r1, r2, e1⟩ := h1.ex
  have h := fof2_any x.t.s x.t.a x.t.n x.t.c o1 x.l.s x.l.a x.l.n x.l.c o2 w w.heap.size (Nat.le_refl _) r1 (by omega) h1.l1 (rd_block r1) r2 (by omega) h1.l2 (rd_block r2)
  rw [e1] at h
  refine h.mono ?_
  rintro e w' ⟨a1, c1, a2, c2, rfl, g1, l1, g2, l2, hb⟩
  exact ⟨⟨⟨_, a1, _, c1⟩, ⟨_, a2, _, c2⟩⟩, rfl, ⟨⟨rfl, rfl, g1.rd, l1⟩, ⟨rfl, rfl, g2.rd, l2⟩⟩, hb⟩
theorem unitN {w : World} {x : NV} {p : Int} (h1 : AN w x p) (b1 : x.n ≤ 10000000) : Calls Tryz.prog 45 #[x.v] w fun e w' => e = .returned (.bool (decide (p = 1))) ∧ Below w.heap.size w w' := by
  obtain ⟨o, hr, hv⟩ := h1.ex
  have h := unit_any x.s x.a x.n x.c o w hr b1 h1.le
  rw [hv] at h
  exact h
theorem cat3 (a b : List UInt8) : (⟨a.toArray⟩ : ByteArray) ++ ((⟨#[47]⟩ : ByteArray) ++ (⟨b.toArray⟩ : ByteArray)) = ⟨(a ++ 47 :: b).toArray⟩ := by
  apply ByteArray.ext
  simp
theorem nDig_le : ∀ (k n : Nat), n < 10 ^ (k + 1) → Lib.nDigits n ≤ k + 1
  | 0, n, h => by rw [Lib.nDigits_small (by simpa using h)]; omega
  | k + 1, n, h => by
    by_cases hn : n < 10
    · rw [Lib.nDigits_small hn]; omega
    · rw [Lib.nDigits_big hn]
      have := nDig_le k (n / 10) (by rw [Nat.pow_succ] at h; omega)
      omega
/-- How long a number's text can be. -/
theorem itoa_len {z : Int} {k : Nat} (h : lenB z.natAbs ≤ k) : (Lib.itoa z).length ≤ 9 * k + 2 := by
  have h1 : Lib.nDigits z.natAbs ≤ 9 * k + 1 := by
    refine nDig_le (9 * k) _ ?_
    have h2 := Nat.lt_of_lt_of_le (lt_pw_lenB z.natAbs) (pw_le h)
    rw [pw_ten] at h2
    exact Nat.lt_of_lt_of_le h2 (Nat.pow_le_pow_right (by omega) (by omega))
  by_cases hz : z < 0
  · rw [show z = -((z.natAbs : Nat) : Int) by omega, Lib.itoa_neg _ (by omega), List.length_cons, Lib.decDigits_length]; omega
  · rw [show z = ((z.natAbs : Nat) : Int) by omega, Lib.itoa_nonneg, Lib.decDigits_length]; omega
theorem LQ.make {p q : Int} {k : Nat} (hq : q ≠ 0) (h1 : lenB p.natAbs ≤ k) (h2 : lenB q.natAbs ≤ k) : LQ ((p : Rat) / (q : Rat)) k := by
  rw [← Rat.divInt_eq_div]
  have h := divInt_len p q hq
  exact ⟨by omega, by omega⟩
theorem LQ.of {n d : Int} (h1 : -9223372036854775808 ≤ n) (h2 : n ≤ 9223372036854775807) (h3 : -9223372036854775808 ≤ d) (h4 : d ≤ 9223372036854775807) (hd : d ≠ 0) : LQ ((n : Rat) / (d : Rat)) 3 := LQ.make hd (len1 h1 h2) (len1 h3 h4)
/-- A fraction as it is written. -/
def textQ (q : Rat) : List UInt8 := if (q.den : Int) = 1 then Lib.itoa q.num else Lib.itoa q.num ++ 47 :: Lib.itoa (q.den : Int)
set_option maxRecDepth 100000 in
set_option maxHeartbeats 8000000 in
theorem qtext_one (x1 : FV) (p1 : Rat) (w : World) (htab : Tab w) (h1 : AF w x1 p1) (b1 : LF x1 100) (lq : LQ p1 101) (hd : (p1.den : Int) = 1) : Calls Tryz.prog 18 #[x1.v] w fun e w' => e = .returned (.string ⟨(textQ p1).toArray⟩) ∧ Below w.heap.size w w' := by
  have HT := Lib.hid htab
  have KG := Lib.hid (Below.refl w.heap.size w)
  have N1 := Lib.hid h1
  have Bx1 := Lib.hid b1
  have LQp1 := Lib.hid lq
  clear h1 b1 lq htab
  have HD := Lib.hid hd
  clear hd
  go_enter Tryz.func18, Tryz.ntmps18
  go_upto_region 1 with (fail)
  obtain ⟨v2, hV⟩ : ∃ V, V = w.alloc (.cells #[.bool x1.t.s, .slice x1.t.a x1.t.n x1.t.c, .bool x1.l.s, .slice x1.l.a x1.l.n x1.l.c] 26) := ⟨_, rfl⟩
  have hbV : Below w.heap.size w v2 := by rw [hV]; exact ((Below.refl _ _).alloc (Nat.le_refl _) _)
  have BX1 := Lib.hid (show Bxs v2 (w.heap.size) 26 [.bool x1.t.s, .slice x1.t.a x1.t.n x1.t.c, .bool x1.l.s, .slice x1.l.a x1.l.n x1.l.c] by have h := Bxs.new (w) 26 [.bool x1.t.s, .slice x1.t.a x1.t.n x1.t.c, .bool x1.l.s, .slice x1.l.a x1.l.n x1.l.c]; rw [hV]; exact h)
  rw [show w.alloc (.cells #[.bool x1.t.s, .slice x1.t.a x1.t.n x1.t.c, .bool x1.l.s, .slice x1.l.a x1.l.n x1.l.c] 26) = v2 from hV.symm]
  have KG := Lib.hid (KG.out.trans (hbV.mono KG.out.size))
  clear hV hbV
  have cBX10 := BX1.out.cell (i := 0) rfl
  have cBX11 := BX1.out.cell (i := 1) rfl
  have cBX12 := BX1.out.cell (i := 2) rfl
  have cBX13 := BX1.out.cell (i := 3) rfl
  have cBX1f := BX1.out.fz
  have cBX1l := BX1.out.lt
  go_wp2_with fail
  have CT := Lib.hid (qfit (N1.out.below KG.out) (LF.up Bx1.out (by decide : _ ≤ 900000)))
  with_reducible refine CT.out.mono ?_
  rintro e w3 ⟨x4, rfl, hN5, hb⟩
  have N5 := Lib.hid hN5
  clear hN5
  clear CT
  clear cBX10 cBX11 cBX12 cBX13 cBX1f cBX1l
  have BX1 := Lib.hid (BX1.out.below hb BX1.out.lt)
  have KG := Lib.hid (KG.out.trans (hb.mono KG.out.size))
  clear hb
  have cBX10 := BX1.out.cell (i := 0) rfl
  have cBX11 := BX1.out.cell (i := 1) rfl
  have cBX12 := BX1.out.cell (i := 2) rfl
  have cBX13 := BX1.out.cell (i := 3) rfl
  have cBX1f := BX1.out.fz
  have cBX1l := BX1.out.lt
  go_upto_region 2 with (fail)
  clear cBX10 cBX11 cBX12 cBX13 cBX1f cBX1l
  obtain ⟨v6, hV⟩ : ∃ V, V = (((w3.setCell ⟨w.heap.size, 0, none⟩ (.bool x4.t.s)).setCell ⟨w.heap.size, 1, none⟩ (.slice x4.t.a x4.t.n x4.t.c)).setCell ⟨w.heap.size, 2, none⟩ (.bool x4.l.s)).setCell ⟨w.heap.size, 3, none⟩ (.slice x4.l.a x4.l.n x4.l.c) := ⟨_, rfl⟩
  have hB := Lib.hid (show Bxs v6 (w.heap.size) 26 [.bool x4.t.s, .slice x4.t.a x4.t.n x4.t.c, .bool x4.l.s, .slice x4.l.a x4.l.n x4.l.c] by rw [hV]; exact ((((BX1.out.put 0 _).put 1 _).put 2 _).put 3 _))
  have N5 := Lib.hid (show KF v6 x4 p1 by rw [hV]; exact ((((N5.out.setBxs BX1.out rfl 0 _).setBxs (BX1.out.put 0 _) rfl 1 _).setBxs ((BX1.out.put 0 _).put 1 _) rfl 2 _).setBxs (((BX1.out.put 0 _).put 1 _).put 2 _) rfl 3 _))
  have KG := Lib.hid (show Below w.heap.size w v6 by rw [hV]; exact ((((KG.out.setCell (Nat.le_refl _) _).setCell (Nat.le_refl _) _).setCell (Nat.le_refl _) _).setCell (Nat.le_refl _) _))
  rw [show (((w3.setCell ⟨w.heap.size, 0, none⟩ (.bool x4.t.s)).setCell ⟨w.heap.size, 1, none⟩ (.slice x4.t.a x4.t.n x4.t.c)).setCell ⟨w.heap.size, 2, none⟩ (.bool x4.l.s)).setCell ⟨w.heap.size, 3, none⟩ (.slice x4.l.a x4.l.n x4.l.c) = v6 from hV.symm]
  clear hV
  have BX1 := hB
  clear hB
  have cBX10 := BX1.out.cell (i := 0) rfl
  have cBX11 := BX1.out.cell (i := 1) rfl
  have cBX12 := BX1.out.cell (i := 2) rfl
  have cBX13 := BX1.out.cell (i := 3) rfl
  have cBX1f := BX1.out.fz
  have cBX1l := BX1.out.lt
  go_wp2_with fail
  have CT := Lib.hid (textN (N5.out).t.any ((N5.out).t.len (Lib.hid LQp1.out.t).out (by decide)) (HT.out.on KG.out))
  with_reducible refine CT.out.mono ?_
  rintro e w7 ⟨rfl, hb⟩
  clear CT
  clear cBX10 cBX11 cBX12 cBX13 cBX1f cBX1l
  have N5 := Lib.hid (N5.out.below hb)
  have BX1 := Lib.hid (BX1.out.below hb BX1.out.lt)
  have KG := Lib.hid (KG.out.trans (hb.mono KG.out.size))
  clear hb
  have cBX10 := BX1.out.cell (i := 0) rfl
  have cBX11 := BX1.out.cell (i := 1) rfl
  have cBX12 := BX1.out.cell (i := 2) rfl
  have cBX13 := BX1.out.cell (i := 3) rfl
  have cBX1f := BX1.out.fz
  have cBX1l := BX1.out.lt
  go_wp2_with fail
  have CT := Lib.hid (unitN (N5.out).l.any ((N5.out).l.len (Lib.hid LQp1.out.l).out (by decide)))
  rw [show decide ((p1.den : Int) = 1) = true from decide_eq_true HD.out] at CT
  with_reducible refine CT.out.mono ?_
  rintro e w8 ⟨rfl, hb⟩
  clear CT
  clear cBX10 cBX11 cBX12 cBX13 cBX1f cBX1l
  clear N5
  clear BX1
  have KG := Lib.hid (KG.out.trans (hb.mono KG.out.size))
  clear hb
  go_wp2_with fail
  go_ret
  exact ⟨by unfold textQ; rw [if_pos HD.out]; rfl, KG.out⟩
set_option maxRecDepth 100000 in
set_option maxHeartbeats 8000000 in
theorem qtext_two (x1 : FV) (p1 : Rat) (w : World) (htab : Tab w) (h1 : AF w x1 p1) (b1 : LF x1 100) (lq : LQ p1 101) (hd : ¬ (p1.den : Int) = 1) : Calls Tryz.prog 18 #[x1.v] w fun e w' => e = .returned (.string ⟨(textQ p1).toArray⟩) ∧ Below w.heap.size w w' := by
  have HT := Lib.hid htab
  have KG := Lib.hid (Below.refl w.heap.size w)
  have N1 := Lib.hid h1
  have Bx1 := Lib.hid b1
  have LQp1 := Lib.hid lq
  clear h1 b1 lq htab
  have HD := Lib.hid hd
  clear hd
  go_enter Tryz.func18, Tryz.ntmps18
  go_upto_region 1 with (fail)
  obtain ⟨v2, hV⟩ : ∃ V, V = w.alloc (.cells #[.bool x1.t.s, .slice x1.t.a x1.t.n x1.t.c, .bool x1.l.s, .slice x1.l.a x1.l.n x1.l.c] 26) := ⟨_, rfl⟩
  have hbV : Below w.heap.size w v2 := by rw [hV]; exact ((Below.refl _ _).alloc (Nat.le_refl _) _)
  have BX1 := Lib.hid (show Bxs v2 (w.heap.size) 26 [.bool x1.t.s, .slice x1.t.a x1.t.n x1.t.c, .bool x1.l.s, .slice x1.l.a x1.l.n x1.l.c] by have h := Bxs.new (w) 26 [.bool x1.t.s, .slice x1.t.a x1.t.n x1.t.c, .bool x1.l.s, .slice x1.l.a x1.l.n x1.l.c]; rw [hV]; exact h)
  rw [show w.alloc (.cells #[.bool x1.t.s, .slice x1.t.a x1.t.n x1.t.c, .bool x1.l.s, .slice x1.l.a x1.l.n x1.l.c] 26) = v2 from hV.symm]
  have KG := Lib.hid (KG.out.trans (hbV.mono KG.out.size))
  clear hV hbV
  have cBX10 := BX1.out.cell (i := 0) rfl
  have cBX11 := BX1.out.cell (i := 1) rfl
  have cBX12 := BX1.out.cell (i := 2) rfl
  have cBX13 := BX1.out.cell (i := 3) rfl
  have cBX1f := BX1.out.fz
  have cBX1l := BX1.out.lt
  go_wp2_with fail
  have CT := Lib.hid (qfit (N1.out.below KG.out) (LF.up Bx1.out (by decide : _ ≤ 900000)))
  with_reducible refine CT.out.mono ?_
  rintro e w3 ⟨x4, rfl, hN5, hb⟩
  have N5 := Lib.hid hN5
  clear hN5
  clear CT
  clear cBX10 cBX11 cBX12 cBX13 cBX1f cBX1l
  have BX1 := Lib.hid (BX1.out.below hb BX1.out.lt)
  have KG := Lib.hid (KG.out.trans (hb.mono KG.out.size))
  clear hb
  have cBX10 := BX1.out.cell (i := 0) rfl
  have cBX11 := BX1.out.cell (i := 1) rfl
  have cBX12 := BX1.out.cell (i := 2) rfl
  have cBX13 := BX1.out.cell (i := 3) rfl
  have cBX1f := BX1.out.fz
  have cBX1l := BX1.out.lt
  go_upto_region 2 with (fail)
  clear cBX10 cBX11 cBX12 cBX13 cBX1f cBX1l
  obtain ⟨v6, hV⟩ : ∃ V, V = (((w3.setCell ⟨w.heap.size, 0, none⟩ (.bool x4.t.s)).setCell ⟨w.heap.size, 1, none⟩ (.slice x4.t.a x4.t.n x4.t.c)).setCell ⟨w.heap.size, 2, none⟩ (.bool x4.l.s)).setCell ⟨w.heap.size, 3, none⟩ (.slice x4.l.a x4.l.n x4.l.c) := ⟨_, rfl⟩
  have hB := Lib.hid (show Bxs v6 (w.heap.size) 26 [.bool x4.t.s, .slice x4.t.a x4.t.n x4.t.c, .bool x4.l.s, .slice x4.l.a x4.l.n x4.l.c] by rw [hV]; exact ((((BX1.out.put 0 _).put 1 _).put 2 _).put 3 _))
  have N5 := Lib.hid (show KF v6 x4 p1 by rw [hV]; exact ((((N5.out.setBxs BX1.out rfl 0 _).setBxs (BX1.out.put 0 _) rfl 1 _).setBxs ((BX1.out.put 0 _).put 1 _) rfl 2 _).setBxs (((BX1.out.put 0 _).put 1 _).put 2 _) rfl 3 _))
  have KG := Lib.hid (show Below w.heap.size w v6 by rw [hV]; exact ((((KG.out.setCell (Nat.le_refl _) _).setCell (Nat.le_refl _) _).setCell (Nat.le_refl _) _).setCell (Nat.le_refl _) _))
  rw [show (((w3.setCell ⟨w.heap.size, 0, none⟩ (.bool x4.t.s)).setCell ⟨w.heap.size, 1, none⟩ (.slice x4.t.a x4.t.n x4.t.c)).setCell ⟨w.heap.size, 2, none⟩ (.bool x4.l.s)).setCell ⟨w.heap.size, 3, none⟩ (.slice x4.l.a x4.l.n x4.l.c) = v6 from hV.symm]
  clear hV
  have BX1 := hB
  clear hB
  have cBX10 := BX1.out.cell (i := 0) rfl
  have cBX11 := BX1.out.cell (i := 1) rfl
  have cBX12 := BX1.out.cell (i := 2) rfl
  have cBX13 := BX1.out.cell (i := 3) rfl
  have cBX1f := BX1.out.fz
  have cBX1l := BX1.out.lt
  go_wp2_with fail
  have CT := Lib.hid (textN (N5.out).t.any ((N5.out).t.len (Lib.hid LQp1.out.t).out (by decide)) (HT.out.on KG.out))
  with_reducible refine CT.out.mono ?_
  rintro e w7 ⟨rfl, hb⟩
  clear CT
  clear cBX10 cBX11 cBX12 cBX13 cBX1f cBX1l
  have N5 := Lib.hid (N5.out.below hb)
  have BX1 := Lib.hid (BX1.out.below hb BX1.out.lt)
  have KG := Lib.hid (KG.out.trans (hb.mono KG.out.size))
  clear hb
  have cBX10 := BX1.out.cell (i := 0) rfl
  have cBX11 := BX1.out.cell (i := 1) rfl
  have cBX12 := BX1.out.cell (i := 2) rfl
  have cBX13 := BX1.out.cell (i := 3) rfl
  have cBX1f := BX1.out.fz
  have cBX1l := BX1.out.lt
  go_wp2_with fail
  have CT := Lib.hid (unitN (N5.out).l.any ((N5.out).l.len (Lib.hid LQp1.out.l).out (by decide)))
  rw [show decide ((p1.den : Int) = 1) = false from decide_eq_false HD.out] at CT
  with_reducible refine CT.out.mono ?_
  rintro e w8 ⟨rfl, hb⟩
  clear CT
  clear cBX10 cBX11 cBX12 cBX13 cBX1f cBX1l
  have N5 := Lib.hid (N5.out.below hb)
  have BX1 := Lib.hid (BX1.out.below hb BX1.out.lt)
  have KG := Lib.hid (KG.out.trans (hb.mono KG.out.size))
  clear hb
  have c1 : ¬ (9223372036854775807 < 1 + (Lib.itoa (p1.den : Int)).length) := by have := itoa_len LQp1.out.l; omega
  have c2 : ¬ (9223372036854775807 < (Lib.itoa p1.num).length + (1 + (Lib.itoa (p1.den : Int)).length)) := by have := itoa_len LQp1.out.t; have := itoa_len LQp1.out.l; omega
  have cBX10 := BX1.out.cell (i := 0) rfl
  have cBX11 := BX1.out.cell (i := 1) rfl
  have cBX12 := BX1.out.cell (i := 2) rfl
  have cBX13 := BX1.out.cell (i := 3) rfl
  have cBX1f := BX1.out.fz
  have cBX1l := BX1.out.lt
  go_wp2_with fail
  have CT := Lib.hid (textN (N5.out).l.any ((N5.out).l.len (Lib.hid LQp1.out.l).out (by decide)) (HT.out.on KG.out))
  with_reducible refine CT.out.mono ?_
  rintro e w9 ⟨rfl, hb⟩
  clear CT
  clear cBX10 cBX11 cBX12 cBX13 cBX1f cBX1l
  clear N5
  clear BX1
  have KG := Lib.hid (KG.out.trans (hb.mono KG.out.size))
  clear hb
  go_wp2_with fail
  go_ret
  exact ⟨by unfold textQ; rw [if_neg HD.out, ← cat3]; rfl, KG.out⟩
theorem KF.lq {w : World} {x : FV} {q : Rat} {k : Nat} (h : KF w x q) (b : LF x k) : LQ q k := ⟨by rw [← h.t.n]; exact b.1, by rw [← h.l.n]; exact b.2⟩
theorem field_frac1 (x : FV) (w : World) : (Instr.field 26 x.v 1).run Tryz.prog w = .ok x.l.v w := by kernel_rfl
set_option maxRecDepth 100000 in
set_option maxHeartbeats 8000000 in
theorem qwhole (x1 : FV) (p1 : Rat) (w : World) (h1 : AF w x1 p1) (b1 : LF x1 100) (lq : LQ p1 101) : Calls Tryz.prog 16 #[x1.v] w fun e w' => e = .returned (.bool (decide ((p1.den : Int) = 1))) ∧ Below w.heap.size w w' := by
  have KG := Lib.hid (Below.refl w.heap.size w)
  have N1 := Lib.hid h1
  have Bx1 := Lib.hid b1
  have LQp1 := Lib.hid lq
  clear h1 b1 lq
  obtain ⟨vd, hvd⟩ : ∃ v, v = decide ((p1.den : Int) = 1) := ⟨_, rfl⟩
  have Hvd := Lib.hid hvd
  clear hvd
  go_enter Tryz.func16, Tryz.ntmps16
  go_upto_region 1 with (fail)
  obtain ⟨v2, hV⟩ : ∃ V, V = w.alloc (.cells #[.bool x1.t.s, .slice x1.t.a x1.t.n x1.t.c, .bool x1.l.s, .slice x1.l.a x1.l.n x1.l.c] 26) := ⟨_, rfl⟩
  have hbV : Below w.heap.size w v2 := by rw [hV]; exact ((Below.refl _ _).alloc (Nat.le_refl _) _)
  have BX1 := Lib.hid (show Bxs v2 (w.heap.size) 26 [.bool x1.t.s, .slice x1.t.a x1.t.n x1.t.c, .bool x1.l.s, .slice x1.l.a x1.l.n x1.l.c] by have h := Bxs.new (w) 26 [.bool x1.t.s, .slice x1.t.a x1.t.n x1.t.c, .bool x1.l.s, .slice x1.l.a x1.l.n x1.l.c]; rw [hV]; exact h)
  rw [show w.alloc (.cells #[.bool x1.t.s, .slice x1.t.a x1.t.n x1.t.c, .bool x1.l.s, .slice x1.l.a x1.l.n x1.l.c] 26) = v2 from hV.symm]
  have KG := Lib.hid (KG.out.trans (hbV.mono KG.out.size))
  clear hV hbV
  have cBX10 := BX1.out.cell (i := 0) rfl
  have cBX11 := BX1.out.cell (i := 1) rfl
  have cBX12 := BX1.out.cell (i := 2) rfl
  have cBX13 := BX1.out.cell (i := 3) rfl
  have cBX1f := BX1.out.fz
  have cBX1l := BX1.out.lt
  go_wp2_with fail
  have CT := Lib.hid (qfit (N1.out.below KG.out) (LF.up Bx1.out (by decide : _ ≤ 900000)))
  with_reducible refine CT.out.mono ?_
  rintro e w3 ⟨x4, rfl, hN5, hb⟩
  have N5 := Lib.hid hN5
  clear hN5
  clear CT
  clear cBX10 cBX11 cBX12 cBX13 cBX1f cBX1l
  clear BX1
  have KG := Lib.hid (KG.out.trans (hb.mono KG.out.size))
  clear hb
  have hf1 := field_frac1 x4 w3
  go_wp2_with fail
  have CT := Lib.hid (unitN (N5.out).l.any ((N5.out).l.len (Lib.hid LQp1.out.l).out (by decide)))
  rw [show decide ((p1.den : Int) = 1) = vd from Hvd.out.symm] at CT
  with_reducible refine CT.out.mono ?_
  rintro e w6 ⟨rfl, hb⟩
  clear CT
  clear N5
  have KG := Lib.hid (KG.out.trans (hb.mono KG.out.size))
  clear hb
  go_wp2_with fail
  go_ret
  exact ⟨by rw [← Hvd.out]; rfl, KG.out⟩
set_option maxRecDepth 100000 in
set_option maxHeartbeats 8000000 in
theorem qsameFr {w : World} {x1 x2 : FV} {p1 p2 : Rat} (h1 : KF w x1 p1) (b1 : LF x1 900000) (h2 : KF w x2 p2) (b2 : LF x2 900000) (e : p1 = p2) : Calls Tryz.prog 20 #[x1.v, x2.v] w fun e w' => e = .returned (.bool true) ∧ Below w.heap.size w w' := by
  have KG := Lib.hid (Below.refl w.heap.size w)
  have N1 := Lib.hid h1
  have N2 := Lib.hid h2
  have LQp1 := Lib.hid (h1.lq b1)
  have LQp2 := Lib.hid (h2.lq b2)
  have HE := Lib.hid e
  clear h1 h2 b1 b2 e
  go_enter Tryz.func20, Tryz.ntmps20
  go_upto_region 1 with (fail)
  obtain ⟨v3, hV⟩ : ∃ V, V = (w.alloc (.cells #[.bool x1.t.s, .slice x1.t.a x1.t.n x1.t.c, .bool x1.l.s, .slice x1.l.a x1.l.n x1.l.c] 26)).alloc (.cells #[.bool x2.t.s, .slice x2.t.a x2.t.n x2.t.c, .bool x2.l.s, .slice x2.l.a x2.l.n x2.l.c] 26) := ⟨_, rfl⟩
  have hbV : Below w.heap.size w v3 := by rw [hV]; exact (((Below.refl _ _).alloc (Nat.le_refl _) _).alloc (by go_size) _)
  have BX1 := Lib.hid (show Bxs v3 (w.heap.size) 26 [.bool x1.t.s, .slice x1.t.a x1.t.n x1.t.c, .bool x1.l.s, .slice x1.l.a x1.l.n x1.l.c] by have h := (Bxs.new (w) 26 [.bool x1.t.s, .slice x1.t.a x1.t.n x1.t.c, .bool x1.l.s, .slice x1.l.a x1.l.n x1.l.c]).alloc (.cells #[.bool x2.t.s, .slice x2.t.a x2.t.n x2.t.c, .bool x2.l.s, .slice x2.l.a x2.l.n x2.l.c] 26); rw [hV]; exact h)
  have BX2 := Lib.hid (show Bxs v3 (w.heap.size + 1) 26 [.bool x2.t.s, .slice x2.t.a x2.t.n x2.t.c, .bool x2.l.s, .slice x2.l.a x2.l.n x2.l.c] by have h := Bxs.new (w.alloc (.cells #[.bool x1.t.s, .slice x1.t.a x1.t.n x1.t.c, .bool x1.l.s, .slice x1.l.a x1.l.n x1.l.c] 26)) 26 [.bool x2.t.s, .slice x2.t.a x2.t.n x2.t.c, .bool x2.l.s, .slice x2.l.a x2.l.n x2.l.c]; simp only [World.size_alloc] at h; rw [hV]; exact h)
  rw [show (w.alloc (.cells #[.bool x1.t.s, .slice x1.t.a x1.t.n x1.t.c, .bool x1.l.s, .slice x1.l.a x1.l.n x1.l.c] 26)).alloc (.cells #[.bool x2.t.s, .slice x2.t.a x2.t.n x2.t.c, .bool x2.l.s, .slice x2.l.a x2.l.n x2.l.c] 26) = v3 from hV.symm]
  have KG := Lib.hid (KG.out.trans (hbV.mono KG.out.size))
  clear hV hbV
  have cBX10 := BX1.out.cell (i := 0) rfl
  have cBX11 := BX1.out.cell (i := 1) rfl
  have cBX12 := BX1.out.cell (i := 2) rfl
  have cBX13 := BX1.out.cell (i := 3) rfl
  have cBX1f := BX1.out.fz
  have cBX1l := BX1.out.lt
  have cBX20 := BX2.out.cell (i := 0) rfl
  have cBX21 := BX2.out.cell (i := 1) rfl
  have cBX22 := BX2.out.cell (i := 2) rfl
  have cBX23 := BX2.out.cell (i := 3) rfl
  have cBX2f := BX2.out.fz
  have cBX2l := BX2.out.lt
  go_wp2_with fail
  have CT := Lib.hid (sameTN ((N1.out.below KG.out)).t (((N1.out.below KG.out)).t.len (Lib.hid LQp1.out.t).out (by decide)) ((N2.out.below KG.out)).t (((N2.out.below KG.out)).t.len (Lib.hid LQp2.out.t).out (by decide)) (by rw [HE.out]))
  with_reducible refine CT.out.mono ?_
  rintro e w4 ⟨rfl, hb⟩
  clear CT
  clear cBX10 cBX11 cBX12 cBX13 cBX1f cBX1l
  clear cBX20 cBX21 cBX22 cBX23 cBX2f cBX2l
  have BX1 := Lib.hid (BX1.out.below hb BX1.out.lt)
  have BX2 := Lib.hid (BX2.out.below hb BX2.out.lt)
  have KG := Lib.hid (KG.out.trans (hb.mono KG.out.size))
  clear hb
  have cBX10 := BX1.out.cell (i := 0) rfl
  have cBX11 := BX1.out.cell (i := 1) rfl
  have cBX12 := BX1.out.cell (i := 2) rfl
  have cBX13 := BX1.out.cell (i := 3) rfl
  have cBX1f := BX1.out.fz
  have cBX1l := BX1.out.lt
  have cBX20 := BX2.out.cell (i := 0) rfl
  have cBX21 := BX2.out.cell (i := 1) rfl
  have cBX22 := BX2.out.cell (i := 2) rfl
  have cBX23 := BX2.out.cell (i := 3) rfl
  have cBX2f := BX2.out.fz
  have cBX2l := BX2.out.lt
  go_wp2_with fail
  have CT := Lib.hid (sameTN ((N1.out.below KG.out)).l (((N1.out.below KG.out)).l.len (Lib.hid LQp1.out.l).out (by decide)) ((N2.out.below KG.out)).l (((N2.out.below KG.out)).l.len (Lib.hid LQp2.out.l).out (by decide)) (by rw [HE.out]))
  with_reducible refine CT.out.mono ?_
  rintro e w5 ⟨rfl, hb⟩
  clear CT
  clear cBX10 cBX11 cBX12 cBX13 cBX1f cBX1l
  clear cBX20 cBX21 cBX22 cBX23 cBX2f cBX2l
  clear BX1
  clear BX2
  have KG := Lib.hid (KG.out.trans (hb.mono KG.out.size))
  clear hb
  go_wp2_with fail
  go_ret
  exact ⟨rfl, KG.out⟩
set_option maxRecDepth 100000 in
set_option maxHeartbeats 8000000 in
theorem qsame {w : World} {x1 x2 : FV} {p1 p2 : Rat} (h1 : KF w x1 p1) (b1 : LF x1 900000) (h2 : KF w x2 p2) (b2 : LF x2 900000) (e : p1 = p2) : Calls Tryz.prog 25 #[x1.v, x2.v] w fun e w' => e = .returned (.bool true) ∧ Below w.heap.size w w' := by
  have KG := Lib.hid (Below.refl w.heap.size w)
  have N1 := Lib.hid h1
  have N2 := Lib.hid h2
  have LQp1 := Lib.hid (h1.lq b1)
  have LQp2 := Lib.hid (h2.lq b2)
  have HE := Lib.hid e
  clear h1 h2 b1 b2 e
  go_enter Tryz.func25, Tryz.ntmps25
  go_upto_region 1 with (fail)
  obtain ⟨v3, hV⟩ : ∃ V, V = (w.alloc (.cells #[.bool x1.t.s, .slice x1.t.a x1.t.n x1.t.c, .bool x1.l.s, .slice x1.l.a x1.l.n x1.l.c] 26)).alloc (.cells #[.bool x2.t.s, .slice x2.t.a x2.t.n x2.t.c, .bool x2.l.s, .slice x2.l.a x2.l.n x2.l.c] 26) := ⟨_, rfl⟩
  have hbV : Below w.heap.size w v3 := by rw [hV]; exact (((Below.refl _ _).alloc (Nat.le_refl _) _).alloc (by go_size) _)
  have BX1 := Lib.hid (show Bxs v3 (w.heap.size) 26 [.bool x1.t.s, .slice x1.t.a x1.t.n x1.t.c, .bool x1.l.s, .slice x1.l.a x1.l.n x1.l.c] by have h := (Bxs.new (w) 26 [.bool x1.t.s, .slice x1.t.a x1.t.n x1.t.c, .bool x1.l.s, .slice x1.l.a x1.l.n x1.l.c]).alloc (.cells #[.bool x2.t.s, .slice x2.t.a x2.t.n x2.t.c, .bool x2.l.s, .slice x2.l.a x2.l.n x2.l.c] 26); rw [hV]; exact h)
  have BX2 := Lib.hid (show Bxs v3 (w.heap.size + 1) 26 [.bool x2.t.s, .slice x2.t.a x2.t.n x2.t.c, .bool x2.l.s, .slice x2.l.a x2.l.n x2.l.c] by have h := Bxs.new (w.alloc (.cells #[.bool x1.t.s, .slice x1.t.a x1.t.n x1.t.c, .bool x1.l.s, .slice x1.l.a x1.l.n x1.l.c] 26)) 26 [.bool x2.t.s, .slice x2.t.a x2.t.n x2.t.c, .bool x2.l.s, .slice x2.l.a x2.l.n x2.l.c]; simp only [World.size_alloc] at h; rw [hV]; exact h)
  rw [show (w.alloc (.cells #[.bool x1.t.s, .slice x1.t.a x1.t.n x1.t.c, .bool x1.l.s, .slice x1.l.a x1.l.n x1.l.c] 26)).alloc (.cells #[.bool x2.t.s, .slice x2.t.a x2.t.n x2.t.c, .bool x2.l.s, .slice x2.l.a x2.l.n x2.l.c] 26) = v3 from hV.symm]
  have KG := Lib.hid (KG.out.trans (hbV.mono KG.out.size))
  clear hV hbV
  have cBX10 := BX1.out.cell (i := 0) rfl
  have cBX11 := BX1.out.cell (i := 1) rfl
  have cBX12 := BX1.out.cell (i := 2) rfl
  have cBX13 := BX1.out.cell (i := 3) rfl
  have cBX1f := BX1.out.fz
  have cBX1l := BX1.out.lt
  have cBX20 := BX2.out.cell (i := 0) rfl
  have cBX21 := BX2.out.cell (i := 1) rfl
  have cBX22 := BX2.out.cell (i := 2) rfl
  have cBX23 := BX2.out.cell (i := 3) rfl
  have cBX2f := BX2.out.fz
  have cBX2l := BX2.out.lt
  go_wp2_with fail
  have CT := Lib.hid (qsameFr (N1.out.below KG.out) (((N1.out.below KG.out)).len LQp1.out (by decide : _ ≤ 900000)) (N2.out.below KG.out) (((N2.out.below KG.out)).len LQp2.out (by decide : _ ≤ 900000)) (HE.out))
  with_reducible refine CT.out.mono ?_
  rintro e w4 ⟨rfl, hb⟩
  clear CT
  clear cBX10 cBX11 cBX12 cBX13 cBX1f cBX1l
  clear cBX20 cBX21 cBX22 cBX23 cBX2f cBX2l
  clear BX1
  clear BX2
  have KG := Lib.hid (KG.out.trans (hb.mono KG.out.size))
  clear hb
  go_wp2_with fail
  go_ret
  exact ⟨rfl, KG.out⟩
open Classical in
theorem qgreat2 {M b : Nat} {x1 x2 : FV} {w : World} (h : Bxs w b 26 [.bool x1.t.s, .slice x1.t.a x1.t.n x1.t.c, .bool x1.l.s, .slice x1.l.a x1.l.n x1.l.c, .bool x2.t.s, .slice x2.t.a x2.t.n x2.t.c, .bool x2.l.s, .slice x2.l.a x2.l.n x2.l.c]) :
    Calls Tryz.prog 10 #[.int .i64 M, .slice (some ⟨b, 0, none⟩) 2 2] w fun e w' => e = .returned (.bool (decide ((M < x1.t.n ∨ M < x1.l.n) ∨ (M < x2.t.n ∨ M < x2.l.n)))) ∧ Below w.heap.size w w' := by
  have g := great2_any M b 2 2 (fun i => if i = 0 then x1.t.a else x2.t.a) (fun i => if i = 0 then x1.l.a else x2.l.a) (fun i => if i = 0 then x1.t.n else x2.t.n) (fun i => if i = 0 then x1.t.c else x2.t.c) (fun i => if i = 0 then x1.l.n else x2.l.n) (fun i => if i = 0 then x1.l.c else x2.l.c) w (fun i hi => by
    match i, hi with
    | 0, _ => exact h.cell (i := 1) rfl
    | 1, _ => exact h.cell (i := 5) rfl) (fun i hi => by
    match i, hi with
    | 0, _ => exact h.cell (i := 3) rfl
    | 1, _ => exact h.cell (i := 7) rfl) (by omega)
  rw [decide_eq_decide.2 (show (∃ i, i < 2 ∧ (M < (fun i => if i = 0 then x1.t.n else x2.t.n) i ∨ M < (fun i => if i = 0 then x1.l.n else x2.l.n) i)) ↔ ((M < x1.t.n ∨ M < x1.l.n) ∨ (M < x2.t.n ∨ M < x2.l.n)) from ⟨fun ⟨i, hi, h⟩ => by
    match i, hi with
    | 0, _ => exact Or.inl h
    | 1, _ => exact Or.inr h, fun h => h.elim (fun h => ⟨0, by omega, h⟩) (fun h => ⟨1, by omega, h⟩)⟩)] at g
  exact g.mono fun e w' ⟨h1, h2⟩ => ⟨h1, by rw [h2]; exact Below.refl _ _⟩
open Classical in
theorem qgreat3 {M b : Nat} {x1 x2 x3 : FV} {w : World} (h : Bxs w b 26 [.bool x1.t.s, .slice x1.t.a x1.t.n x1.t.c, .bool x1.l.s, .slice x1.l.a x1.l.n x1.l.c, .bool x2.t.s, .slice x2.t.a x2.t.n x2.t.c, .bool x2.l.s, .slice x2.l.a x2.l.n x2.l.c, .bool x3.t.s, .slice x3.t.a x3.t.n x3.t.c, .bool x3.l.s, .slice x3.l.a x3.l.n x3.l.c]) :
    Calls Tryz.prog 10 #[.int .i64 M, .slice (some ⟨b, 0, none⟩) 3 3] w fun e w' => e = .returned (.bool (decide ((M < x1.t.n ∨ M < x1.l.n) ∨ (M < x2.t.n ∨ M < x2.l.n) ∨ (M < x3.t.n ∨ M < x3.l.n)))) ∧ Below w.heap.size w w' := by
  have g := great2_any M b 3 3 (fun i => if i = 0 then x1.t.a else if i = 1 then x2.t.a else x3.t.a) (fun i => if i = 0 then x1.l.a else if i = 1 then x2.l.a else x3.l.a) (fun i => if i = 0 then x1.t.n else if i = 1 then x2.t.n else x3.t.n) (fun i => if i = 0 then x1.t.c else if i = 1 then x2.t.c else x3.t.c) (fun i => if i = 0 then x1.l.n else if i = 1 then x2.l.n else x3.l.n) (fun i => if i = 0 then x1.l.c else if i = 1 then x2.l.c else x3.l.c) w (fun i hi => by
    match i, hi with
    | 0, _ => exact h.cell (i := 1) rfl
    | 1, _ => exact h.cell (i := 5) rfl
    | 2, _ => exact h.cell (i := 9) rfl) (fun i hi => by
    match i, hi with
    | 0, _ => exact h.cell (i := 3) rfl
    | 1, _ => exact h.cell (i := 7) rfl
    | 2, _ => exact h.cell (i := 11) rfl) (by omega)
  rw [decide_eq_decide.2 (show (∃ i, i < 3 ∧ (M < (fun i => if i = 0 then x1.t.n else if i = 1 then x2.t.n else x3.t.n) i ∨ M < (fun i => if i = 0 then x1.l.n else if i = 1 then x2.l.n else x3.l.n) i)) ↔ ((M < x1.t.n ∨ M < x1.l.n) ∨ (M < x2.t.n ∨ M < x2.l.n) ∨ (M < x3.t.n ∨ M < x3.l.n)) from ⟨fun ⟨i, hi, h⟩ => by
    match i, hi with
    | 0, _ => exact Or.inl h
    | 1, _ => exact Or.inr (Or.inl h)
    | 2, _ => exact Or.inr (Or.inr h), fun h => h.elim (fun h => ⟨0, by omega, h⟩) (fun h => h.elim (fun h => ⟨1, by omega, h⟩) (fun h => ⟨2, by omega, h⟩))⟩)] at g
  exact g.mono fun e w' ⟨h1, h2⟩ => ⟨h1, by rw [h2]; exact Below.refl _ _⟩
set_option maxRecDepth 100000 in
set_option maxHeartbeats 8000000 in
theorem ofQ (n d : Int) (w : World) (hn1 : -9223372036854775808 ≤ n) (hn2 : n ≤ 9223372036854775807) (hd1 : -9223372036854775808 ≤ d) (hd2 : d ≤ 9223372036854775807) (hd : d ≠ 0) : Calls Tryz.prog 34 #[.int .i64 n, .int .i64 d] w (RF w ((n : Rat) / (d : Rat))) := by
  have KG := Lib.hid (Below.refl w.heap.size w)
  have LZn := Lib.hid (len1 hn1 hn2)
  have LZd := Lib.hid (len1 hd1 hd2)
  have HN := Lib.hid (And.intro hn1 hn2)
  have HDD := Lib.hid (And.intro hd1 hd2)
  have HD := Lib.hid hd
  clear hn1 hn2 hd1 hd2 hd
  obtain ⟨q9, hq9⟩ : ∃ z : Rat, z = (n : Rat) / (d : Rat) := ⟨_, rfl⟩
  have Hq9 := Lib.hid hq9
  have LQq9 := Lib.hid (show LQ q9 3 by rw [hq9]; exact LQ.make (HD.out) (Nat.le_trans LZn.out (by decide)) (Nat.le_trans LZd.out (by decide)))
  clear hq9
  go_enter Tryz.func34, Tryz.ntmps34
  go_upto_region 1 with (fail)
  obtain ⟨v2, hV⟩ : ∃ V, V = w.alloc (.cells #[.bool false, .slice none 0 0, .bool false, .slice none 0 0] 26) := ⟨_, rfl⟩
  have hbV : Below w.heap.size w v2 := by rw [hV]; exact ((Below.refl _ _).alloc (Nat.le_refl _) _)
  have BX1 := Lib.hid (show Bxs v2 (w.heap.size) 26 [.bool false, .slice none 0 0, .bool false, .slice none 0 0] by have h := Bxs.new (w) 26 [.bool false, .slice none 0 0, .bool false, .slice none 0 0]; rw [hV]; exact h)
  rw [show w.alloc (.cells #[.bool false, .slice none 0 0, .bool false, .slice none 0 0] 26) = v2 from hV.symm]
  have KG := Lib.hid (KG.out.trans (hbV.mono KG.out.size))
  clear hV hbV
  go_wp2_with fail
  have CT := Lib.hid (ofZ n n (rfl) v2 HN.out.1 HN.out.2)
  with_reducible refine CT.out.mono ?_
  rintro e w3 ⟨x4, rfl, hN5, hb⟩
  have N5 := Lib.hid hN5
  clear hN5
  clear CT
  have BX1 := Lib.hid (BX1.out.below hb BX1.out.lt)
  have KG := Lib.hid (KG.out.trans (hb.mono KG.out.size))
  clear hb
  go_wp2_with fail
  have CT := Lib.hid (ofZ d d (rfl) w3 HDD.out.1 HDD.out.2)
  with_reducible refine CT.out.mono ?_
  rintro e w6 ⟨x7, rfl, hN8, hb⟩
  have N8 := Lib.hid hN8
  clear hN8
  clear CT
  have N5 := Lib.hid (N5.out.below hb)
  have BX1 := Lib.hid (BX1.out.below hb BX1.out.lt)
  have KG := Lib.hid (KG.out.trans (hb.mono KG.out.size))
  clear hb
  go_wp2_with fail
  have HLO := Lib.hid (show w.heap.size ≤ w6.heap.size from KG.out.size)
  have CT := Lib.hid (qmake N5.out.k (N5.out.k.len LZn.out (by decide)) N8.out.k (N8.out.k.len LZd.out (by decide)) (HD.out))
  rw [show (n : Rat) / (d : Rat) = q9 from Hq9.out.symm] at CT
  with_reducible refine CT.out.mono ?_
  rintro e w10 ⟨x11, rfl, hN12, hb⟩
  have N12 := Lib.hid hN12
  clear hN12
  clear CT
  clear N5
  clear N8
  have BX1 := Lib.hid (BX1.out.below hb BX1.out.lt)
  have KG := Lib.hid (KG.out.trans (hb.mono KG.out.size))
  clear hb
  go_upto_region 2 with (fail)
  obtain ⟨v14, hV⟩ : ∃ V, V = w10.alloc (.cells #[.bool x11.t.s, .slice x11.t.a x11.t.n x11.t.c, .bool x11.l.s, .slice x11.l.a x11.l.n x11.l.c] 26) := ⟨_, rfl⟩
  have hbV : Below w10.heap.size w10 v14 := by rw [hV]; exact ((Below.refl _ _).alloc (Nat.le_refl _) _)
  have BX13 := Lib.hid (show Bxs v14 (w10.heap.size) 26 [.bool x11.t.s, .slice x11.t.a x11.t.n x11.t.c, .bool x11.l.s, .slice x11.l.a x11.l.n x11.l.c] by have h := Bxs.new (w10) 26 [.bool x11.t.s, .slice x11.t.a x11.t.n x11.t.c, .bool x11.l.s, .slice x11.l.a x11.l.n x11.l.c]; rw [hV]; exact h)
  rw [show w10.alloc (.cells #[.bool x11.t.s, .slice x11.t.a x11.t.n x11.t.c, .bool x11.l.s, .slice x11.l.a x11.l.n x11.l.c] 26) = v14 from hV.symm]
  have N12 := Lib.hid (N12.out.below hbV)
  have BX1 := Lib.hid (BX1.out.below hbV BX1.out.lt)
  have KG := Lib.hid (KG.out.trans (hbV.mono KG.out.size))
  clear hV hbV
  have cBX130 := BX13.out.cell (i := 0) rfl
  have cBX131 := BX13.out.cell (i := 1) rfl
  have cBX132 := BX13.out.cell (i := 2) rfl
  have cBX133 := BX13.out.cell (i := 3) rfl
  have cBX13f := BX13.out.fz
  have cBX13l := BX13.out.lt
  have d0 := BX1.out.cell (i := 0) rfl
  have d1 := BX1.out.cell (i := 1) rfl
  have d2 := BX1.out.cell (i := 2) rfl
  have d3 := BX1.out.cell (i := 3) rfl
  have df := BX1.out.fz
  have dl := BX1.out.lt
  go_wp2_with fail
  refine bodyPost_ret (results_cell rfl _ _ _ _ _ _ _ rfl ((((BX1.out.put 0 _).put 1 _).put 2 _).put 3 _) Tryz.underlying26 rfl (by kernel_rfl)) rfl ⟨x11, rfl, ?_, ?_⟩
  · rw [← Hq9.out]
    exact ((((N12.out.setBxs BX1.out (by decide) 0 _).setBxs (BX1.out.put 0 _) (by decide) 1 _).setBxs ((BX1.out.put 0 _).put 1 _) (by decide) 2 _).setBxs (((BX1.out.put 0 _).put 1 _).put 2 _) (by decide) 3 _).mono HLO.out
  · exact (((KG.out.setCell (Nat.le_refl _) _).setCell (Nat.le_refl _) _).setCell (Nat.le_refl _) _).setCell (Nat.le_refl _) _
end Go.Proofs.YtklidpbdgliemaaGreatDoor.Limb
namespace Go.Proofs.YtklidpbdgliemaaGreatDoor.Limb
open Go.RowKit Go.Sort

set_option maxRecDepth 100000 in
set_option maxHeartbeats 4000000 in
theorem slcut_any (s : ByteArray) (w : World) (hs : s.size ≤ 9223372036854775807) :
    Calls Tryz.prog 107 #[.string s, .string ⟨#[47]⟩] w fun e w' => e = .returned (.tuple #[.string ⟨(Lib.cut s.data.toList [47]).1.toArray⟩, .string ⟨(Lib.cut s.data.toList [47]).2.1.toArray⟩, .bool (Lib.cut s.data.toList [47]).2.2]) ∧ Below w.heap.size w w' := by
  have HI := Lib.hid (fun w' : World => Tryz.stringslite_Index_one s 47 w')
  rcases Lib.indexB_cases s ⟨#[47]⟩ with hix | ⟨i, hix, hroom⟩
  · obtain ⟨e1, e2, e3⟩ := Lib.cutB_miss s ⟨#[47]⟩ hix
    have hx : Lib.indexByte s.data.toList 47 = -1 := by rw [← Lib.index_one]; exact hix
    rw [show ([47] : List UInt8) = (ByteArray.mk #[47]).data.toList from rfl, e1, e2, e3]
    have HX := Lib.hid hx
    clear hix hx e1 e2 e3
    go_enter Tryz.func107, Tryz.ntmps107
    go_wp2_with (with_reducible refine (HI.out _).mono ?_; rintro e w' ⟨rfl, rfl⟩; rw [HX.out])
    go_ret3
    exact ⟨rfl, Below.refl _ _⟩
  · obtain ⟨e1, e2, e3⟩ := Lib.cutB_hit s ⟨#[47]⟩ i hix
    have hx : Lib.indexByte s.data.toList 47 = i := by rw [← Lib.index_one]; exact hix
    have hroom2 : i + 1 ≤ s.size := hroom
    rw [show ([47] : List UInt8) = (ByteArray.mk #[47]).data.toList from rfl, e1, e2, e3]
    have HX := Lib.hid hx
    have c1 : (0 : Int) ≤ ↑i := by omega
    have c2 : (↑i : Int) ≤ ↑s.size := by omega
    have c3 : (0 : Int) ≤ ↑i + 1 := by omega
    have c4 : (↑i + 1 : Int) ≤ ↑s.size := by omega
    have ew : IntKind.i64.wrap ((i : Int) + 1) = (i : Int) + 1 := IntWalk.i64_in _ (by omega)
    clear hix hx e1 e2 e3 hroom hroom2
    go_enter Tryz.func107, Tryz.ntmps107
    go_wp2_with (with_reducible refine (HI.out _).mono ?_; rintro e w' ⟨rfl, rfl⟩; rw [HX.out])
    have mixed : Tryz.prog.follows Departure.mixedOrders = true := by kernel_rfl
    go_region_o
    go_wp2
    go_ret3
    exact ⟨rfl, (Below.refl _ _).drew⟩

set_option maxRecDepth 100000 in
theorem scut_any (s : ByteArray) (w : World) (hs : s.size ≤ 9223372036854775807) :
    Calls Tryz.prog 40 #[.string s, .string ⟨#[47]⟩] w fun e w' => e = .returned (.tuple #[.string ⟨(Lib.cut s.data.toList [47]).1.toArray⟩, .string ⟨(Lib.cut s.data.toList [47]).2.1.toArray⟩, .bool (Lib.cut s.data.toList [47]).2.2]) ∧ Below w.heap.size w w' := by
  have HC := Lib.hid (slcut_any s w hs)
  go_enter Tryz.func40, Tryz.ntmps40
  go_wp2_with (with_reducible refine HC.out.mono ?_; rintro e w' ⟨rfl, hb⟩)
  go_ret3
  exact ⟨rfl, hb⟩
end Go.Proofs.YtklidpbdgliemaaGreatDoor.Limb
namespace Go.Proofs.YtklidpbdgliemaaGreatDoor.Limb
open Go.RowKit Go.Sort

theorem cut_k (w : World) {s : ByteArray} {a b : List UInt8} {f : Bool} (hs : s.size ≤ 9223372036854775807) (h : Lib.cut s.data.toList [47] = (a, b, f)) :
    Calls Tryz.prog 40 #[.string s, .string ⟨#[47]⟩] w fun e w' => e = .returned (.tuple #[.string ⟨a.toArray⟩, .string ⟨b.toArray⟩, .bool f]) ∧ Below w.heap.size w w' := by
  have h1 := scut_any s w hs
  rw [h] at h1
  exact h1
theorem parse_k (w : World) {s : ByteArray} {z c : Int} (hs : s.size ≤ 9223372036854775807) (hz : numT s.data.toList = z) (hc : codeT s.data.toList = c) : Calls Tryz.prog 41 #[.string s] w (RNE w z c) := by
  have h := parseN s w hs
  rw [hz, hc] at h
  exact h
theorem codeT_of (l : List UInt8) (h : formT l) (h2 : (bodyT l).length ≤ 200) : codeT l = 0 := by unfold codeT; rw [if_pos h, if_neg (by omega)]
theorem numT_of (l : List UInt8) (z : Int) (h : formT l) (h2 : (bodyT l).length ≤ 200) (h3 : (if negT l = true then -(decV (bodyT l) : Int) else (decV (bodyT l) : Int)) = z) : numT l = z := by unfold numT; rw [if_pos ⟨h, h2⟩]; exact h3
theorem form1 : formT [49] := ⟨by decide +kernel, by decide +kernel, by decide +kernel⟩
theorem code1 : codeT [49] = 0 := codeT_of _ form1 (by decide +kernel)
theorem num1 : numT [49] = 1 := numT_of _ _ form1 (by decide +kernel) (by decide +kernel)
theorem qlow {w : World} {x y : NV} {p q : Int} (h1 : KN w x p) (b1 : x.n ≤ 900000) (h2 : KN w y q) (b2 : y.n ≤ 900000) (hq : q ≠ 0) : Calls Tryz.prog 42 #[x.v, y.v] w (RF w ((p : Rat) / (q : Rat))) := by
  obtain ⟨s1, a1, n1, c1⟩ := x
  obtain ⟨s2, a2, n2, c2⟩ := y
  have e1 : s1 = _ := h1.s
  have e2 : n1 = _ := h1.n
  have e3 : s2 = _ := h2.s
  have e4 : n2 = _ := h2.n
  have r1 := h1.rd
  have r2 := h2.rd
  have l1 := h1.le
  have l2 := h2.le
  subst e1 e2 e3 e4
  have h := lowest_any p q a1 a2 c1 c2 w r1 (by dsimp only at b1; omega) l1 r2 (by dsimp only at b2; omega) l2 hq
  rw [Rat.divInt_eq_div] at h
  exact h.mono fun _ _ h => FracR.rf h
set_option maxRecDepth 100000 in
set_option maxHeartbeats 8000000 in
theorem qparse_y_neg {s : ByteArray} {a b : List UInt8} {z1 z2 : Int} (w : World) (hs : s.size ≤ 9223372036854775807) (hcut : Lib.cut s.data.toList [47] = (a, b, true)) (hsz : a.length ≤ 9223372036854775807) (hsb : b.length ≤ 9223372036854775807) (ha : codeT a = 0) (hza : numT a = z1) (hb2 : codeT b = 0) (hzb : numT b = z2) (hneg : ∃ r, b = 45 :: r) : Calls Tryz.prog 12 #[.string s] w (RFX w 4) := by
  have KG := Lib.hid (Below.refl w.heap.size w)
  have HC := Lib.hid hcut
  have HSA : (ByteArray.mk a.toArray).size ≤ 9223372036854775807 := by show a.toArray.size ≤ _; rw [List.size_toArray]; exact hsz
  have HSB : (ByteArray.mk b.toArray).size ≤ 9223372036854775807 := by show b.toArray.size ≤ _; rw [List.size_toArray]; exact hsb
  have HA := Lib.hid ha
  have HZA := Lib.hid hza
  have LZz1 := Lib.hid (show lenB z1.natAbs ≤ 23 from by rw [← hza]; exact numT_len a)
  have HB2 := Lib.hid hb2
  have HZB := Lib.hid hzb
  have LZz2 := Lib.hid (show lenB z2.natAbs ≤ 23 from by rw [← hzb]; exact numT_len b)
  have hp0 : 0 < (ByteArray.mk b.toArray).size := by obtain ⟨r, rfl⟩ := hneg; exact Nat.succ_pos _
  have hp1 : (((ByteArray.mk b.toArray)[0]'hp0).toNat : Int) = 45 := by obtain ⟨r, rfl⟩ := hneg; rfl
  clear hcut hsz hsb ha hza hb2 hzb hneg
  go_enter Tryz.func12, Tryz.ntmps12
  go_upto_region 1 with (fail)
  obtain ⟨v2, hV⟩ : ∃ V, V = w.alloc (.cells #[.bool false, .slice none 0 0, .bool false, .slice none 0 0] 26) := ⟨_, rfl⟩
  have hbV : Below w.heap.size w v2 := by rw [hV]; exact ((Below.refl _ _).alloc (Nat.le_refl _) _)
  have BX1 := Lib.hid (show Bxs v2 (w.heap.size) 26 [.bool false, .slice none 0 0, .bool false, .slice none 0 0] by have h := Bxs.new (w) 26 [.bool false, .slice none 0 0, .bool false, .slice none 0 0]; rw [hV]; exact h)
  rw [show w.alloc (.cells #[.bool false, .slice none 0 0, .bool false, .slice none 0 0] 26) = v2 from hV.symm]
  have KG := Lib.hid (KG.out.trans (hbV.mono KG.out.size))
  clear hV hbV
  go_wp2_with fail
  have CT := Lib.hid (cut_k v2 hs HC.out)
  with_reducible refine CT.out.mono ?_
  rintro e w3 ⟨rfl, hb⟩
  clear CT
  have BX1 := Lib.hid (BX1.out.below hb BX1.out.lt)
  have KG := Lib.hid (KG.out.trans (hb.mono KG.out.size))
  clear hb
  go_wp2_with fail
  have CT := Lib.hid (parse_k w3 HSA HZA.out HA.out)
  with_reducible refine CT.out.mono ?_
  rintro e w4 ⟨x5, rfl, hN6, hb⟩
  have N6 := Lib.hid hN6
  clear hN6
  clear CT
  have BX1 := Lib.hid (BX1.out.below hb BX1.out.lt)
  have KG := Lib.hid (KG.out.trans (hb.mono KG.out.size))
  clear hb
  clear N6
  go_upto_region 5 with (fail)
  obtain ⟨v8, hV⟩ : ∃ V, V = w4.alloc (.cells #[.bool x5.s, .slice x5.a x5.n x5.c] 24) := ⟨_, rfl⟩
  have hbV : Below w4.heap.size w4 v8 := by rw [hV]; exact ((Below.refl _ _).alloc (Nat.le_refl _) _)
  have BX7 := Lib.hid (show Bxs v8 (w4.heap.size) 24 [.bool x5.s, .slice x5.a x5.n x5.c] by have h := Bxs.new (w4) 24 [.bool x5.s, .slice x5.a x5.n x5.c]; rw [hV]; exact h)
  rw [show w4.alloc (.cells #[.bool x5.s, .slice x5.a x5.n x5.c] 24) = v8 from hV.symm]
  have BX1 := Lib.hid (BX1.out.below hbV BX1.out.lt)
  have KG := Lib.hid (KG.out.trans (hbV.mono KG.out.size))
  clear hV hbV
  clear BX7
  go_wp2_with fail
  have CT := Lib.hid (parse_k v8 HSB HZB.out HB2.out)
  with_reducible refine CT.out.mono ?_
  rintro e w9 ⟨x10, rfl, hN11, hb⟩
  have N11 := Lib.hid hN11
  clear hN11
  clear CT
  have BX1 := Lib.hid (BX1.out.below hb BX1.out.lt)
  have KG := Lib.hid (KG.out.trans (hb.mono KG.out.size))
  clear hb
  clear N11
  go_upto_region 6 with (fail)
  obtain ⟨v13, hV⟩ : ∃ V, V = w9.alloc (.cells #[.bool x10.s, .slice x10.a x10.n x10.c] 24) := ⟨_, rfl⟩
  have hbV : Below w9.heap.size w9 v13 := by rw [hV]; exact ((Below.refl _ _).alloc (Nat.le_refl _) _)
  have BX12 := Lib.hid (show Bxs v13 (w9.heap.size) 24 [.bool x10.s, .slice x10.a x10.n x10.c] by have h := Bxs.new (w9) 24 [.bool x10.s, .slice x10.a x10.n x10.c]; rw [hV]; exact h)
  rw [show w9.alloc (.cells #[.bool x10.s, .slice x10.a x10.n x10.c] 24) = v13 from hV.symm]
  have BX1 := Lib.hid (BX1.out.below hbV BX1.out.lt)
  have KG := Lib.hid (KG.out.trans (hbV.mono KG.out.size))
  clear hV hbV
  clear BX12
  have cBX10 := BX1.out.cell (i := 0) rfl
  have cBX11 := BX1.out.cell (i := 1) rfl
  have cBX12 := BX1.out.cell (i := 2) rfl
  have cBX13 := BX1.out.cell (i := 3) rfl
  have cBX1f := BX1.out.fz
  have cBX1l := BX1.out.lt
  go_wp2_with fail
  refine bodyPost_ret (results_ct rfl _ _ _ _ _ _ _ rfl ((((BX1.out.put 0 _).put 1 _).put 2 _).put 3 _) Tryz.underlying26 rfl (by kernel_rfl)) rfl ⟨rfl, (((KG.out.setCell (Nat.le_refl _) _).setCell (Nat.le_refl _) _).setCell (Nat.le_refl _) _).setCell (Nat.le_refl _) _⟩
set_option maxRecDepth 100000 in
set_option maxHeartbeats 8000000 in
theorem qparse_y_one {s : ByteArray} {a b : List UInt8} {z1 z2 : Int} (w : World) (hs : s.size ≤ 9223372036854775807) (hcut : Lib.cut s.data.toList [47] = (a, b, true)) (hsz : a.length ≤ 9223372036854775807) (hsb : b.length ≤ 9223372036854775807) (ha : codeT a = 0) (hza : numT a = z1) (hb2 : codeT b = 0) (hzb : numT b = z2) (hpos : ∃ x r, b = x :: r ∧ x ≠ 45) (hone : b = [48]) : Calls Tryz.prog 12 #[.string s] w (RFX w 4) := by
  have KG := Lib.hid (Below.refl w.heap.size w)
  have HC := Lib.hid hcut
  have HSA : (ByteArray.mk a.toArray).size ≤ 9223372036854775807 := by show a.toArray.size ≤ _; rw [List.size_toArray]; exact hsz
  have HSB : (ByteArray.mk b.toArray).size ≤ 9223372036854775807 := by show b.toArray.size ≤ _; rw [List.size_toArray]; exact hsb
  have HA := Lib.hid ha
  have HZA := Lib.hid hza
  have LZz1 := Lib.hid (show lenB z1.natAbs ≤ 23 from by rw [← hza]; exact numT_len a)
  have HB2 := Lib.hid hb2
  have HZB := Lib.hid hzb
  have LZz2 := Lib.hid (show lenB z2.natAbs ≤ 23 from by rw [← hzb]; exact numT_len b)
  have hp0 : 0 < (ByteArray.mk b.toArray).size := by obtain ⟨x, r, rfl, h⟩ := hpos; exact Nat.succ_pos _
  have hp1 : ¬ (((ByteArray.mk b.toArray)[0]'hp0).toNat : Int) = 45 := by obtain ⟨x, r, rfl, h⟩ := hpos; exact fun h2 => h (UInt8.toNat_inj.1 (Int.ofNat_inj.1 h2))
  have hp2 : (b == [48]) = true := by rw [hone]; rfl
  clear hcut hsz hsb ha hza hb2 hzb hpos hone
  go_enter Tryz.func12, Tryz.ntmps12
  go_upto_region 1 with (fail)
  obtain ⟨v2, hV⟩ : ∃ V, V = w.alloc (.cells #[.bool false, .slice none 0 0, .bool false, .slice none 0 0] 26) := ⟨_, rfl⟩
  have hbV : Below w.heap.size w v2 := by rw [hV]; exact ((Below.refl _ _).alloc (Nat.le_refl _) _)
  have BX1 := Lib.hid (show Bxs v2 (w.heap.size) 26 [.bool false, .slice none 0 0, .bool false, .slice none 0 0] by have h := Bxs.new (w) 26 [.bool false, .slice none 0 0, .bool false, .slice none 0 0]; rw [hV]; exact h)
  rw [show w.alloc (.cells #[.bool false, .slice none 0 0, .bool false, .slice none 0 0] 26) = v2 from hV.symm]
  have KG := Lib.hid (KG.out.trans (hbV.mono KG.out.size))
  clear hV hbV
  go_wp2_with fail
  have CT := Lib.hid (cut_k v2 hs HC.out)
  with_reducible refine CT.out.mono ?_
  rintro e w3 ⟨rfl, hb⟩
  clear CT
  have BX1 := Lib.hid (BX1.out.below hb BX1.out.lt)
  have KG := Lib.hid (KG.out.trans (hb.mono KG.out.size))
  clear hb
  go_wp2_with fail
  have CT := Lib.hid (parse_k w3 HSA HZA.out HA.out)
  with_reducible refine CT.out.mono ?_
  rintro e w4 ⟨x5, rfl, hN6, hb⟩
  have N6 := Lib.hid hN6
  clear hN6
  clear CT
  have BX1 := Lib.hid (BX1.out.below hb BX1.out.lt)
  have KG := Lib.hid (KG.out.trans (hb.mono KG.out.size))
  clear hb
  clear N6
  go_upto_region 5 with (fail)
  obtain ⟨v8, hV⟩ : ∃ V, V = w4.alloc (.cells #[.bool x5.s, .slice x5.a x5.n x5.c] 24) := ⟨_, rfl⟩
  have hbV : Below w4.heap.size w4 v8 := by rw [hV]; exact ((Below.refl _ _).alloc (Nat.le_refl _) _)
  have BX7 := Lib.hid (show Bxs v8 (w4.heap.size) 24 [.bool x5.s, .slice x5.a x5.n x5.c] by have h := Bxs.new (w4) 24 [.bool x5.s, .slice x5.a x5.n x5.c]; rw [hV]; exact h)
  rw [show w4.alloc (.cells #[.bool x5.s, .slice x5.a x5.n x5.c] 24) = v8 from hV.symm]
  have BX1 := Lib.hid (BX1.out.below hbV BX1.out.lt)
  have KG := Lib.hid (KG.out.trans (hbV.mono KG.out.size))
  clear hV hbV
  clear BX7
  go_wp2_with fail
  have CT := Lib.hid (parse_k v8 HSB HZB.out HB2.out)
  with_reducible refine CT.out.mono ?_
  rintro e w9 ⟨x10, rfl, hN11, hb⟩
  have N11 := Lib.hid hN11
  clear hN11
  clear CT
  have BX1 := Lib.hid (BX1.out.below hb BX1.out.lt)
  have KG := Lib.hid (KG.out.trans (hb.mono KG.out.size))
  clear hb
  clear N11
  go_upto_region 6 with (fail)
  obtain ⟨v13, hV⟩ : ∃ V, V = w9.alloc (.cells #[.bool x10.s, .slice x10.a x10.n x10.c] 24) := ⟨_, rfl⟩
  have hbV : Below w9.heap.size w9 v13 := by rw [hV]; exact ((Below.refl _ _).alloc (Nat.le_refl _) _)
  have BX12 := Lib.hid (show Bxs v13 (w9.heap.size) 24 [.bool x10.s, .slice x10.a x10.n x10.c] by have h := Bxs.new (w9) 24 [.bool x10.s, .slice x10.a x10.n x10.c]; rw [hV]; exact h)
  rw [show w9.alloc (.cells #[.bool x10.s, .slice x10.a x10.n x10.c] 24) = v13 from hV.symm]
  have BX1 := Lib.hid (BX1.out.below hbV BX1.out.lt)
  have KG := Lib.hid (KG.out.trans (hbV.mono KG.out.size))
  clear hV hbV
  clear BX12
  have cBX10 := BX1.out.cell (i := 0) rfl
  have cBX11 := BX1.out.cell (i := 1) rfl
  have cBX12 := BX1.out.cell (i := 2) rfl
  have cBX13 := BX1.out.cell (i := 3) rfl
  have cBX1f := BX1.out.fz
  have cBX1l := BX1.out.lt
  go_wp2_with fail
  refine bodyPost_ret (results_ct rfl _ _ _ _ _ _ _ rfl ((((BX1.out.put 0 _).put 1 _).put 2 _).put 3 _) Tryz.underlying26 rfl (by kernel_rfl)) rfl ⟨rfl, (((KG.out.setCell (Nat.le_refl _) _).setCell (Nat.le_refl _) _).setCell (Nat.le_refl _) _).setCell (Nat.le_refl _) _⟩
set_option maxRecDepth 100000 in
set_option maxHeartbeats 8000000 in
theorem qparse_y_ok {s : ByteArray} {a b : List UInt8} {z1 z2 : Int} (w : World) (hs : s.size ≤ 9223372036854775807) (hcut : Lib.cut s.data.toList [47] = (a, b, true)) (hsz : a.length ≤ 9223372036854775807) (hsb : b.length ≤ 9223372036854775807) (ha : codeT a = 0) (hza : numT a = z1) (hb2 : codeT b = 0) (hzb : numT b = z2) (hpos : ∃ x r, b = x :: r ∧ x ≠ 45) (hone : b ≠ [48]) (hnz : z2 ≠ 0) : Calls Tryz.prog 12 #[.string s] w (RFE w ((z1 : Rat) / ((z2 : Int) : Rat)) 0) := by
  have KG := Lib.hid (Below.refl w.heap.size w)
  have HC := Lib.hid hcut
  have HSA : (ByteArray.mk a.toArray).size ≤ 9223372036854775807 := by show a.toArray.size ≤ _; rw [List.size_toArray]; exact hsz
  have HSB : (ByteArray.mk b.toArray).size ≤ 9223372036854775807 := by show b.toArray.size ≤ _; rw [List.size_toArray]; exact hsb
  have HA := Lib.hid ha
  have HZA := Lib.hid hza
  have LZz1 := Lib.hid (show lenB z1.natAbs ≤ 23 from by rw [← hza]; exact numT_len a)
  have HB2 := Lib.hid hb2
  have HZB := Lib.hid hzb
  have LZz2 := Lib.hid (show lenB z2.natAbs ≤ 23 from by rw [← hzb]; exact numT_len b)
  have hp0 : 0 < (ByteArray.mk b.toArray).size := by obtain ⟨x, r, rfl, h⟩ := hpos; exact Nat.succ_pos _
  have hp1 : ¬ (((ByteArray.mk b.toArray)[0]'hp0).toNat : Int) = 45 := by obtain ⟨x, r, rfl, h⟩ := hpos; exact fun h2 => h (UInt8.toNat_inj.1 (Int.ofNat_inj.1 h2))
  have hp2 : (b == [48]) = false := beq_eq_false_iff_ne.2 hone
  have HNZ := Lib.hid hnz
  clear hcut hsz hsb ha hza hb2 hzb hpos hone hnz
  obtain ⟨q14, hq14⟩ : ∃ z : Rat, z = (z1 : Rat) / (z2 : Rat) := ⟨_, rfl⟩
  have Hq14 := Lib.hid hq14
  have LQq14 := Lib.hid (show LQ q14 23 by rw [hq14]; exact LQ.make (HNZ.out) (Nat.le_trans LZz1.out (by decide)) (Nat.le_trans LZz2.out (by decide)))
  clear hq14
  go_enter Tryz.func12, Tryz.ntmps12
  go_upto_region 1 with (fail)
  obtain ⟨v2, hV⟩ : ∃ V, V = w.alloc (.cells #[.bool false, .slice none 0 0, .bool false, .slice none 0 0] 26) := ⟨_, rfl⟩
  have hbV : Below w.heap.size w v2 := by rw [hV]; exact ((Below.refl _ _).alloc (Nat.le_refl _) _)
  have BX1 := Lib.hid (show Bxs v2 (w.heap.size) 26 [.bool false, .slice none 0 0, .bool false, .slice none 0 0] by have h := Bxs.new (w) 26 [.bool false, .slice none 0 0, .bool false, .slice none 0 0]; rw [hV]; exact h)
  rw [show w.alloc (.cells #[.bool false, .slice none 0 0, .bool false, .slice none 0 0] 26) = v2 from hV.symm]
  have KG := Lib.hid (KG.out.trans (hbV.mono KG.out.size))
  clear hV hbV
  go_wp2_with fail
  have CT := Lib.hid (cut_k v2 hs HC.out)
  with_reducible refine CT.out.mono ?_
  rintro e w3 ⟨rfl, hb⟩
  clear CT
  have BX1 := Lib.hid (BX1.out.below hb BX1.out.lt)
  have KG := Lib.hid (KG.out.trans (hb.mono KG.out.size))
  clear hb
  go_wp2_with fail
  have CT := Lib.hid (parse_k w3 HSA HZA.out HA.out)
  with_reducible refine CT.out.mono ?_
  rintro e w4 ⟨x5, rfl, hN6, hb⟩
  have N6 := Lib.hid hN6
  clear hN6
  clear CT
  have BX1 := Lib.hid (BX1.out.below hb BX1.out.lt)
  have KG := Lib.hid (KG.out.trans (hb.mono KG.out.size))
  clear hb
  go_upto_region 5 with (fail)
  obtain ⟨v8, hV⟩ : ∃ V, V = w4.alloc (.cells #[.bool x5.s, .slice x5.a x5.n x5.c] 24) := ⟨_, rfl⟩
  have hbV : Below w4.heap.size w4 v8 := by rw [hV]; exact ((Below.refl _ _).alloc (Nat.le_refl _) _)
  have BX7 := Lib.hid (show Bxs v8 (w4.heap.size) 24 [.bool x5.s, .slice x5.a x5.n x5.c] by have h := Bxs.new (w4) 24 [.bool x5.s, .slice x5.a x5.n x5.c]; rw [hV]; exact h)
  rw [show w4.alloc (.cells #[.bool x5.s, .slice x5.a x5.n x5.c] 24) = v8 from hV.symm]
  have N6 := Lib.hid (N6.out.below hbV)
  have BX1 := Lib.hid (BX1.out.below hbV BX1.out.lt)
  have KG := Lib.hid (KG.out.trans (hbV.mono KG.out.size))
  clear hV hbV
  go_wp2_with fail
  have CT := Lib.hid (parse_k v8 HSB HZB.out HB2.out)
  with_reducible refine CT.out.mono ?_
  rintro e w9 ⟨x10, rfl, hN11, hb⟩
  have N11 := Lib.hid hN11
  clear hN11
  clear CT
  have N6 := Lib.hid (N6.out.below hb)
  have BX1 := Lib.hid (BX1.out.below hb BX1.out.lt)
  have BX7 := Lib.hid (BX7.out.below hb BX7.out.lt)
  have KG := Lib.hid (KG.out.trans (hb.mono KG.out.size))
  clear hb
  go_upto_region 6 with (fail)
  obtain ⟨v13, hV⟩ : ∃ V, V = w9.alloc (.cells #[.bool x10.s, .slice x10.a x10.n x10.c] 24) := ⟨_, rfl⟩
  have hbV : Below w9.heap.size w9 v13 := by rw [hV]; exact ((Below.refl _ _).alloc (Nat.le_refl _) _)
  have BX12 := Lib.hid (show Bxs v13 (w9.heap.size) 24 [.bool x10.s, .slice x10.a x10.n x10.c] by have h := Bxs.new (w9) 24 [.bool x10.s, .slice x10.a x10.n x10.c]; rw [hV]; exact h)
  rw [show w9.alloc (.cells #[.bool x10.s, .slice x10.a x10.n x10.c] 24) = v13 from hV.symm]
  have N6 := Lib.hid (N6.out.below hbV)
  have N11 := Lib.hid (N11.out.below hbV)
  have BX1 := Lib.hid (BX1.out.below hbV BX1.out.lt)
  have BX7 := Lib.hid (BX7.out.below hbV BX7.out.lt)
  have KG := Lib.hid (KG.out.trans (hbV.mono KG.out.size))
  clear hV hbV
  have cBX70 := BX7.out.cell (i := 0) rfl
  have cBX71 := BX7.out.cell (i := 1) rfl
  have cBX7f := BX7.out.fz
  have cBX7l := BX7.out.lt
  have cBX120 := BX12.out.cell (i := 0) rfl
  have cBX121 := BX12.out.cell (i := 1) rfl
  have cBX12f := BX12.out.fz
  have cBX12l := BX12.out.lt
  go_wp2_with fail
  have HLO := Lib.hid (show w.heap.size ≤ v13.heap.size from KG.out.size)
  have CT := Lib.hid (qlow N6.out.k (N6.out.k.len LZz1.out (by decide)) N11.out.k (N11.out.k.len LZz2.out (by decide)) (HNZ.out))
  rw [show (z1 : Rat) / (z2 : Rat) = q14 from Hq14.out.symm] at CT
  with_reducible refine CT.out.mono ?_
  rintro e w15 ⟨x16, rfl, hN17, hb⟩
  have N17 := Lib.hid hN17
  clear hN17
  clear CT
  clear cBX70 cBX71 cBX7f cBX7l
  clear cBX120 cBX121 cBX12f cBX12l
  clear N6
  clear N11
  have BX1 := Lib.hid (BX1.out.below hb BX1.out.lt)
  clear BX7
  clear BX12
  have KG := Lib.hid (KG.out.trans (hb.mono KG.out.size))
  clear hb
  have cBX10 := BX1.out.cell (i := 0) rfl
  have cBX11 := BX1.out.cell (i := 1) rfl
  have cBX12 := BX1.out.cell (i := 2) rfl
  have cBX13 := BX1.out.cell (i := 3) rfl
  have cBX1f := BX1.out.fz
  have cBX1l := BX1.out.lt
  go_wp2_with fail
  refine bodyPost_ret (results_ct rfl _ _ _ _ _ _ _ rfl ((((BX1.out.put 0 _).put 1 _).put 2 _).put 3 _) Tryz.underlying26 rfl (by kernel_rfl)) rfl ⟨x16, rfl, ?_, ?_⟩
  · rw [← Hq14.out]
    exact ((((N17.out.setBxs BX1.out (by decide) 0 _).setBxs (BX1.out.put 0 _) (by decide) 1 _).setBxs ((BX1.out.put 0 _).put 1 _) (by decide) 2 _).setBxs (((BX1.out.put 0 _).put 1 _).put 2 _) (by decide) 3 _).mono HLO.out
  · exact (((KG.out.setCell (Nat.le_refl _) _).setCell (Nat.le_refl _) _).setCell (Nat.le_refl _) _).setCell (Nat.le_refl _) _
end Go.Proofs.YtklidpbdgliemaaGreatDoor.Limb
