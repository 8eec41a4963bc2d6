/-
  strings.Cut at a separator of one byte.
-/
import Derived.Test.YtklidpbdgliemaaGreatDoorQwG
import Derived.Test.YtklidpbdgliemaaGreatDoorQwI
import Derived.WalkKit
import Derived.ProofKit
import Derived.OpenShut
import Derived.Deep.DeepHandedRow
import Derived.Lib.LaidTab
import Derived.Lay
import Derived.MakeChecks
import Derived.Stop.LaidErr
import Derived.Deep.DeepWitnessRowRef
import Derived.Lib.CutLaws
set_option linter.unusedSimpArgs false
set_option linter.unusedVariables false
namespace Go.Proofs.YtklidpbdgliemaaGreatDoor.Limb
open Go.RowKit Go.Sort
structure NumR (w : World) (z : Int) (a : Option Addr) (c : Nat) : Prop where
  rd : Rd w a (lenB z.natAbs) (dgi z.natAbs)
  le : lenB z.natAbs ≤ c
theorem NumR.below {w w' : World} {z : Int} {a : Option Addr} {c : Nat} (h : NumR w z a c) (hb : Below w.heap.size w w') : NumR w' z a c := ⟨h.rd.below hb, h.le⟩
abbrev numC (z : Int) (a : Option Addr) (c : Nat) : Value := numV (decide (z < 0)) a (lenB z.natAbs) c
def RetN (w : World) (z : Int) (e : Ending) (w' : World) : Prop := ∃ a c, e = .returned (numC z a c) ∧ NumR w' z a c ∧ Below w.heap.size w w'
def RetD (w : World) (q r : Int) (e : Ending) (w' : World) : Prop := ∃ a c a' c', e = .returned (.tuple #[numC q a c, numC r a' c', .int .i64 0]) ∧ NumR w' q a c ∧ NumR w' r a' c' ∧ Below w.heap.size w w'
open Classical in
set_option maxHeartbeats 1000000 in
theorem sameLimbs_dec (a b : Option Addr) (n m ca cb : Nat) (o p : Nat → Int) (w : World) (ha : Rd w a n o) (hb : Rd w b m p) (hn : n ≤ 1000000000) (hm : m ≤ 1000000000) :
    Calls Tryz.prog 128 #[.slice a n ca, .slice b m cb] w fun e w' => e = .returned (.bool (decide (n = m ∧ ∀ i, i < n → o i = p i))) ∧ ∃ m, w' = w.drewN m := by
  have HA := Lib.hid ha; have HB := Lib.hid hb
  clear ha hb
  obtain ⟨d, hd⟩ : ∃ d, d = decide (n = m ∧ ∀ i, i < n → o i = p i) := ⟨_, rfl⟩
  rw [← hd]
  by_cases hnm : n = m
  · subst hnm
    have Y := Lib.hid (fun (h : ∀ i, i < n → o i = p i) => (hd.trans (decide_eq_true ⟨rfl, h⟩) : d = true))
    have Z := Lib.hid (fun (i : Nat) (hi : i < n) (h : o i ≠ p i) => (hd.trans (decide_eq_false (fun h2 => h (h2.2 i hi))) : d = false))
    clear hd
    go_enter Tryz.func128, Tryz.ntmps128
    go_wp2_with fail
    go_loopw [5] (fun i wr => ∃ t : Nat, t ≤ n ∧ i = .int .i64 t ∧ (∀ j, j < t → o j = p j) ∧ ∃ m, wr = w.drewN m) (fun i _ => n - (intOf i).toNat)
    case atStart => exact ⟨0, by omega, rfl, fun j hj => by omega, 0, rfl⟩
    case round =>
      obtain ⟨t, htn, rfl, he, hm⟩ := hrel
      have HM := Lib.hid hm
      have HE := Lib.hid he
      have cw : ∀ p, wr.cell? p = w.cell? p := by obtain ⟨m, rfl⟩ := hm; intro p; rfl
      clear hm he
      by_cases ht : t < n
      · obtain ⟨b1, o1, rfl, hc1⟩ := HA.out.cells (by omega)
        obtain ⟨b2, o2, rfl, hc2⟩ := HB.out.cells (by omega)
        have c1 : wr.cell? ⟨b1, o1 + t, none⟩ = some (.int .u32 (o t)) := (cw _).trans (hc1 t ht)
        have c2 : wr.cell? ⟨b2, o2 + t, none⟩ = some (.int .u32 (p t)) := (cw _).trans (hc2 t ht)
        obtain ⟨x, hx⟩ : ∃ x, x = o t := ⟨_, rfl⟩
        obtain ⟨y, hy⟩ : ∃ y, y = p t := ⟨_, rfl⟩
        rw [← hx] at c1
        rw [← hy] at c2
        have HXY := Lib.hid (And.intro hx hy)
        clear hc1 hc2 cw hx hy
        by_cases hxy : x = y
        · have hq : (x == y) = true := by simpa using hxy
          subst hxy
          go_wp2_with fail
          go_quiet (fail)
          go_wp2_with fail
          go_roundw
          case rel =>
            refine ⟨t + 1, by omega, by go_num, fun j hj => ?_, by obtain ⟨m, e⟩ := HM.out; exact ⟨_, by rw [e, World.drewN_drewN]⟩⟩
            by_cases e : j = t
            · subst e; rw [← HXY.out.1, ← HXY.out.2]
            · exact HE.out j (by omega)
          case measure => simp [intOf]; omega
        · have hq : (x == y) = false := by simpa using hxy
          have E := Lib.hid (Z.out t ht (by rw [← HXY.out.1, ← HXY.out.2]; exact hxy))
          go_wp2_with fail
          go_quiet (fail)
          go_wp2_with fail
          go_ret
          exact ⟨by rw [E.out]; rfl, by obtain ⟨m, e⟩ := HM.out; exact ⟨_, by rw [e, World.drewN_drewN]⟩⟩
      · obtain rfl : t = n := by omega
        have E := Lib.hid (Y.out HE.out)
        clear cw
        go_wp2_with fail
        go_ret
        exact ⟨by rw [E.out]; rfl, HM.out⟩
  · have hq : ¬ (n : Int) = (m : Int) := by omega
    rw [hd, decide_eq_false (fun h => hnm h.1)]
    clear hd
    go_enter Tryz.func128, Tryz.ntmps128
    go_wp2_with fail
    go_ret
    exact ⟨rfl, 0, rfl⟩
open Classical in
set_option maxHeartbeats 1000000 in
theorem sameC {w : World} {z1 z2 : Int} {a1 a2 : Option Addr} {c1 c2 : Nat} (h1 : NumR w z1 a1 c1) (b1 : lenB z1.natAbs ≤ 10000000) (h2 : NumR w z2 a2 c2) (b2 : lenB z2.natAbs ≤ 10000000) :
    Calls Tryz.prog 55 #[numC z1 a1 c1, numC z2 a2 c2] w fun e w' => e = .returned (.bool (decide (z1 = z2))) ∧ Below w.heap.size w w' := by
  have HC := Lib.hid (fun (w' : World) (h : Below w.heap.size w w') => sameLimbs_dec a1 a2 _ _ c1 c2 _ _ w' (h1.rd.below h) (h2.rd.below h) (by omega) (by omega))
  have HD := Lib.hid (show (decide (z1 < 0) == decide (z2 < 0) && decide (lenB z1.natAbs = lenB z2.natAbs ∧ ∀ i, i < lenB z1.natAbs → dgi z1.natAbs i = dgi z2.natAbs i)) = decide (z1 = z2) by
    by_cases h : z1 = z2
    · subst h; simp
    · rw [decide_eq_false h]
      by_cases hs : decide (z1 < 0) = decide (z2 < 0)
      · rw [hs, beq_self_eq_true, Bool.true_and]
        refine decide_eq_false fun h3 => h ?_
        have h4 := canon_val z1
        have h5 := canon_val z2
        rw [← h4, ← h5, hs, h3.1]
        unfold valN
        have e : sumB (dgi z1.natAbs) (lenB z2.natAbs) = sumB (dgi z2.natAbs) (lenB z2.natAbs) := sumB_congr fun i hi => h3.2 i (by rw [h3.1]; exact hi)
        have k1 : okN (decide (z2 < 0)) (lenB z2.natAbs) (dgi z1.natAbs) := by have := canon_ok z1; rw [hs, h3.1] at this; exact this
        rw [if_pos k1, if_pos (canon_ok z2), e]
      · have : (decide (z1 < 0) == decide (z2 < 0)) = false := by simpa using hs
        rw [this, Bool.false_and])
  obtain ⟨s1, hs1⟩ : ∃ s1, s1 = decide (z1 < 0) := ⟨_, rfl⟩
  obtain ⟨s2, hs2⟩ : ∃ s2, s2 = decide (z2 < 0) := ⟨_, rfl⟩
  obtain ⟨t, ht⟩ : ∃ t, t = decide (lenB z1.natAbs = lenB z2.natAbs ∧ ∀ i, i < lenB z1.natAbs → dgi z1.natAbs i = dgi z2.natAbs i) := ⟨_, rfl⟩
  rw [← hs1, ← hs2, ← ht] at HD
  rw [← ht] at HC
  show Calls Tryz.prog 55 #[numV (decide (z1 < 0)) a1 (lenB z1.natAbs) c1, numV (decide (z2 < 0)) a2 (lenB z2.natAbs) c2] w _
  rw [← hs1, ← hs2, ← HD.out]
  clear h1 h2 hs1 hs2 ht HD
  generalize lenB z1.natAbs = n1 at *
  generalize lenB z2.natAbs = n2 at *
  by_cases hs : s1 = s2
  · have hq : (s1 == s2) = true := by simpa using hs
    rw [hq, Bool.true_and]
    go_enter Tryz.func55, Tryz.ntmps55
    go_wp2_with fail
    refine (HC.out _ ?_).mono ?_
    · (repeat' (first | (with_reducible exact Below.refl _ _) | (with_reducible assumption) | (with_reducible refine Below.alloc ?_ ?_ _) | (with_reducible refine Below.drew ?_) | (with_reducible refine bdrewN ?_ _) | (with_reducible refine Below.setCell ?_ ?_ _) | (with_reducible refine Below.frame ?_ _) | go_size))
    rintro e w1 ⟨rfl, m, rfl⟩
    go_wp2_with fail
    go_ret
    exact ⟨rfl, by (repeat' (first | (with_reducible exact Below.refl _ _) | (with_reducible assumption) | (with_reducible refine Below.alloc ?_ ?_ _) | (with_reducible refine Below.drew ?_) | (with_reducible refine bdrewN ?_ _) | (with_reducible refine Below.setCell ?_ ?_ _) | (with_reducible refine Below.frame ?_ _) | go_size))⟩
  · have hq : (s1 == s2) = false := by simpa using hs
    rw [hq, Bool.false_and]
    go_enter Tryz.func55, Tryz.ntmps55
    go_wp2_with fail
    go_ret
    exact ⟨rfl, by (repeat' (first | (with_reducible exact Below.refl _ _) | (with_reducible assumption) | (with_reducible refine Below.alloc ?_ ?_ _) | (with_reducible refine Below.drew ?_) | (with_reducible refine bdrewN ?_ _) | (with_reducible refine Below.setCell ?_ ?_ _) | (with_reducible refine Below.frame ?_ _) | go_size))⟩
end Go.Proofs.YtklidpbdgliemaaGreatDoor.Limb
namespace Go.Proofs.YtklidpbdgliemaaGreatDoor.Limb
open Go.RowKit Go.Sort Go.Fresh
structure NumA (w : World) (s : Bool) (a : Option Addr) (n c : Nat) (z : Int) : Prop where
  ex : ∃ o, Rd w a n o ∧ valN s n o = z
  le : n ≤ c
theorem NumA.below {w w' : World} {s : Bool} {a : Option Addr} {n c : Nat} {z : Int} (h : NumA w s a n c z) (hb : Below w.heap.size w w') : NumA w' s a n c z := by
  obtain ⟨o, hr, hv⟩ := h.ex
  exact ⟨⟨o, hr.below hb, hv⟩, h.le⟩
theorem NumR.any {w : World} {z : Int} {a : Option Addr} {c : Nat} (h : NumR w z a c) : NumA w (decide (z < 0)) a (lenB z.natAbs) c z := ⟨⟨_, h.rd, canon_val z⟩, h.le⟩
structure NumO (w : World) (b : Nat) (z : Int) (a : Option Addr) (c : Nat) : Prop where
  own : Own 80 w b a (lenB z.natAbs) c (dgi z.natAbs)
theorem NumO.below {w w' : World} {b : Nat} {z : Int} {a : Option Addr} {c : Nat} (h : NumO w b z a c) (hb : Below w.heap.size w w') : NumO w' b z a c := ⟨h.own.below hb⟩
theorem NumO.mono {w : World} {b b' : Nat} {z : Int} {a : Option Addr} {c : Nat} (h : NumO w b z a c) (hb : b' ≤ b) : NumO w b' z a c := ⟨h.own.mono hb⟩
theorem NumO.r {w : World} {b : Nat} {z : Int} {a : Option Addr} {c : Nat} (h : NumO w b z a c) : NumR w z a c := ⟨h.own.rd, h.own.le⟩
theorem NumO.any {w : World} {b : Nat} {z : Int} {a : Option Addr} {c : Nat} (h : NumO w b z a c) : NumA w (decide (z < 0)) a (lenB z.natAbs) c z := h.r.any
theorem NumO.setBox {w : World} {b : Nat} {z : Int} {a : Option Addr} {c : Nat} (h : NumO w b z a c) {g : Nat} {t : TypeId} {x y : Value} (hb : Bx w g t x y) (ht : 80 ≠ t) (i : Nat) (v : Value) : NumO (w.setCell ⟨g, i, none⟩ v) b z a c := by
  refine ⟨⟨h.own.le, h.own.place.imp id fun ⟨p, cur, ha, hg, hc, hr⟩ => ⟨p, cur, ha, hg, ?_, hr⟩, h.own.rng⟩⟩
  rw [Below.heap_setCell _ _ _ _ ?_]
  · exact hc
  · intro e
    have e : p = g := e
    subst e
    have hb' : w.heap[p]? = some (.cells #[x, y] t (0, 0)) := hb
    rw [hc] at hb'
    cases hb'
    exact ht rfl
def RetO (w : World) (z : Int) (e : Ending) (w' : World) : Prop := ∃ a c, e = .returned (numC z a c) ∧ NumO w' w.heap.size z a c ∧ Below w.heap.size w w'
def RetOD (w : World) (q r : Int) (e : Ending) (w' : World) : Prop := ∃ a c a' c', e = .returned (.tuple #[numC q a c, numC r a' c', .int .i64 0]) ∧ NumO w' w.heap.size q a c ∧ NumO w' w.heap.size r a' c' ∧ Below w.heap.size w w'
theorem textA {w : World} {s1 : Bool} {n1 : Nat} {z1 : Int} {a1 : Option Addr} {c1 : Nat} (h1 : NumA w s1 a1 n1 c1 z1) (b1 : n1 ≤ 10000000) (ht : Tab w) :
    Calls Tryz.prog 53 #[numV s1 a1 n1 c1] w fun e w' => e = .returned (.string ⟨(Lib.itoa z1).toArray⟩) ∧ Below w.heap.size w w' := by
  obtain ⟨o1, r1, rfl⟩ := h1.ex
  exact text_any s1 a1 _ c1 _ w r1 (by omega) h1.le ht
theorem lenZ_val (s : Bool) (n : Nat) (o : Nat → Int) (h : ∀ i, i < n → 0 ≤ o i ∧ o i ≤ 4294967295) : lenB (valN s n o).natAbs ≤ n := by
  by_cases hk : okN s n o
  · obtain ⟨f1, f2, f3⟩ := of_facts s n o hk h
    omega
  · rw [show valN s n o = 0 by unfold valN; rw [if_neg hk]]
    simp [lenB_zero]
theorem NumA.len {w : World} {s : Bool} {a : Option Addr} {n c : Nat} {z : Int} (h : NumA w s a n c z) : lenB z.natAbs ≤ n := by
  obtain ⟨o, hr, rfl⟩ := h.ex
  exact lenZ_val s n o hr.rng
end Go.Proofs.YtklidpbdgliemaaGreatDoor.Limb
namespace Go.Proofs.YtklidpbdgliemaaGreatDoor.Limb
end Go.Proofs.YtklidpbdgliemaaGreatDoor.Limb
namespace Go.Proofs.YtklidpbdgliemaaGreatDoor.Limb
open Go.RowKit Go.Sort Go.Fresh
theorem len1 {z : Int} (h1 : -9223372036854775808 ≤ z) (h2 : z ≤ 9223372036854775807) : lenB z.natAbs ≤ 3 := len3 (by omega)
end Go.Proofs.YtklidpbdgliemaaGreatDoor.Limb
namespace Go.Proofs.YtklidpbdgliemaaGreatDoor.Limb
open Go.RowKit Go.Sort
structure NV where
  s : Bool
  a : Option Addr
  n : Nat
  c : Nat
abbrev NV.v (x : NV) : Value := .agg #[.bool x.s, .slice x.a x.n x.c]
theorem NV.inj {x y : NV} (h : x.v = y.v) : x = y := by
  cases x; cases y
  simp only [Value.agg.injEq, Array.mk.injEq, List.cons.injEq, Value.bool.injEq, Value.slice.injEq, and_true] at h
  obtain ⟨rfl, rfl, rfl, rfl⟩ := h
  rfl
abbrev AN (w : World) (x : NV) (z : Int) : Prop := NumA w x.s x.a x.n x.c z
structure KN (w : World) (x : NV) (z : Int) : Prop where
  s : x.s = decide (z < 0)
  n : x.n = lenB z.natAbs
  rd : Rd w x.a x.n (dgi z.natAbs)
  le : x.n ≤ x.c
structure DN (w : World) (lo : Nat) (x : NV) (z : Int) : Prop where
  s : x.s = decide (z < 0)
  n : x.n = lenB z.natAbs
  own : Own 80 w lo x.a x.n x.c (dgi z.natAbs)
structure XN (w : World) (x : NV) : Prop where
  ex : ∃ o, Rd w x.a x.n o ∧ ¬ okN x.s x.n o
  le : x.n ≤ x.c
theorem KN.below {w w' : World} {x : NV} {z : Int} (h : KN w x z) (hb : Below w.heap.size w w') : KN w' x z := ⟨h.s, h.n, h.rd.below hb, h.le⟩
theorem DN.below {w w' : World} {lo : Nat} {x : NV} {z : Int} (h : DN w lo x z) (hb : Below w.heap.size w w') : DN w' lo x z := ⟨h.s, h.n, h.own.below hb⟩
theorem XN.below {w w' : World} {x : NV} (h : XN w x) (hb : Below w.heap.size w w') : XN w' x := by
  obtain ⟨o, hr, hk⟩ := h.ex
  exact ⟨⟨o, hr.below hb, hk⟩, h.le⟩
theorem DN.mono {w : World} {lo lo' : Nat} {x : NV} {z : Int} (h : DN w lo x z) (hl : lo' ≤ lo) : DN w lo' x z := ⟨h.s, h.n, h.own.mono hl⟩
theorem DN.k {w : World} {lo : Nat} {x : NV} {z : Int} (h : DN w lo x z) : KN w x z := ⟨h.s, h.n, h.own.rd, h.own.le⟩
theorem KN.r {w : World} {x : NV} {z : Int} (h : KN w x z) : x.v = numC z x.a x.c ∧ NumR w z x.a x.c := by
  refine ⟨?_, ⟨by rw [← h.n]; exact h.rd, by rw [← h.n]; exact h.le⟩⟩
  show Value.agg #[.bool x.s, .slice x.a x.n x.c] = _
  rw [h.s, h.n]
theorem KN.any {w : World} {x : NV} {z : Int} (h : KN w x z) : AN w x z := by
  have h2 := h.r.2.any
  rw [← h.s, ← h.n] at h2
  exact h2
theorem XN.any {w : World} {x : NV} (h : XN w x) : AN w x 0 := by
  obtain ⟨o, hr, hk⟩ := h.ex
  exact ⟨⟨o, hr, by unfold valN; rw [if_neg hk]⟩, h.le⟩
theorem KN.len {w : World} {x : NV} {z : Int} {k m : Nat} (h : KN w x z) (hz : lenB z.natAbs ≤ k) (hk : k ≤ m) : x.n ≤ m := by rw [h.n]; omega
theorem KN.raw {w : World} {s : Bool} {a : Option Addr} {n c : Nat} {o : Nat → Int} (h : Rd w a n o) (hc : n ≤ c) (hk : okN s n o) : KN w ⟨s, a, n, c⟩ (valN s n o) := by
  obtain ⟨f1, f2, f3⟩ := of_facts s n o hk h.rng
  exact ⟨f1.symm, f2.symm, h.congr f3, hc⟩
theorem XN.raw {w : World} {s : Bool} {a : Option Addr} {n c : Nat} {o : Nat → Int} (h : Rd w a n o) (hc : n ≤ c) (hk : ¬ okN s n o) : XN w ⟨s, a, n, c⟩ := ⟨⟨o, h, hk⟩, hc⟩
theorem AN.raw {w : World} {s : Bool} {a : Option Addr} {n c : Nat} {o : Nat → Int} (h : Rd w a n o) (hc : n ≤ c) : AN w ⟨s, a, n, c⟩ (valN s n o) := ⟨⟨o, h, rfl⟩, hc⟩
theorem KN.zero (w : World) (a : Option Addr) (c : Nat) : KN w ⟨false, a, 0, c⟩ 0 := by
  refine ⟨rfl, ?_, Rd.nil w a _, Nat.zero_le _⟩
  exact lenB_zero.symm
def RN (w : World) (z : Int) (e : Ending) (w' : World) : Prop := ∃ x : NV, e = .returned x.v ∧ DN w' w.heap.size x z ∧ Below w.heap.size w w'
def RNN (w : World) (q r c : Int) (e : Ending) (w' : World) : Prop := ∃ x y : NV, e = .returned (.tuple #[x.v, y.v, .int .i64 c]) ∧ DN w' w.heap.size x q ∧ DN w' w.heap.size y r ∧ Below w.heap.size w w'
theorem RNN.zero {w : World} {c : Int} {e : Ending} {w' : World} (h : e = .returned (.tuple #[numV false none 0 0, numV false none 0 0, .int .i64 c]) ∧ Below w.heap.size w w') : RNN w 0 0 c e w' := by
  obtain ⟨rfl, hb⟩ := h
  have h0 : DN w' w.heap.size ⟨false, none, 0, 0⟩ 0 := ⟨rfl, lenB_zero.symm, ⟨Nat.le_refl _, Or.inl ⟨rfl, rfl, rfl⟩, fun i h => absurd h (Nat.not_lt_zero i)⟩⟩
  exact ⟨_, _, rfl, h0, h0, hb⟩
theorem textN {w : World} {x : NV} {p : Int} (h1 : AN w x p) (b1 : x.n ≤ 10000000) (ht : Tab w) : Calls Tryz.prog 53 #[x.v] w fun e w' => e = .returned (.string ⟨(Lib.itoa p).toArray⟩) ∧ Below w.heap.size w w' := textA h1 b1 ht
open Classical in
theorem sameN {w : World} {x y : NV} {p q : Int} (h1 : KN w x p) (b1 : x.n ≤ 10000000) (h2 : KN w y q) (b2 : y.n ≤ 10000000) : Calls Tryz.prog 55 #[x.v, y.v] w fun e w' => e = .returned (.bool (decide (p = q))) ∧ Below w.heap.size w w' := by
  have k1 := h1.r
  have k2 := h2.r
  rw [k1.1, k2.1]
  exact sameC k1.2 (by rw [← h1.n]; exact b1) k2.2 (by rw [← h2.n]; exact b2)
theorem sameTN {w : World} {x y : NV} {p q : Int} (h1 : KN w x p) (b1 : x.n ≤ 10000000) (h2 : KN w y q) (b2 : y.n ≤ 10000000) (e : p = q) : Calls Tryz.prog 55 #[x.v, y.v] w fun e w' => e = .returned (.bool true) ∧ Below w.heap.size w w' := by
  have h := sameN h1 b1 h2 b2
  rw [decide_eq_true e] at h
  exact h
def NV.blk (x : NV) (b : Nat) : Prop := ∃ p : Addr, x.a = some p ∧ p.block = b
theorem Own.kept {w w' : World} {lo : Nat} {a : Option Addr} {n c : Nat} {o : Nat → Int} (h : Own 80 w lo a n c o) (hk : ∀ b, (∃ p : Addr, a = some p ∧ p.block = b) → w'.heap[b]? = w.heap[b]?) : Own 80 w' lo a n c o :=
  ⟨h.le, h.place.imp id fun ⟨g, cur, ha, hg, hc, hr⟩ => ⟨g, cur, ha, hg, (hk g ⟨_, ha, rfl⟩).trans hc, hr⟩, h.rng⟩
theorem DN.kept {w w' : World} {lo : Nat} {x : NV} {z : Int} (h : DN w lo x z) (hk : ∀ b, x.blk b → w'.heap[b]? = w.heap[b]?) : DN w' lo x z := ⟨h.s, h.n, h.own.kept hk⟩
structure NV2 where
  p : NV
  q : NV
abbrev NV2.v (c : Int) (x : NV2) : Value := .tuple #[x.p.v, x.q.v, .int .i64 c]
def NV2.blk (x : NV2) (b : Nat) : Prop := x.p.blk b ∨ x.q.blk b
theorem NV2.inj (c : Int) (x y : NV2) (h : x.v c = y.v c) : x = y := by
  simp only [Value.tuple.injEq, Array.mk.injEq, List.cons.injEq, and_true] at h
  cases x; cases y
  have h1 := NV.inj h.1
  have h2 := NV.inj h.2
  dsimp only at h1 h2
  rw [h1, h2]
theorem Shaped.trans {a b c : World} (h : Go.FreshS.Shaped a b) (k : Go.FreshS.Shaped b c) : Go.FreshS.Shaped a c := by
  refine ⟨Nat.le_trans h.size k.size, fun i x T hx => ?_⟩
  obtain ⟨y, hy, e⟩ := h.shape i x T hx
  obtain ⟨z, hz, f⟩ := k.shape i y T hy
  exact ⟨z, hz, f.trans e⟩
theorem Own.setBxs {w : World} {lo : Nat} {a : Option Addr} {n c : Nat} {o : Nat → Int} (h : Own 80 w lo a n c o) {g : Nat} {t : TypeId} {l : List Value} (hb : Bxs w g t l) (ht : 80 ≠ t) (i : Nat) (v : Value) : Own 80 (w.setCell ⟨g, i, none⟩ v) lo a n c o := by
  refine ⟨h.le, h.place.imp id fun ⟨p, cur, ha, hg, hc, hr⟩ => ⟨p, cur, ha, hg, ?_, hr⟩, h.rng⟩
  rw [Below.heap_setCell _ _ _ _ ?_]
  · exact hc
  · intro e
    have e : p = g := e
    subst e
    have hb' : w.heap[p]? = some (.cells l.toArray t (0, 0)) := hb
    rw [hc] at hb'
    cases hb'
    exact ht rfl
def notInt : Value → Bool
  | .int _ _ => false
  | _ => true
theorem Rd.setBxs {w : World} {a : Option Addr} {n : Nat} {o : Nat → Int} (h : Rd w a n o) {g : Nat} {t : TypeId} {l : List Value} (hb : Bxs w g t l) (hl : l.all notInt = true) (i : Nat) (v : Value) : Rd (w.setCell ⟨g, i, none⟩ v) a n o := by
  refine ⟨fun hn => ?_, h.rng⟩
  obtain ⟨b, off, e, hc⟩ := h.cells hn
  refine ⟨b, off, e, fun j hj => ?_⟩
  have hbg : b ≠ g := fun e2 => by
    subst e2
    have h1 := hc j hj
    rw [cell_of_row _ _ _ _ _ _ hb] at h1
    have h2 : uc o j ∈ l := by
      have : l.toArray[off + j]? = some (uc o j) := h1
      rw [List.getElem?_toArray] at this
      exact List.mem_of_getElem? this
    have h3 := List.all_eq_true.1 hl _ h2
    simp [notInt] at h3
  rw [← hc j hj]
  simp only [World.cell?]
  rw [Below.heap_setCell _ _ _ _ (fun e2 => hbg e2)]
theorem KN.setBxs {w : World} {x : NV} {z : Int} (h : KN w x z) {g : Nat} {t : TypeId} {l : List Value} (hb : Bxs w g t l) (hl : l.all notInt = true) (i : Nat) (v : Value) : KN (w.setCell ⟨g, i, none⟩ v) x z := ⟨h.s, h.n, h.rd.setBxs hb hl i v, h.le⟩
theorem DN.setBxs {w : World} {lo : Nat} {x : NV} {z : Int} (h : DN w lo x z) {g : Nat} {t : TypeId} {l : List Value} (hb : Bxs w g t l) (ht : 80 ≠ t) (i : Nat) (v : Value) : DN (w.setCell ⟨g, i, none⟩ v) lo x z := ⟨h.s, h.n, h.own.setBxs hb ht i v⟩
theorem dg_div (N i k : Nat) (hk : k < 9) : (dg N i / 10 ^ k) % 10 = N / 10 ^ (9 * i + k) % 10 := by
  unfold dg
  rw [pw_ten, Nat.pow_add, ← Nat.div_div_eq_div_mul]
  generalize N / 10 ^ (9 * i) = M
  rw [show (1000000000 : Nat) = 10 ^ k * 10 ^ (9 - k) by rw [← Nat.pow_add, show k + (9 - k) = 9 by omega], Nat.mod_mul_right_div_self, show (10 : Nat) ^ (9 - k) = 10 * 10 ^ (8 - k) by rw [← Nat.pow_succ', show (8 - k).succ = 9 - k by omega], Nat.mod_mul_right_mod]
theorem digit_at (d n : Nat) (h : d < 10) (hn : n = d + 1) : (ByteArray.mk #[48, 49, 50, 51, 52, 53, 54, 55, 56, 57]).extract d n = ⟨[UInt8.ofNat (48 + d)].toArray⟩ := by
  subst hn
  match d, h with
  | 0, _ => decide +kernel
  | 1, _ => decide +kernel
  | 2, _ => decide +kernel
  | 3, _ => decide +kernel
  | 4, _ => decide +kernel
  | 5, _ => decide +kernel
  | 6, _ => decide +kernel
  | 7, _ => decide +kernel
  | 8, _ => decide +kernel
  | 9, _ => decide +kernel
theorem app_one (c : UInt8) (l : List UInt8) : (ByteArray.mk [c].toArray) ++ (ByteArray.mk l.toArray) = ⟨(c :: l).toArray⟩ := by
  apply ByteArray.ext
  simp
def txtN (N i : Nat) : List UInt8 := if i < lenB N then padD (9 * i) N else if N = 0 then [] else Lib.decDigits N
theorem txtN_zero (N : Nat) : txtN N 0 = [] := by
  unfold txtN
  split
  · rfl
  · rename_i h
    rw [if_pos]
    refine Classical.byContradiction fun hn => h ?_
    rw [lenB_pos hn]; omega
theorem txtN_mid {N i : Nat} (h : i + 1 < lenB N) : padD (9 * i + 9) N = txtN N (i + 1) := by
  unfold txtN; rw [if_pos h, show 9 * (i + 1) = 9 * i + 9 by omega]
theorem txtN_last {N i k : Nat} (h : i + 1 = lenB N) (hk : k ≤ 9) (hz : dg N i / 10 ^ k = 0) (hp : k = 0 ∨ dg N i / 10 ^ (k - 1) ≠ 0) : padD (9 * i + k) N = txtN N (i + 1) := by
  have hN : N ≠ 0 := fun e => by rw [e, lenB_zero] at h; omega
  unfold txtN
  rw [if_neg (by omega), if_neg hN, ← pad_self]
  congr 1
  -- dg N i is all that is above
  have hlt := lt_pw_lenB N
  rw [← h, pw_succ] at hlt
  have hd : dg N i = N / pw i := by
    unfold dg
    rw [Nat.mod_eq_of_lt]
    exact Nat.div_lt_of_lt_mul (by rw [Nat.mul_comm]; exact Nat.lt_of_lt_of_le hlt (Nat.le_of_eq (Nat.mul_comm _ _)))
  have e : ∀ j, dg N i / 10 ^ j = N / 10 ^ (9 * i + j) := fun j => by rw [hd, pw_ten, Nat.div_div_eq_div_mul, ← Nat.pow_add]
  rw [e] at hz
  have h1 : N < 10 ^ (9 * i + k) := by
    have hpos : 0 < 10 ^ (9 * i + k) := Nat.pow_pos (by omega)
    exact (Nat.div_eq_zero_iff_lt hpos).1 hz
  rcases hp with rfl | hp
  · exfalso
    have h2 := dg_last hN
    rw [← h, Nat.add_sub_cancel] at h2
    rw [← e, Nat.pow_zero, Nat.div_one] at hz
    exact h2 hz
  · rw [e] at hp
    have h2 : 10 ^ (9 * i + (k - 1)) ≤ N := Nat.le_of_not_lt fun hl => hp (Nat.div_eq_of_lt hl)
    have hk0 : k ≠ 0 := fun ek => by
      subst ek
      rw [Nat.zero_sub] at h2
      rw [Nat.add_zero] at h1 h2
      omega
    obtain ⟨j, rfl⟩ : ∃ j, k = j + 1 := ⟨k - 1, by omega⟩
    rw [Nat.add_sub_cancel] at h2
    have := Lib.nDigits_unique (9 * i + j) N h2 (by rw [Nat.add_assoc]; exact h1)
    omega
theorem nDigN_le : ∀ (k n : Nat), n < 10 ^ (k + 1) → Lib.nDigits n ≤ k + 1
  | 0, n, h => by rw [Lib.nDigits_small (by simpa using h)]; omega
  | k + 1, n, h => by
    by_cases hn : n < 10
    · rw [Lib.nDigits_small hn]; omega
    · rw [Lib.nDigits_big hn]
      have := nDigN_le k (n / 10) (by rw [Nat.pow_succ] at h; omega)
      omega
theorem itoa_lenN {z : Int} {N K : Nat} (h : lenB N ≤ K) (hz : N = z.natAbs) : Lib.nDigits z.natAbs ≤ 9 * K + 1 := by
  rw [← hz]
  refine nDigN_le (9 * K) _ ?_
  have h2 := Nat.lt_of_lt_of_le (lt_pw_lenB N) (pw_le h)
  rw [pw_ten] at h2
  exact Nat.lt_of_lt_of_le h2 (Nat.pow_le_pow_right (by omega) (by omega))
set_option maxRecDepth 100000 in
set_option maxHeartbeats 2000000 in
theorem rtextN {w : World} {x : NV} {z : Int} (h1 : AN w x z) (b1 : x.n ≤ 10000000) : Calls Tryz.prog 54 #[x.v] w fun e w' => e = .returned (.string ⟨(Lib.itoa z).toArray⟩) ∧ Below w.heap.size w w' := by
  obtain ⟨o, hr, hv⟩ := h1.ex
  obtain ⟨a', c', hr', hle, hc', FIT⟩ := fit_any x.s x.a x.n x.c o w hr (by omega) h1.le
  rw [hv] at hr' hle hc' FIT
  obtain ⟨N, hN⟩ : ∃ N, N = z.natAbs := ⟨_, rfl⟩
  rw [← hN] at hr' hle hc' FIT
  have HR := Lib.hid hr'
  have HL := Lib.hid (show lenB N ≤ 10000000 by omega)
  have HZ := Lib.hid hN
  clear h1 hr hv hr' hle hc' hN b1
  have B0 := Lib.hid (Bx.new w 24 (.bool x.s) (.slice x.a x.n x.c))
  obtain ⟨V, hV⟩ : ∃ V, V = w.alloc (.cells #[.bool x.s, .slice x.a x.n x.c] 24) := ⟨_, rfl⟩
  rw [← hV] at B0
  have hb0 : Below w.heap.size w V := by rw [hV]; exact (Below.refl _ _).alloc (Nat.le_refl _) _
  have HV := Lib.hid hV
  have FT := Lib.hid (FIT V hb0)
  have HB0 := Lib.hid hb0
  clear hV FIT hb0
  go_enter Tryz.func54, Tryz.ntmps54
  go_upto_region 1 with (fail)
  rw [show w.alloc (.cells #[.bool x.s, .slice x.a x.n x.c] 24) = V from HV.out.symm]
  clear HV
  obtain ⟨x0, x1, x2, x3⟩ := B0.out.all
  go_wp2_with fail
  refine FT.out.mono ?_
  rintro e w1 ⟨rfl, hb1⟩
  have B1 := Lib.hid (B0.out.below hb1 B0.out.lt)
  have KG := Lib.hid (HB0.out.trans (hb1.mono HB0.out.size))
  have RD := Lib.hid (HR.out.below (HB0.out.trans (hb1.mono HB0.out.size)))
  clear hb1 FT x0 x1 x2 x3 B0 HB0 HR
  obtain ⟨x0, x1, x2, x3⟩ := B1.out.all
  go_upto_region 2 with (fail)
  obtain ⟨W, hW⟩ : ∃ W, W = (w1.setCell ⟨w.heap.size, 0, none⟩ (.bool (decide (z < 0)))).setCell ⟨w.heap.size, 1, none⟩ (.slice a' (lenB N) c') := ⟨_, rfl⟩
  have B2 := Lib.hid (show Bx W w.heap.size 24 (.bool (decide (z < 0))) (.slice a' (lenB N) c') by rw [hW]; exact B1.out.set _ _)
  have KW := Lib.hid (show Below w.heap.size w W by rw [hW]; exact (KG.out.setCell (Nat.le_refl _) _).setCell (Nat.le_refl _) _)
  have RW := Lib.hid (show Rd W a' (lenB N) (dgi N) by rw [hW]; exact (RD.out.setBxs (l := [.bool x.s, .slice x.a x.n x.c]) B1.out rfl 0 _).setBxs (l := [.bool (decide (z < 0)), .slice x.a x.n x.c]) (B1.out.set0 _) rfl 1 _)
  rw [show (w1.setCell ⟨w.heap.size, 0, none⟩ (.bool (decide (z < 0)))).setCell ⟨w.heap.size, 1, none⟩ (.slice a' (lenB N) c') = W from hW.symm]
  clear hW x0 x1 x2 x3 B1 KG RD
  obtain ⟨x0, x1, x2, x3⟩ := B2.out.all
  go_upto_region 3 with (fail)
  go_wp2_with fail
  go_loop [3, 4] (fun s i => ∃ (j : Nat) (sb : ByteArray), j ≤ lenB N ∧ s = .string sb ∧ i = .int .i64 j ∧ sb = ⟨(txtN N j).toArray⟩) (fun _ i => lenB N - (intOf i).toNat)
  case atStart => exact ⟨0, _, Nat.zero_le _, rfl, rfl, by rw [txtN_zero]⟩
  case round =>
    obtain ⟨j, sb, hj, rfl, rfl, hsb⟩ := hrel
    have hl := HL.out
    by_cases hlt : j < lenB N
    · have h1 : (j : Int) < ((lenB N : Nat) : Int) := by omega
      obtain ⟨g, off, ha, hcell⟩ := RW.out.cells (by omega)
      have hc := hcell j hlt
      rw [ha] at x1
      have HC := Lib.hid hcell
      have HRG := Lib.hid (dg_lt N j)
      have HT := Lib.hid (show sb = ⟨(padD (9 * j) N).toArray⟩ by rw [hsb]; unfold txtN; rw [if_pos hlt])
      clear hsb
      have hc : W.cell? ⟨g, off + j, none⟩ = some (.int .u32 ((dg N j : Nat) : Int)) := hc
      go_wp2_with fail
      go_loop [3, 5, 6] (fun s n k => ∃ (m : Nat) (nn : Int) (sb : ByteArray), m ≤ 9 ∧ s = .string sb ∧ n = .int .u32 nn ∧ k = .int .i64 m ∧ sb = ⟨(padD (9 * j + m) N).toArray⟩ ∧ nn = (dg N j / 10 ^ m : Nat) ∧ (j + 1 < lenB N ∨ m = 0 ∨ dg N j / 10 ^ (m - 1) ≠ 0)) (fun _ _ k => 9 - (intOf k).toNat)
      case atStart => exact ⟨0, _, _, by omega, rfl, rfl, rfl, HT.out, by rw [Nat.pow_zero, Nat.div_one], .inr (.inl rfl)⟩
      case round =>
        obtain ⟨m, nn, pb, hm, rfl, rfl, rfl, hpb, hnn, hla⟩ := hrel
        have HPB := Lib.hid hpb
        have HNN := Lib.hid hnn
        have HLA := Lib.hid hla
        have hn9 : nn < 1000000000 := by have h2 := HRG.out; have h3 := Nat.div_le_self (dg N j) (10 ^ m); omega
        have hn0 : 0 ≤ nn := by rw [hnn]; exact Int.natCast_nonneg _
        have hps : pb.size = 9 * j + m := by rw [hpb]; show (padD (9 * j + m) N).toArray.size = _; rw [List.size_toArray, padD_length]
        clear hpb hnn hla
        have ej : IntKind.i64.wrap ((j : Int) + 1) = (j : Int) + 1 := IntWalk.i64_in _ (by omega)
        by_cases hgo : m < 9 ∧ (0 < nn ∨ j + 1 < lenB N)
        · obtain ⟨hm9, hgo⟩ := hgo
          have gm : (m : Int) < 9 := by omega
          obtain ⟨d, hd⟩ : ∃ d : Nat, d = dg N j / 10 ^ m % 10 := ⟨_, rfl⟩
          have hd10 : d < 10 := by omega
          have er : nn.tmod 10 = (d : Int) := by rw [HNN.out, hd]; exact Int.ofNat_tmod _ _
          obtain ⟨d1, hd1⟩ : ∃ k : Nat, k = d + 1 := ⟨_, rfl⟩
          have erw : IntKind.u32.wrap (d : Int) = (d : Int) := IntWalk.u32_in _ (by omega)
          have ea : IntKind.u32.wrap ((d : Int) + 1) = (d1 : Int) := by rw [IntWalk.u32_in _ (by omega)]; omega
          have k1 : (0 : Int) ≤ (d : Int) := by omega
          have k2 : (d : Int) ≤ (d1 : Int) := by omega
          have k3 : (d1 : Int) ≤ 10 := by omega
          have k4 : d ≤ d1 := by omega
          have k5 : d1 ≤ 10 := by omega
          obtain ⟨C, hC⟩ : ∃ C, C = ByteArray.mk [UInt8.ofNat (48 + d)].toArray := ⟨_, rfl⟩
          have hex : (ByteArray.mk #[48, 49, 50, 51, 52, 53, 54, 55, 56, 57]).extract d d1 = C := by rw [hC]; exact digit_at d d1 hd10 hd1
          have hcs : C.size = 1 := by rw [hC]; rfl
          obtain ⟨Q, hQ⟩ : ∃ Q, Q = C ++ pb := ⟨_, rfl⟩
          have happ : C ++ pb = Q := hQ.symm
          have HQ := Lib.hid (show Q = ⟨(padD (9 * j + (m + 1)) N).toArray⟩ by
            rw [hQ, hC, HPB.out, app_one, ← Nat.add_assoc, padD_front, hd, dg_div N j m hm9])
          have hlim : ¬ (9223372036854775807 < C.size + pb.size) := by omega
          obtain ⟨q, hq⟩ : ∃ q : Int, q = (dg N j / 10 ^ (m + 1) : Nat) := ⟨_, rfl⟩
          have eq1 : nn.tdiv 10 = q := by
            rw [HNN.out, hq, Nat.pow_succ, ← Nat.div_div_eq_div_mul]; exact Int.ofNat_tdiv _ _
          have eq2 : IntKind.u32.wrap q = q := IntWalk.u32_in _ (by
            have h5 := Nat.div_le_self (dg N j) (10 ^ (m + 1))
            have h6 := HRG.out
            have h7 : 0 ≤ q := by rw [hq]; exact Int.natCast_nonneg _
            generalize dg N j / 10 ^ (m + 1) = X at h5 hq
            omega)
          have HQ2 := Lib.hid hq
          have HLA2 := Lib.hid (show j + 1 < lenB N ∨ m + 1 = 0 ∨ dg N j / 10 ^ (m + 1 - 1) ≠ 0 by
            rcases hgo with h | h
            · right; right
              rw [Nat.add_sub_cancel]
              intro e
              have h2 := HNN.out
              rw [e] at h2
              omega
            · exact .inl h)
          clear hd hd1 hC hQ hq hcs hps
          by_cases hpos : 0 < nn
          · clear hgo
            go_wp2_with fail
            go_round
            case rel => exact ⟨m + 1, q, Q, by omega, rfl, rfl, by go_num, HQ.out, HQ2.out, HLA2.out⟩
            case measure => simp [intOf]; omega
          · have hgo' : (j : Int) + 1 < ((lenB N : Nat) : Int) := by omega
            clear hgo
            go_wp2_with fail
            go_round
            case rel => exact ⟨m + 1, q, Q, by omega, rfl, rfl, by go_num, HQ.out, HQ2.out, HLA2.out⟩
            case measure => simp [intOf]; omega
        · have HE := Lib.hid (show pb = ⟨(txtN N (j + 1)).toArray⟩ by
            rw [HPB.out]
            by_cases h9 : j + 1 < lenB N
            · obtain rfl : m = 9 := by omega
              rw [txtN_mid h9]
            · rw [txtN_last (by omega) hm ?_ (HLA.out.resolve_left h9)]
              by_cases hm9 : m = 9
              · subst hm9; exact Nat.div_eq_of_lt HRG.out
              · have h5 : ¬ 0 < nn := fun h => hgo ⟨by omega, .inl h⟩
                have h6 := HNN.out
                generalize dg N j / 10 ^ m = X at h6
                omega)
          by_cases hm9 : m < 9
          · have gm : (m : Int) < 9 := by omega
            have hz : ¬ (0 < nn) := fun h => hgo ⟨hm9, .inl h⟩
            have hj1 : ¬ ((j : Int) + 1 < ((lenB N : Nat) : Int)) := fun h => hgo ⟨hm9, .inr (by omega)⟩
            clear hgo
            go_wp2_with fail
            go_round
            case rel => first | exact ⟨j + 1, pb, by omega, rfl, by go_num, HE.out⟩ | exact ⟨j + 1, by omega, by go_num, HE.out⟩ | exact ⟨j + 1, by omega, HE.out, by omega⟩
            case measure => simp [intOf]; omega
          · have gm : ¬ (m : Int) < 9 := by omega
            clear hgo
            go_wp2_with fail
            go_round
            case rel => first | exact ⟨j + 1, pb, by omega, rfl, by go_num, HE.out⟩ | exact ⟨j + 1, by omega, by go_num, HE.out⟩ | exact ⟨j + 1, by omega, HE.out, by omega⟩
            case measure => simp [intOf]; omega
    · have h1 : ¬ (j : Int) < ((lenB N : Nat) : Int) := by omega
      obtain rfl : j = lenB N := by omega
      have HE := Lib.hid (show sb = ⟨(if N = 0 then [] else Lib.decDigits N).toArray⟩ by rw [hsb]; unfold txtN; rw [if_neg (by omega)])
      clear hsb
      by_cases hN : N = 0
      · have hs : sb = ⟨[].toArray⟩ := by rw [HE.out, if_pos hN]
        subst hs
        have HF := Lib.hid (show Lib.itoa z = [48] by
          have : z = ((0 : Nat) : Int) := by have := HZ.out; omega
          rw [this, Lib.itoa_nonneg, Lib.decDigits_one (by omega)]; rfl)
        clear hN HE
        go_wp2_with fail
        go_ret
        exact ⟨by rw [HF.out]; rfl, KW.out⟩
      · obtain ⟨D, hD⟩ : ∃ D, D = Lib.decDigits N := ⟨_, rfl⟩
        have hs : sb = ⟨D.toArray⟩ := by rw [HE.out, if_neg hN, hD]
        have hne : D.isEmpty = false := by
          have := Lib.nDigits_pos N
          rw [← Lib.decDigits_length, ← hD] at this
          cases D with
          | nil => simp at this
          | cons c r => rfl
        have hlim : ¬ (9223372036854775807 < 1 + D.length) := by
          have h5 := itoa_lenN (z := z) HL.out (by rw [HZ.out])
          rw [hD, Lib.decDigits_length]
          rw [← HZ.out] at h5
          omega
        subst hs
        by_cases hz : z < 0
        · have hzb : decide (z < 0) = true := decide_eq_true hz
          have HF := Lib.hid (show (⟨(Lib.itoa z).toArray⟩ : ByteArray) = (⟨#[45]⟩ : ByteArray) ++ ⟨D.toArray⟩ by
            rw [show z = -((N : Nat) : Int) by have := HZ.out; omega, Lib.itoa_neg _ (by omega), ← hD]
            exact (app_one 45 D).symm)
          rw [hzb] at x0
          clear hN HE hD hz hzb
          go_wp2_with fail
          go_ret
          exact ⟨by rw [HF.out]; rfl, KW.out⟩
        · have hzb : decide (z < 0) = false := decide_eq_false hz
          have HF := Lib.hid (show Lib.itoa z = D by rw [show z = ((N : Nat) : Int) by have := HZ.out; omega, Lib.itoa_nonneg, hD])
          rw [hzb] at x0
          clear hN HE hD hz hzb
          go_wp2_with fail
          go_ret
          exact ⟨by rw [HF.out]; rfl, KW.out⟩
theorem bodyT_len (l : List UInt8) : (bodyT l).length ≤ l.length := by
  unfold bodyT Lib.trimPrefix
  split
  · simp
  · exact Nat.le_refl _
theorem parse_any (s : ByteArray) (w : World) (hs : s.size ≤ 9223372036854775807) : Calls Tryz.prog 41 #[.string s] w (ParseP w (codeT s.data.toList) (numT s.data.toList)) := by
  obtain ⟨l, hl⟩ : ∃ l, l = bodyT s.data.toList := ⟨_, rfl⟩
  obtain ⟨ng, hg⟩ : ∃ ng, ng = negT s.data.toList := ⟨_, rfl⟩
  have hsz : (ByteArray.mk l.toArray).size ≤ 9223372036854775807 := by
    show l.toArray.size ≤ _
    rw [List.size_toArray, hl]
    have h1 := bodyT_len s.data.toList
    rw [Array.length_toList] at h1
    exact Nat.le_trans h1 hs
  have bad : ¬ formT s.data.toList → codeT s.data.toList = 4 ∧ numT s.data.toList = 0 := fun h => by
    unfold codeT numT
    rw [if_neg h, if_neg (fun h2 => h h2.1)]
    exact ⟨rfl, rfl⟩
  by_cases h0 : l = []
  · obtain ⟨e1, e2⟩ := bad fun h => h.1 (by rw [← hl]; exact h0)
    rw [e1, e2]
    exact (parse_empty s l ng w hl hg hsz h0).mono fun _ _ h => parseP_err h
  by_cases h1 : ∀ c ∈ l, isDig c = true
  · by_cases h2 : l.head? = some 48 ∧ (ng = true ∨ l ≠ [48])
    · obtain ⟨e1, e2⟩ := bad fun h => h.2.2 (by rw [← hl, ← hg]; exact h2)
      rw [e1, e2]
      obtain ⟨r, hr⟩ : ∃ r, l = 48 :: r := by
        cases l with
        | nil => exact absurd rfl h0
        | cons c r => exact ⟨r, by have := h2.1; simp at this; rw [this]⟩
      exact (parse_nought s l r ng w hl hg hsz hr h1 (h2.2.imp id fun h e => h (by rw [hr, e]))).mono fun _ _ h => parseP_err h
    · have hf : formT s.data.toList := ⟨by rw [← hl]; exact h0, by rw [← hl]; exact h1, by rw [← hl, ← hg]; exact h2⟩
      by_cases h3 : 200 < l.length
      · have e1 : codeT s.data.toList = 3 := by unfold codeT; rw [if_pos hf, if_pos (by rw [← hl]; exact h3)]
        have e2 : numT s.data.toList = 0 := by unfold numT; rw [if_neg (fun h => by have := h.2; rw [← hl] at this; omega)]
        rw [e1, e2]
        refine (parse_long s l ng w hl hg hsz h1 h3 fun e => ?_).mono fun _ _ h => parseP_err h
        exact h2 ⟨e, Or.inr fun e2 => by rw [e2] at h3; simp at h3⟩
      · have e1 : codeT s.data.toList = 0 := by unfold codeT; rw [if_pos hf, if_neg (by rw [← hl]; exact h3)]
        rw [e1]
        refine parse_ok s l ng w _ hl hg hsz h1 h0 (by omega) ?_ (by unfold numT; rw [if_pos ⟨hf, by rw [← hl]; omega⟩, ← hl, ← hg])
        by_cases e : l.head? = some 48
        · right
          by_cases e3 : ng = true ∨ l ≠ [48]
          · exact absurd ⟨e, e3⟩ h2
          · refine ⟨Classical.byContradiction fun h => e3 (Or.inr h), ?_⟩
            cases hn : ng with
            | false => rfl
            | true => exact absurd (Or.inl hn) e3
        · exact Or.inl e
  · obtain ⟨e1, e2⟩ := bad fun h => h1 (by rw [hl]; exact h.2.1)
    rw [e1, e2]
    exact (parse_odd s l ng w hl hg hsz h0 h1).mono fun _ _ h => parseP_err h
def RNE (w : World) (z c : Int) (e : Ending) (w' : World) : Prop := ∃ x : NV, e = .returned (.tuple #[x.v, .int .i64 c]) ∧ DN w' w.heap.size x z ∧ Below w.heap.size w w'
theorem parseN (s : ByteArray) (w : World) (hs : s.size ≤ 9223372036854775807) : Calls Tryz.prog 41 #[.string s] w (RNE w (numT s.data.toList) (codeT s.data.toList)) := by
  refine (parse_any s w hs).mono ?_
  rintro e w' ⟨a, rfl, ho, hb⟩
  exact ⟨⟨_, a, _, _⟩, rfl, ⟨rfl, rfl, ho⟩, hb⟩
theorem codeT_cases (l : List UInt8) : codeT l = 0 ∨ (codeT l = 3 ∧ numT l = 0) ∨ (codeT l = 4 ∧ numT l = 0) := by
  by_cases h : formT l
  · by_cases h2 : 200 < (bodyT l).length
    · right; left
      unfold codeT numT
      rw [if_pos h, if_pos h2, if_neg (fun h3 => by have := h3.2; omega)]
      exact ⟨rfl, rfl⟩
    · left
      unfold codeT
      rw [if_pos h, if_neg h2]
  · right; right
    unfold codeT numT
    rw [if_neg h, if_neg (fun h2 => h h2.1)]
    exact ⟨rfl, rfl⟩
theorem numT_len (l : List UInt8) : lenB (numT l).natAbs ≤ 23 := by
  unfold numT
  split
  · rename_i h
    have h1 := decV_lt (bodyT l) h.1.2.1
    have h2 : 10 ^ (bodyT l).length ≤ 10 ^ 200 := Nat.pow_le_pow_right (by omega) h.2
    have h3 : decV (bodyT l) < pw 23 := by
      rw [pw_ten]
      exact Nat.lt_of_lt_of_le h1 (Nat.le_trans h2 (Nat.pow_le_pow_right (by omega) (by omega)))
    refine lenB_le ?_
    split
    · rw [Int.natAbs_neg, Int.natAbs_natCast]; exact h3
    · rw [Int.natAbs_natCast]; exact h3
  · rw [show (0 : Int).natAbs = 0 from rfl, lenB_zero]; omega
theorem neg_slice (l : List UInt8) (n : Nat) (h : l.length + 1 ≤ n) : (ByteArray.mk (45 :: l).toArray).extract 1 n = ⟨l.toArray⟩ := by
  apply ByteArray.ext
  rw [ByteArray.data_extract]
  apply Array.ext'
  rw [Array.toList_extract, List.extract_eq_take_drop]
  show List.take (n - 1) (List.drop 1 (45 :: l)) = l
  rw [List.drop_succ_cons, List.drop_zero, List.take_of_length_le (by omega)]
set_option maxRecDepth 100000 in
set_option maxHeartbeats 2000000 in
theorem rparse_emp_odd (w : World) : Calls Tryz.prog 43 #[.string ⟨#[]⟩] w (fun e w' => e = .returned (.tuple #[numV false none 0 0, .int .i64 4]) ∧ Below w.heap.size w w') := by
  obtain ⟨l, hl⟩ : ∃ l : List UInt8, l = [] := ⟨_, rfl⟩
  have hsz : l.length ≤ 9223372036854775807 := by rw [hl]; decide
  have hd : ¬ (l ≠ [] ∧ (∀ c ∈ l, isDig c = true) ∧ ¬ (l.head? = some 48 ∧ l ≠ [48])) := fun h => h.1 hl
  have HB1 := Lib.hid (Bx.new w 24 (.bool false) (.slice none 0 0))
  obtain ⟨W, hW⟩ : ∃ W, W = w.alloc (.cells #[.bool false, .slice none 0 0] 24) := ⟨_, rfl⟩
  have KG := Lib.hid (show Below w.heap.size w W by rw [hW]; exact (Below.refl _ _).alloc (Nat.le_refl _) _)
  rw [← hW] at HB1
  have HW := Lib.hid hW
  clear hW
  have DG := Lib.hid (digits_b l W hsz)
  rw [decide_eq_false hd] at DG
  subst hl
  clear hd
  go_enter Tryz.func43, Tryz.ntmps43
  go_upto_region 1 with (fail)
  rw [show w.alloc (.cells #[.bool false, .slice none 0 0] 24) = W from HW.out.symm]
  clear HW
  go_wp2_with fail
  refine DG.out.mono ?_
  rintro e w1 ⟨rfl, rfl⟩
  obtain ⟨x0, x1, x2, x3⟩ := HB1.out.all
  go_wp2_with fail
  refine bodyPost_ret (results_ctT rfl _ _ _ _ _ _ _ rfl (HB1.out.set _ _) Tryz.underlying24 rfl (by kernel_rfl)) rfl ⟨rfl, (KG.out.setCell (Nat.le_refl _) _).setCell (Nat.le_refl _) _⟩
set_option maxRecDepth 100000 in
set_option maxHeartbeats 2000000 in
theorem rparse_neg_odd (l : List UInt8) (w : World) (hsz : l.length ≤ 9223372036854775806) (hd : ¬ (l ≠ [] ∧ (∀ c ∈ l, isDig c = true) ∧ ¬ (l.head? = some 48 ∧ l ≠ [48]))) : Calls Tryz.prog 43 #[.string ⟨(45 :: l).toArray⟩] w (fun e w' => e = .returned (.tuple #[numV false none 0 0, .int .i64 4]) ∧ Below w.heap.size w w') := by
  have hsz : l.length ≤ 9223372036854775807 := by omega
  have HB1 := Lib.hid (Bx.new w 24 (.bool false) (.slice none 0 0))
  obtain ⟨W, hW⟩ : ∃ W, W = w.alloc (.cells #[.bool false, .slice none 0 0] 24) := ⟨_, rfl⟩
  have KG := Lib.hid (show Below w.heap.size w W by rw [hW]; exact (Below.refl _ _).alloc (Nat.le_refl _) _)
  rw [← hW] at HB1
  have HW := Lib.hid hW
  clear hW
  have DG := Lib.hid (digits_b l W hsz)
  rw [decide_eq_false hd] at DG
  have hz : 0 < (ByteArray.mk (45 :: l).toArray).size := by rw [bsz]; exact Nat.succ_pos _
  have hz2 : (((ByteArray.mk (45 :: l).toArray)[0]'hz).toNat : Int) = 45 := rfl
  have hx := neg_slice l (ByteArray.mk (45 :: l).toArray).size (by rw [bsz]; exact Nat.le_refl _)
  have hx2 := neg_slice l (l.length + 1) (Nat.le_refl _)
  have hl1 : (1 : Int) ≤ (((45 :: l).length : Nat) : Int) := by rw [List.length_cons]; omega
  have hl2 : (1 : Int) ≤ ((l.length : Nat) : Int) + 1 := by omega
  have hl3 : ((l.length : Nat) : Int) + 1 ≤ ((l.length : Nat) : Int) + 1 := Int.le_refl _
  clear hd
  go_enter Tryz.func43, Tryz.ntmps43
  go_upto_region 1 with (fail)
  rw [show w.alloc (.cells #[.bool false, .slice none 0 0] 24) = W from HW.out.symm]
  clear HW
  go_wp2_with fail
  refine DG.out.mono ?_
  rintro e w1 ⟨rfl, rfl⟩
  obtain ⟨x0, x1, x2, x3⟩ := HB1.out.all
  go_wp2_with fail
  refine bodyPost_ret (results_ctT rfl _ _ _ _ _ _ _ rfl (HB1.out.set _ _) Tryz.underlying24 rfl (by kernel_rfl)) rfl ⟨rfl, (KG.out.setCell (Nat.le_refl _) _).setCell (Nat.le_refl _) _⟩
set_option maxRecDepth 100000 in
set_option maxHeartbeats 2000000 in
theorem rparse_pos_odd (l : List UInt8) (w : World) (hsz : l.length ≤ 9223372036854775806) (hd : ¬ (l ≠ [] ∧ (∀ c ∈ l, isDig c = true) ∧ ¬ (l.head? = some 48 ∧ l ≠ [48]))) (h0 : l ≠ []) (h45 : l.head? ≠ some 45) : Calls Tryz.prog 43 #[.string ⟨(l).toArray⟩] w (fun e w' => e = .returned (.tuple #[numV false none 0 0, .int .i64 4]) ∧ Below w.heap.size w w') := by
  have hsz : l.length ≤ 9223372036854775807 := by omega
  have HB1 := Lib.hid (Bx.new w 24 (.bool false) (.slice none 0 0))
  obtain ⟨W, hW⟩ : ∃ W, W = w.alloc (.cells #[.bool false, .slice none 0 0] 24) := ⟨_, rfl⟩
  have KG := Lib.hid (show Below w.heap.size w W by rw [hW]; exact (Below.refl _ _).alloc (Nat.le_refl _) _)
  rw [← hW] at HB1
  have HW := Lib.hid hW
  clear hW
  have DG := Lib.hid (digits_b l W hsz)
  rw [decide_eq_false hd] at DG
  have hne : l.isEmpty = false := by cases l with | nil => exact absurd rfl h0 | cons c t => rfl
  have hz : 0 < (ByteArray.mk l.toArray).size := by rw [bsz]; cases l with | nil => exact absurd rfl h0 | cons c t => exact Nat.succ_pos _
  have hz2 : ((((ByteArray.mk l.toArray)[0]'hz).toNat : Int) == 45) = false := beq_eq_false_iff_ne.2 (by
    cases l with
    | nil => exact absurd rfl h0
    | cons c t =>
      intro h3
      have h4 : (c.toNat : Int) = 45 := h3
      exact h45 (by rw [List.head?_cons]; congr 1; exact UInt8.toNat_inj.1 (by show c.toNat = 45; omega)))
  clear hd h0 h45
  go_enter Tryz.func43, Tryz.ntmps43
  go_upto_region 1 with (fail)
  rw [show w.alloc (.cells #[.bool false, .slice none 0 0] 24) = W from HW.out.symm]
  clear HW
  go_wp2_with fail
  refine DG.out.mono ?_
  rintro e w1 ⟨rfl, rfl⟩
  obtain ⟨x0, x1, x2, x3⟩ := HB1.out.all
  go_wp2_with fail
  refine bodyPost_ret (results_ctT rfl _ _ _ _ _ _ _ rfl (HB1.out.set _ _) Tryz.underlying24 rfl (by kernel_rfl)) rfl ⟨rfl, (KG.out.setCell (Nat.le_refl _) _).setCell (Nat.le_refl _) _⟩
set_option maxRecDepth 100000 in
set_option maxHeartbeats 2000000 in
theorem rparse_neg_nought (l : List UInt8) (w : World) (hsz : l.length ≤ 9223372036854775806) (hd : l ≠ [] ∧ (∀ c ∈ l, isDig c = true) ∧ ¬ (l.head? = some 48 ∧ l ≠ [48])) (hk : l = [48]) : Calls Tryz.prog 43 #[.string ⟨(45 :: l).toArray⟩] w (fun e w' => e = .returned (.tuple #[numV false none 0 0, .int .i64 4]) ∧ Below w.heap.size w w') := by
  have hsz : l.length ≤ 9223372036854775807 := by omega
  have HB1 := Lib.hid (Bx.new w 24 (.bool false) (.slice none 0 0))
  obtain ⟨W, hW⟩ : ∃ W, W = w.alloc (.cells #[.bool false, .slice none 0 0] 24) := ⟨_, rfl⟩
  have KG := Lib.hid (show Below w.heap.size w W by rw [hW]; exact (Below.refl _ _).alloc (Nat.le_refl _) _)
  rw [← hW] at HB1
  have HW := Lib.hid hW
  clear hW
  have DG := Lib.hid (digits_b l W hsz)
  rw [decide_eq_true hd] at DG
  have hz : 0 < (ByteArray.mk (45 :: l).toArray).size := by rw [bsz]; exact Nat.succ_pos _
  have hz2 : (((ByteArray.mk (45 :: l).toArray)[0]'hz).toNat : Int) = 45 := rfl
  have hx := neg_slice l (ByteArray.mk (45 :: l).toArray).size (by rw [bsz]; exact Nat.le_refl _)
  have hx2 := neg_slice l (l.length + 1) (Nat.le_refl _)
  have hl1 : (1 : Int) ≤ (((45 :: l).length : Nat) : Int) := by rw [List.length_cons]; omega
  have hl2 : (1 : Int) ≤ ((l.length : Nat) : Int) + 1 := by omega
  have hl3 : ((l.length : Nat) : Int) + 1 ≤ ((l.length : Nat) : Int) + 1 := Int.le_refl _
  have hq3 : (l == [48]) = true := by rw [hk]; rfl
  clear hd hk
  go_enter Tryz.func43, Tryz.ntmps43
  go_upto_region 1 with (fail)
  rw [show w.alloc (.cells #[.bool false, .slice none 0 0] 24) = W from HW.out.symm]
  clear HW
  go_wp2_with fail
  refine DG.out.mono ?_
  rintro e w1 ⟨rfl, rfl⟩
  obtain ⟨x0, x1, x2, x3⟩ := HB1.out.all
  go_wp2_with fail
  refine bodyPost_ret (results_ctT rfl _ _ _ _ _ _ _ rfl (HB1.out.set _ _) Tryz.underlying24 rfl (by kernel_rfl)) rfl ⟨rfl, (KG.out.setCell (Nat.le_refl _) _).setCell (Nat.le_refl _) _⟩
set_option maxRecDepth 100000 in
set_option maxHeartbeats 2000000 in
theorem rparse_neg_long (l : List UInt8) (w : World) (hsz : l.length ≤ 9223372036854775806) (hd : l ≠ [] ∧ (∀ c ∈ l, isDig c = true) ∧ ¬ (l.head? = some 48 ∧ l ≠ [48])) (hk : l ≠ [48]) (hlong : 200 < l.length) : Calls Tryz.prog 43 #[.string ⟨(45 :: l).toArray⟩] w (fun e w' => e = .returned (.tuple #[numV false none 0 0, .int .i64 3]) ∧ Below w.heap.size w w') := by
  have hsz : l.length ≤ 9223372036854775807 := by omega
  have HB1 := Lib.hid (Bx.new w 24 (.bool false) (.slice none 0 0))
  obtain ⟨W, hW⟩ : ∃ W, W = w.alloc (.cells #[.bool false, .slice none 0 0] 24) := ⟨_, rfl⟩
  have KG := Lib.hid (show Below w.heap.size w W by rw [hW]; exact (Below.refl _ _).alloc (Nat.le_refl _) _)
  rw [← hW] at HB1
  have HW := Lib.hid hW
  clear hW
  have DG := Lib.hid (digits_b l W hsz)
  rw [decide_eq_true hd] at DG
  have hz : 0 < (ByteArray.mk (45 :: l).toArray).size := by rw [bsz]; exact Nat.succ_pos _
  have hz2 : (((ByteArray.mk (45 :: l).toArray)[0]'hz).toNat : Int) = 45 := rfl
  have hx := neg_slice l (ByteArray.mk (45 :: l).toArray).size (by rw [bsz]; exact Nat.le_refl _)
  have hx2 := neg_slice l (l.length + 1) (Nat.le_refl _)
  have hl1 : (1 : Int) ≤ (((45 :: l).length : Nat) : Int) := by rw [List.length_cons]; omega
  have hl2 : (1 : Int) ≤ ((l.length : Nat) : Int) + 1 := by omega
  have hl3 : ((l.length : Nat) : Int) + 1 ≤ ((l.length : Nat) : Int) + 1 := Int.le_refl _
  have hq3 : (l == [48]) = false := beq_eq_false_iff_ne.2 hk
  have hln : (200 : Int) < (l.length : Int) := by omega
  clear hd hk hlong
  go_enter Tryz.func43, Tryz.ntmps43
  go_upto_region 1 with (fail)
  rw [show w.alloc (.cells #[.bool false, .slice none 0 0] 24) = W from HW.out.symm]
  clear HW
  go_wp2_with fail
  refine DG.out.mono ?_
  rintro e w1 ⟨rfl, rfl⟩
  obtain ⟨x0, x1, x2, x3⟩ := HB1.out.all
  go_wp2_with fail
  refine bodyPost_ret (results_ctT rfl _ _ _ _ _ _ _ rfl (HB1.out.set _ _) Tryz.underlying24 rfl (by kernel_rfl)) rfl ⟨rfl, (KG.out.setCell (Nat.le_refl _) _).setCell (Nat.le_refl _) _⟩
set_option maxRecDepth 100000 in
set_option maxHeartbeats 2000000 in
theorem rparse_pos_long (l : List UInt8) (w : World) (hsz : l.length ≤ 9223372036854775806) (hd : l ≠ [] ∧ (∀ c ∈ l, isDig c = true) ∧ ¬ (l.head? = some 48 ∧ l ≠ [48])) (h0 : l ≠ []) (h45 : l.head? ≠ some 45) (hlong : 200 < l.length) : Calls Tryz.prog 43 #[.string ⟨(l).toArray⟩] w (fun e w' => e = .returned (.tuple #[numV false none 0 0, .int .i64 3]) ∧ Below w.heap.size w w') := by
  have hsz : l.length ≤ 9223372036854775807 := by omega
  have HB1 := Lib.hid (Bx.new w 24 (.bool false) (.slice none 0 0))
  obtain ⟨W, hW⟩ : ∃ W, W = w.alloc (.cells #[.bool false, .slice none 0 0] 24) := ⟨_, rfl⟩
  have KG := Lib.hid (show Below w.heap.size w W by rw [hW]; exact (Below.refl _ _).alloc (Nat.le_refl _) _)
  rw [← hW] at HB1
  have HW := Lib.hid hW
  clear hW
  have DG := Lib.hid (digits_b l W hsz)
  rw [decide_eq_true hd] at DG
  have hne : l.isEmpty = false := by cases l with | nil => exact absurd rfl h0 | cons c t => rfl
  have hz : 0 < (ByteArray.mk l.toArray).size := by rw [bsz]; cases l with | nil => exact absurd rfl h0 | cons c t => exact Nat.succ_pos _
  have hz2 : ((((ByteArray.mk l.toArray)[0]'hz).toNat : Int) == 45) = false := beq_eq_false_iff_ne.2 (by
    cases l with
    | nil => exact absurd rfl h0
    | cons c t =>
      intro h3
      have h4 : (c.toNat : Int) = 45 := h3
      exact h45 (by rw [List.head?_cons]; congr 1; exact UInt8.toNat_inj.1 (by show c.toNat = 45; omega)))
  have hln : (200 : Int) < (l.length : Int) := by omega
  clear hd h0 h45 hlong
  go_enter Tryz.func43, Tryz.ntmps43
  go_upto_region 1 with (fail)
  rw [show w.alloc (.cells #[.bool false, .slice none 0 0] 24) = W from HW.out.symm]
  clear HW
  go_wp2_with fail
  refine DG.out.mono ?_
  rintro e w1 ⟨rfl, rfl⟩
  obtain ⟨x0, x1, x2, x3⟩ := HB1.out.all
  go_wp2_with fail
  refine bodyPost_ret (results_ctT rfl _ _ _ _ _ _ _ rfl (HB1.out.set _ _) Tryz.underlying24 rfl (by kernel_rfl)) rfl ⟨rfl, (KG.out.setCell (Nat.le_refl _) _).setCell (Nat.le_refl _) _⟩
set_option maxRecDepth 100000 in
set_option maxHeartbeats 2000000 in
theorem rparse_pos_ok (l : List UInt8) (w : World) (hsz : l.length ≤ 9223372036854775806) (hd : l ≠ [] ∧ (∀ c ∈ l, isDig c = true) ∧ ¬ (l.head? = some 48 ∧ l ≠ [48])) (h0 : l ≠ []) (h45 : l.head? ≠ some 45) (hlong : l.length ≤ 200) : Calls Tryz.prog 43 #[.string ⟨(l).toArray⟩] w (RNE w ((decV l : Int)) 0) := by
  have hsz : l.length ≤ 9223372036854775807 := by omega
  have HB1 := Lib.hid (Bx.new w 24 (.bool false) (.slice none 0 0))
  obtain ⟨W, hW⟩ : ∃ W, W = w.alloc (.cells #[.bool false, .slice none 0 0] 24) := ⟨_, rfl⟩
  have KG := Lib.hid (show Below w.heap.size w W by rw [hW]; exact (Below.refl _ _).alloc (Nat.le_refl _) _)
  rw [← hW] at HB1
  have HW := Lib.hid hW
  clear hW
  have DG := Lib.hid (digits_b l W hsz)
  rw [decide_eq_true hd] at DG
  have hne : l.isEmpty = false := by cases l with | nil => exact absurd rfl h0 | cons c t => rfl
  have hz : 0 < (ByteArray.mk l.toArray).size := by rw [bsz]; cases l with | nil => exact absurd rfl h0 | cons c t => exact Nat.succ_pos _
  have hz2 : ((((ByteArray.mk l.toArray)[0]'hz).toNat : Int) == 45) = false := beq_eq_false_iff_ne.2 (by
    cases l with
    | nil => exact absurd rfl h0
    | cons c t =>
      intro h3
      have h4 : (c.toNat : Int) = 45 := h3
      exact h45 (by rw [List.head?_cons]; congr 1; exact UInt8.toNat_inj.1 (by show c.toNat = 45; omega)))
  have hln : ¬ (200 : Int) < (l.length : Int) := by omega
  have HD := Lib.hid hd.2.1
  have HQ0 := Lib.hid (show QInv l l.length 0 (fun _ => 0) from ⟨by rw [List.take_length, pw_zero]; show _ = _ * (1 : Int) + 0; rw [Int.mul_one, Int.add_zero], fun j hj => by omega, by omega, Nat.le_refl _⟩)
  obtain ⟨sg, hsg⟩ : ∃ b, b = decide ((decV l : Int) < 0) := ⟨_, rfl⟩
  have HSG := Lib.hid hsg
  have HNZ := Lib.hid (show (false && decide (0 < lenB (decV l))) = sg from by
    rw [hsg]
    exact pos_canon _)
  clear hsg
  clear hd h0 h45 hlong
  go_enter Tryz.func43, Tryz.ntmps43
  go_upto_region 1 with (fail)
  rw [show w.alloc (.cells #[.bool false, .slice none 0 0] 24) = W from HW.out.symm]
  clear HW
  go_wp2_with fail
  refine DG.out.mono ?_
  rintro e w1 ⟨rfl, rfl⟩
  obtain ⟨x0, x1, x2, x3⟩ := HB1.out.all
  clear x0 x1 x2 x3
  go_upto_region 8 with (fail)
  go_upto_region 9 with (fail)
  go_wp2_with fail
  go_loopw [5, 6] (fun d tz wr => ∃ (i t : Nat) (a : Option Addr) (cap : Nat) (o : Nat → Int) (z : Int), d = .slice a i cap ∧ tz = .int .i64 z ∧ ((0 < t ∧ z = t) ∨ (t = 0 ∧ z ≤ 0 ∧ -9 ≤ z)) ∧ Own 80 wr (w.heap.size + 1) a i cap o ∧ QInv l t i o ∧ Below (w.heap.size + 1) w1 wr) (fun _ tz _ => (intOf tz).toNat)
  case atStart => exact ⟨0, l.length, none, 0, fun _ => 0, _, rfl, rfl, by omega, ⟨Nat.le_refl _, Or.inl ⟨rfl, rfl, rfl⟩, fun j hj => by omega⟩, HQ0.out, Below.refl _ _⟩
  case round =>
    obtain ⟨i, t, a, cap, o, z, rfl, rfl, hz, ho, hq, hb⟩ := hrel
    have HO := Lib.hid ho
    have HQ := Lib.hid hq
    have HBL := Lib.hid hb
    have HBX := Lib.hid (HB1.out.below hb (Nat.lt_succ_self _))
    have KW := Lib.hid (KG.out.trans (hb.mono (Nat.le_succ _)))
    have HI := Lib.hid (show i + t ≤ 200 from hq.len)
    have HSZ := Lib.hid (show w.heap.size + 1 ≤ wr.heap.size from HBX.out.lt)
    clear ho hq hb
    rcases hz with ⟨ht, rfl⟩ | ⟨rfl, hz1, hz2⟩
    · have gt : (0 : Int) < (t : Int) := by omega
      obtain ⟨k, hk⟩ : ∃ k : Nat, k = t - 9 := ⟨_, rfl⟩
      have HST := Lib.hid (HQ.out.step HD.out ht)
      rw [← hk] at HST
      have h2 := HI.out
      have w9 := IntWalk.i64_in ((t : Int) - 9) (by omega)
      have hmx : max 0 ((t : Int) - 9) = (k : Int) := by omega
      have HK := Lib.hid hk
      have HTL := Lib.hid HQ.out.le
      clear hk h2
      go_wp2_with fail
      go_loop [7, 8] (fun n i => ∃ (p : Nat) (nn : Int), k ≤ p ∧ p ≤ t ∧ n = .int .u32 nn ∧ i = .int .i64 p ∧ nn = (decV ((l.take p).drop k) : Nat)) (fun _ i => t - (intOf i).toNat)
      case atStart => exact ⟨k, 0, Nat.le_refl _, by have := HK.out; omega, rfl, rfl, by rw [List.drop_of_length_le (by rw [List.length_take]; omega)]; rfl⟩
      case round =>
        obtain ⟨p, nn, hp1, hp2, rfl, rfl, hnn⟩ := hrel
        have hmo : nn < 1000000000 := by have h1 := decV_mono (l := l) hp2 hp1; have h2 := HST.out.1; omega
        have hn0 : 0 ≤ nn := by omega
        by_cases hp : p < t
        · have hpl : p < l.length := by have := HTL.out; omega
          have hks : p < (ByteArray.mk l.toArray).size := by rw [bsz]; exact hpl
          have h9 := chr_get l hks
          have hd := chr_dig (chr_mem HD.out hpl)
          rw [← h9] at hd
          have hsn : (decV ((l.take (p + 1)).drop k) : Int) = 10 * nn + ((((ByteArray.mk l.toArray)[p]'hks).toNat : Int) - 48) := by
            rw [take_succ_chr hp1 hpl, decV_snoc, ← h9, hnn]; omega
          have hmo2 : (decV ((l.take (p + 1)).drop k) : Int) < 1000000000 := by have h1 := decV_mono (l := l) (k := k) (p := p + 1) (t := t) (by omega) (by omega); have h2 := HST.out.1; omega
          clear h9
          obtain ⟨dd, hdd⟩ : ∃ d : Int, d = (((ByteArray.mk l.toArray)[p]'hks).toNat : Int) - 48 := ⟨_, rfl⟩
          rw [← hdd] at hsn
          have e2 : IntKind.u8.wrap ((((ByteArray.mk l.toArray)[p]'hks).toNat : Int) - 48) = dd := by rw [hdd]; exact IntWalk.u8_in _ (by omega)
          have e3 : IntKind.u32.wrap dd = dd := IntWalk.u32_in _ (by omega)
          obtain ⟨m10, hm⟩ : ∃ m : Int, m = 10 * nn := ⟨_, rfl⟩
          have e1 : IntKind.u32.wrap (10 * nn) = m10 := by rw [hm]; exact IntWalk.u32_in _ (by omega)
          obtain ⟨n2, hn2⟩ : ∃ m : Int, m = m10 + dd := ⟨_, rfl⟩
          have e4 : IntKind.u32.wrap (m10 + dd) = n2 := by rw [hn2]; exact IntWalk.u32_in _ (by omega)
          have HN2 := Lib.hid (show n2 = (decV ((l.take (p + 1)).drop k) : Nat) by rw [hsn, hn2, hm])
          have hin : (p : Int) < (t : Int) := by omega
          clear hsn hmo2 hdd hm hn2 hnn hmo hn0 hd hpl
          have h64 := HI.out
          go_wp2_with fail
          go_round
          case rel => exact ⟨p + 1, n2, by omega, by omega, rfl, by go_num, HN2.out⟩
          case measure => simp [intOf]; omega
        · obtain rfl : p = t := by omega
          have hin : ¬ (p : Int) < (p : Int) := by omega
          have hmo' : nn ≤ 4294967295 := by omega
          have HNN := Lib.hid hnn
          clear hnn hmo
          have hi := HI.out
          go_wp2_with (first
            | (at_builtin; refine Book.wpList_push rfl _ _ rfl (by rfl) (HO.out.allocd _) (by omega) (by have := HSZ.out; simp; omega) (v := nn) (by rfl) ?c1 (by omega) (by rfl) ?_))
          intro a' c' w4 hown hcase
          have HBL4 := Lib.hid (push_below (x := .cells #[.int .u32 nn] 80) HBL.out HSZ.out HO.out hcase)
          have HO4 := Lib.hid hown
          clear hown hcase
          go_wp2_with fail
          go_roundw
          case rel =>
            have h1 := HST.out.2
            rw [← HNN.out] at h1
            exact ⟨i + 1, k, a', c', _, _, rfl, rfl, by have := HK.out; omega, HO4.out, h1, HBL4.out⟩
          case measure => simp [intOf]; omega
    · skip
      have gt : ¬ ((0 : Int) < z) := by omega
      have HV := Lib.hid (show sumB o i = (decV l : Int) by
        have h1 := HQ.out.val
        rw [List.take_zero, show decV [] = 0 from rfl] at h1
        simp only [Int.natCast_zero, Int.zero_mul] at h1
        omega)
      have NUM := Lib.hid (num_any false a i cap o wr HO.out.rd HQ.out.parts (by have := HI.out; omega) HO.out.le)
      rw [HV.out, Int.toNat_natCast, HNZ.out] at NUM
      obtain ⟨x0, x1, x2, x3⟩ := HBX.out.all
      go_wp2_with fail
      refine NUM.out.mono ?_
      rintro e w3 ⟨rfl, hb3⟩
      have HB3 := Lib.hid (HBX.out.below hb3 HBX.out.lt)
      have HO3 := Lib.hid (HO.out.below hb3)
      have KW3 := Lib.hid (KW.out.trans (hb3.mono KW.out.size))
      clear hb3 NUM x0 x1 x2 x3
      obtain ⟨x0, x1, x2, x3⟩ := HB3.out.all
      go_wp2_with fail
      refine bodyPost_ret (results_ctT rfl _ _ _ _ _ _ _ rfl (HB3.out.set _ _) Tryz.underlying24 rfl (by kernel_rfl)) rfl ⟨⟨sg, a, lenB (decV l), cap⟩, rfl, ⟨HSG.out, ?_, ?_⟩, ?_⟩
      · show lenB (decV l) = lenB (((decV l : Nat) : Int)).natAbs
        congr 1 <;> omega
      · rw [show (((decV l : Nat) : Int)).natAbs = decV l by omega]
        exact (((own_fit HO3.out HQ.out.parts HV.out).other (by dsimp only; omega) _).other (by dsimp only; omega) _).mono (by omega)
      · exact (KW3.out.setCell (Nat.le_refl _) _).setCell (Nat.le_refl _) _
set_option maxRecDepth 100000 in
set_option maxHeartbeats 2000000 in
theorem rparse_neg_ok (l : List UInt8) (w : World) (hsz : l.length ≤ 9223372036854775806) (hd : l ≠ [] ∧ (∀ c ∈ l, isDig c = true) ∧ ¬ (l.head? = some 48 ∧ l ≠ [48])) (hk : l ≠ [48]) (hlong : l.length ≤ 200) : Calls Tryz.prog 43 #[.string ⟨(45 :: l).toArray⟩] w (RNE w (-(decV l : Int)) 0) := by
  have hsz : l.length ≤ 9223372036854775807 := by omega
  have HB1 := Lib.hid (Bx.new w 24 (.bool false) (.slice none 0 0))
  obtain ⟨W, hW⟩ : ∃ W, W = w.alloc (.cells #[.bool false, .slice none 0 0] 24) := ⟨_, rfl⟩
  have KG := Lib.hid (show Below w.heap.size w W by rw [hW]; exact (Below.refl _ _).alloc (Nat.le_refl _) _)
  rw [← hW] at HB1
  have HW := Lib.hid hW
  clear hW
  have DG := Lib.hid (digits_b l W hsz)
  rw [decide_eq_true hd] at DG
  have hz : 0 < (ByteArray.mk (45 :: l).toArray).size := by rw [bsz]; exact Nat.succ_pos _
  have hz2 : (((ByteArray.mk (45 :: l).toArray)[0]'hz).toNat : Int) = 45 := rfl
  have hx := neg_slice l (ByteArray.mk (45 :: l).toArray).size (by rw [bsz]; exact Nat.le_refl _)
  have hx2 := neg_slice l (l.length + 1) (Nat.le_refl _)
  have hl1 : (1 : Int) ≤ (((45 :: l).length : Nat) : Int) := by rw [List.length_cons]; omega
  have hl2 : (1 : Int) ≤ ((l.length : Nat) : Int) + 1 := by omega
  have hl3 : ((l.length : Nat) : Int) + 1 ≤ ((l.length : Nat) : Int) + 1 := Int.le_refl _
  have hq3 : (l == [48]) = false := beq_eq_false_iff_ne.2 hk
  have hln : ¬ (200 : Int) < (l.length : Int) := by omega
  have HD := Lib.hid hd.2.1
  have HQ0 := Lib.hid (show QInv l l.length 0 (fun _ => 0) from ⟨by rw [List.take_length, pw_zero]; show _ = _ * (1 : Int) + 0; rw [Int.mul_one, Int.add_zero], fun j hj => by omega, by omega, Nat.le_refl _⟩)
  obtain ⟨sg, hsg⟩ : ∃ b, b = decide (-(decV l : Int) < 0) := ⟨_, rfl⟩
  have HSG := Lib.hid hsg
  have HNZ := Lib.hid (show (true && decide (0 < lenB (decV l))) = sg from by
    rw [hsg]
    have hp : 0 < decV l := by
      cases l with
      | nil => exact absurd rfl hd.1
      | cons c r => exact decV_pos c r (hd.2.1 c (List.mem_cons_self ..)) (fun e => hd.2.2 ⟨by rw [e]; rfl, hk⟩)
    exact neg_canon _ hp)
  clear hsg
  clear hd hk hlong
  go_enter Tryz.func43, Tryz.ntmps43
  go_upto_region 1 with (fail)
  rw [show w.alloc (.cells #[.bool false, .slice none 0 0] 24) = W from HW.out.symm]
  clear HW
  go_wp2_with fail
  refine DG.out.mono ?_
  rintro e w1 ⟨rfl, rfl⟩
  obtain ⟨x0, x1, x2, x3⟩ := HB1.out.all
  clear x0 x1 x2 x3
  go_upto_region 8 with (fail)
  go_upto_region 9 with (fail)
  go_wp2_with fail
  go_loopw [5, 6] (fun d tz wr => ∃ (i t : Nat) (a : Option Addr) (cap : Nat) (o : Nat → Int) (z : Int), d = .slice a i cap ∧ tz = .int .i64 z ∧ ((0 < t ∧ z = t) ∨ (t = 0 ∧ z ≤ 0 ∧ -9 ≤ z)) ∧ Own 80 wr (w.heap.size + 1) a i cap o ∧ QInv l t i o ∧ Below (w.heap.size + 1) w1 wr) (fun _ tz _ => (intOf tz).toNat)
  case atStart => exact ⟨0, l.length, none, 0, fun _ => 0, _, rfl, rfl, by omega, ⟨Nat.le_refl _, Or.inl ⟨rfl, rfl, rfl⟩, fun j hj => by omega⟩, HQ0.out, Below.refl _ _⟩
  case round =>
    obtain ⟨i, t, a, cap, o, z, rfl, rfl, hz, ho, hq, hb⟩ := hrel
    have HO := Lib.hid ho
    have HQ := Lib.hid hq
    have HBL := Lib.hid hb
    have HBX := Lib.hid (HB1.out.below hb (Nat.lt_succ_self _))
    have KW := Lib.hid (KG.out.trans (hb.mono (Nat.le_succ _)))
    have HI := Lib.hid (show i + t ≤ 200 from hq.len)
    have HSZ := Lib.hid (show w.heap.size + 1 ≤ wr.heap.size from HBX.out.lt)
    clear ho hq hb
    rcases hz with ⟨ht, rfl⟩ | ⟨rfl, hz1, hz2⟩
    · have gt : (0 : Int) < (t : Int) := by omega
      obtain ⟨k, hk⟩ : ∃ k : Nat, k = t - 9 := ⟨_, rfl⟩
      have HST := Lib.hid (HQ.out.step HD.out ht)
      rw [← hk] at HST
      have h2 := HI.out
      have w9 := IntWalk.i64_in ((t : Int) - 9) (by omega)
      have hmx : max 0 ((t : Int) - 9) = (k : Int) := by omega
      have HK := Lib.hid hk
      have HTL := Lib.hid HQ.out.le
      clear hk h2
      go_wp2_with fail
      go_loop [7, 8] (fun n i => ∃ (p : Nat) (nn : Int), k ≤ p ∧ p ≤ t ∧ n = .int .u32 nn ∧ i = .int .i64 p ∧ nn = (decV ((l.take p).drop k) : Nat)) (fun _ i => t - (intOf i).toNat)
      case atStart => exact ⟨k, 0, Nat.le_refl _, by have := HK.out; omega, rfl, rfl, by rw [List.drop_of_length_le (by rw [List.length_take]; omega)]; rfl⟩
      case round =>
        obtain ⟨p, nn, hp1, hp2, rfl, rfl, hnn⟩ := hrel
        have hmo : nn < 1000000000 := by have h1 := decV_mono (l := l) hp2 hp1; have h2 := HST.out.1; omega
        have hn0 : 0 ≤ nn := by omega
        by_cases hp : p < t
        · have hpl : p < l.length := by have := HTL.out; omega
          have hks : p < (ByteArray.mk l.toArray).size := by rw [bsz]; exact hpl
          have h9 := chr_get l hks
          have hd := chr_dig (chr_mem HD.out hpl)
          rw [← h9] at hd
          have hsn : (decV ((l.take (p + 1)).drop k) : Int) = 10 * nn + ((((ByteArray.mk l.toArray)[p]'hks).toNat : Int) - 48) := by
            rw [take_succ_chr hp1 hpl, decV_snoc, ← h9, hnn]; omega
          have hmo2 : (decV ((l.take (p + 1)).drop k) : Int) < 1000000000 := by have h1 := decV_mono (l := l) (k := k) (p := p + 1) (t := t) (by omega) (by omega); have h2 := HST.out.1; omega
          clear h9
          obtain ⟨dd, hdd⟩ : ∃ d : Int, d = (((ByteArray.mk l.toArray)[p]'hks).toNat : Int) - 48 := ⟨_, rfl⟩
          rw [← hdd] at hsn
          have e2 : IntKind.u8.wrap ((((ByteArray.mk l.toArray)[p]'hks).toNat : Int) - 48) = dd := by rw [hdd]; exact IntWalk.u8_in _ (by omega)
          have e3 : IntKind.u32.wrap dd = dd := IntWalk.u32_in _ (by omega)
          obtain ⟨m10, hm⟩ : ∃ m : Int, m = 10 * nn := ⟨_, rfl⟩
          have e1 : IntKind.u32.wrap (10 * nn) = m10 := by rw [hm]; exact IntWalk.u32_in _ (by omega)
          obtain ⟨n2, hn2⟩ : ∃ m : Int, m = m10 + dd := ⟨_, rfl⟩
          have e4 : IntKind.u32.wrap (m10 + dd) = n2 := by rw [hn2]; exact IntWalk.u32_in _ (by omega)
          have HN2 := Lib.hid (show n2 = (decV ((l.take (p + 1)).drop k) : Nat) by rw [hsn, hn2, hm])
          have hin : (p : Int) < (t : Int) := by omega
          clear hsn hmo2 hdd hm hn2 hnn hmo hn0 hd hpl
          have h64 := HI.out
          go_wp2_with fail
          go_round
          case rel => exact ⟨p + 1, n2, by omega, by omega, rfl, by go_num, HN2.out⟩
          case measure => simp [intOf]; omega
        · obtain rfl : p = t := by omega
          have hin : ¬ (p : Int) < (p : Int) := by omega
          have hmo' : nn ≤ 4294967295 := by omega
          have HNN := Lib.hid hnn
          clear hnn hmo
          have hi := HI.out
          go_wp2_with (first
            | (at_builtin; refine Book.wpList_push rfl _ _ rfl (by rfl) (HO.out.allocd _) (by omega) (by have := HSZ.out; simp; omega) (v := nn) (by rfl) ?c1 (by omega) (by rfl) ?_))
          intro a' c' w4 hown hcase
          have HBL4 := Lib.hid (push_below (x := .cells #[.int .u32 nn] 80) HBL.out HSZ.out HO.out hcase)
          have HO4 := Lib.hid hown
          clear hown hcase
          go_wp2_with fail
          go_roundw
          case rel =>
            have h1 := HST.out.2
            rw [← HNN.out] at h1
            exact ⟨i + 1, k, a', c', _, _, rfl, rfl, by have := HK.out; omega, HO4.out, h1, HBL4.out⟩
          case measure => simp [intOf]; omega
    · skip
      have gt : ¬ ((0 : Int) < z) := by omega
      have HV := Lib.hid (show sumB o i = (decV l : Int) by
        have h1 := HQ.out.val
        rw [List.take_zero, show decV [] = 0 from rfl] at h1
        simp only [Int.natCast_zero, Int.zero_mul] at h1
        omega)
      have NUM := Lib.hid (num_any true a i cap o wr HO.out.rd HQ.out.parts (by have := HI.out; omega) HO.out.le)
      rw [HV.out, Int.toNat_natCast, HNZ.out] at NUM
      obtain ⟨x0, x1, x2, x3⟩ := HBX.out.all
      go_wp2_with fail
      refine NUM.out.mono ?_
      rintro e w3 ⟨rfl, hb3⟩
      have HB3 := Lib.hid (HBX.out.below hb3 HBX.out.lt)
      have HO3 := Lib.hid (HO.out.below hb3)
      have KW3 := Lib.hid (KW.out.trans (hb3.mono KW.out.size))
      clear hb3 NUM x0 x1 x2 x3
      obtain ⟨x0, x1, x2, x3⟩ := HB3.out.all
      go_wp2_with fail
      refine bodyPost_ret (results_ctT rfl _ _ _ _ _ _ _ rfl (HB3.out.set _ _) Tryz.underlying24 rfl (by kernel_rfl)) rfl ⟨⟨sg, a, lenB (decV l), cap⟩, rfl, ⟨HSG.out, ?_, ?_⟩, ?_⟩
      · show lenB (decV l) = lenB ((-(decV l : Int))).natAbs
        congr 1 <;> omega
      · rw [show ((-(decV l : Int))).natAbs = decV l by omega]
        exact (((own_fit HO3.out HQ.out.parts HV.out).other (by dsimp only; omega) _).other (by dsimp only; omega) _).mono (by omega)
      · exact (KW3.out.setCell (Nat.le_refl _) _).setCell (Nat.le_refl _) _
theorem codeT_of' {l : List UInt8} (h : formT l) (h2 : (bodyT l).length ≤ 200) : codeT l = 0 := by unfold codeT; rw [if_pos h, if_neg (by omega)]
theorem rne_zero {w w' : World} {c : Int} {e : Ending} (h : e = .returned (.tuple #[numV false none 0 0, .int .i64 c]) ∧ Below w.heap.size w w') : RNE w 0 c e w' := by
  obtain ⟨rfl, hb⟩ := h
  exact ⟨⟨false, none, 0, 0⟩, rfl, ⟨rfl, lenB_zero.symm, ⟨Nat.le_refl _, Or.inl ⟨rfl, rfl, rfl⟩, fun i h => absurd h (Nat.not_lt_zero i)⟩⟩, hb⟩
theorem bad_form {l : List UInt8} (h : ¬ formT l) : codeT l = 4 ∧ numT l = 0 := by
  unfold codeT numT
  rw [if_neg h, if_neg (fun h2 => h h2.1)]
  exact ⟨rfl, rfl⟩
theorem long_form {l : List UInt8} (h : formT l) (h2 : 200 < (bodyT l).length) : codeT l = 3 ∧ numT l = 0 := by
  unfold codeT numT
  rw [if_pos h, if_pos h2, if_neg (fun h3 => by have := h3.2; omega)]
  exact ⟨rfl, rfl⟩
theorem rparseL (s : List UInt8) (w : World) (hs : s.length ≤ 9223372036854775806) : Calls Tryz.prog 43 #[.string ⟨s.toArray⟩] w (RNE w (numT s) (codeT s)) := by
  by_cases h45 : s.head? = some 45
  · obtain ⟨l, rfl⟩ : ∃ l, s = 45 :: l := by
      cases s with
      | nil => cases h45
      | cons c r => simp only [List.head?_cons, Option.some.injEq] at h45; exact ⟨r, by rw [h45]⟩
    obtain ⟨n1, n2⟩ := neg_cons l
    have hl : l.length ≤ 9223372036854775806 := by rw [List.length_cons] at hs; omega
    by_cases hd : l ≠ [] ∧ (∀ c ∈ l, isDig c = true) ∧ ¬ (l.head? = some 48 ∧ l ≠ [48])
    · by_cases hk : l = [48]
      · obtain ⟨e1, e2⟩ := bad_form (l := 45 :: l) fun h => h.2.2 ⟨by rw [n2, hk]; rfl, .inl n1⟩
        rw [e1, e2]
        exact (rparse_neg_nought l w hl hd hk).mono fun _ _ h => rne_zero h
      · have hf : formT (45 :: l) := by
          unfold formT
          rw [n1, n2]
          exact ⟨hd.1, hd.2.1, fun h => hd.2.2 ⟨h.1, hk⟩⟩
        by_cases hlong : 200 < l.length
        · obtain ⟨e1, e2⟩ := long_form hf (by rw [n2]; exact hlong)
          rw [e1, e2]
          exact (rparse_neg_long l w hl hd hk hlong).mono fun _ _ h => rne_zero h
        · have e1 : codeT (45 :: l) = 0 := codeT_of' hf (by rw [n2]; omega)
          have e2 : numT (45 :: l) = -(decV l : Int) := by unfold numT; rw [if_pos ⟨hf, by rw [n2]; omega⟩, if_pos n1, n2]
          rw [e1, e2]
          exact rparse_neg_ok l w hl hd hk (by omega)
    · obtain ⟨e1, e2⟩ := bad_form (l := 45 :: l) fun h => by
        unfold formT at h
        rw [n1, n2] at h
        exact hd ⟨h.1, h.2.1, fun h2 => h.2.2 ⟨h2.1, .inl rfl⟩⟩
      rw [e1, e2]
      exact (rparse_neg_odd l w hl hd).mono fun _ _ h => rne_zero h
  · obtain ⟨n1, n2⟩ := neg_not h45
    by_cases h0 : s = []
    · subst h0
      obtain ⟨e1, e2⟩ := bad_form (l := []) fun h => h.1 rfl
      rw [e1, e2]
      exact (rparse_emp_odd w).mono fun _ _ h => rne_zero h
    by_cases hd : s ≠ [] ∧ (∀ c ∈ s, isDig c = true) ∧ ¬ (s.head? = some 48 ∧ s ≠ [48])
    · have hf : formT s := by
        unfold formT
        rw [n1, n2]
        exact ⟨hd.1, hd.2.1, fun h => hd.2.2 ⟨h.1, h.2.resolve_left (by simp)⟩⟩
      by_cases hlong : 200 < s.length
      · obtain ⟨e1, e2⟩ := long_form hf (by rw [n2]; exact hlong)
        rw [e1, e2]
        exact (rparse_pos_long s w hs hd h0 h45 hlong).mono fun _ _ h => rne_zero h
      · have e1 : codeT s = 0 := codeT_of' hf (by rw [n2]; omega)
        have e2 : numT s = (decV s : Int) := by unfold numT; rw [if_pos ⟨hf, by rw [n2]; omega⟩, n1, n2]; rfl
        rw [e1, e2]
        exact rparse_pos_ok s w hs hd h0 h45 (by omega)
    · obtain ⟨e1, e2⟩ := bad_form (l := s) fun h => by
        unfold formT at h
        rw [n1, n2] at h
        exact hd ⟨h.1, h.2.1, fun h2 => h.2.2 ⟨h2.1, .inr h2.2⟩⟩
      rw [e1, e2]
      exact (rparse_pos_odd s w hs hd h0 h45).mono fun _ _ h => rne_zero h
structure FV where
  t : NV
  l : NV
abbrev FV.v (x : FV) : Value := .agg #[.bool x.t.s, .slice x.t.a x.t.n x.t.c, .bool x.l.s, .slice x.l.a x.l.n x.l.c]
theorem FV.inj {x y : FV} (h : x.v = y.v) : x = y := by
  obtain ⟨⟨a, b, c, d⟩, ⟨e, f, g, i⟩⟩ := x
  obtain ⟨⟨a', b', c', d'⟩, ⟨e', f', g', i'⟩⟩ := y
  simp only [Value.agg.injEq, Array.mk.injEq, List.cons.injEq, Value.bool.injEq, Value.slice.injEq, and_true] at h
  obtain ⟨rfl, ⟨rfl, rfl, rfl⟩, rfl, rfl, rfl, rfl⟩ := h
  rfl
structure AF (w : World) (x : FV) (q : Rat) : Prop where
  ex : ∃ o1 o2, Rd w x.t.a x.t.n o1 ∧ Rd w x.l.a x.l.n o2 ∧ valF x.t.s x.t.n o1 x.l.s x.l.n o2 = q
  l1 : x.t.n ≤ x.t.c
  l2 : x.l.n ≤ x.l.c
structure KF (w : World) (x : FV) (q : Rat) : Prop where
  t : KN w x.t q.num
  l : KN w x.l (q.den : Int)
structure DF (w : World) (lo : Nat) (x : FV) (q : Rat) : Prop where
  t : DN w lo x.t q.num
  l : DN w lo x.l (q.den : Int)
  ap : Apart2 x.t.a x.l.a
structure BF (w : World) (x : FV) : Prop where
  ex : ∃ o1 o2, Rd w x.t.a x.t.n o1 ∧ Rd w x.l.a x.l.n o2 ∧ ¬ okF x.t.s x.t.n o1 x.l.s x.l.n o2
  l1 : x.t.n ≤ x.t.c
  l2 : x.l.n ≤ x.l.c
abbrev LF (x : FV) (k : Nat) : Prop := x.t.n ≤ k ∧ x.l.n ≤ k
structure LQ (q : Rat) (k : Nat) : Prop where
  t : lenB q.num.natAbs ≤ k
  l : lenB (q.den : Int).natAbs ≤ k
theorem AF.below {w w' : World} {x : FV} {q : Rat} (h : AF w x q) (hb : Below w.heap.size w w') : AF w' x q := by
  obtain ⟨o1, o2, h1, h2, h3⟩ := h.ex
  exact ⟨⟨o1, o2, h1.below hb, h2.below hb, h3⟩, h.l1, h.l2⟩
theorem KF.below {w w' : World} {x : FV} {q : Rat} (h : KF w x q) (hb : Below w.heap.size w w') : KF w' x q := ⟨h.t.below hb, h.l.below hb⟩
theorem DF.below {w w' : World} {lo : Nat} {x : FV} {q : Rat} (h : DF w lo x q) (hb : Below w.heap.size w w') : DF w' lo x q := ⟨h.t.below hb, h.l.below hb, h.ap⟩
theorem BF.below {w w' : World} {x : FV} (h : BF w x) (hb : Below w.heap.size w w') : BF w' x := by
  obtain ⟨o1, o2, h1, h2, h3⟩ := h.ex
  exact ⟨⟨o1, o2, h1.below hb, h2.below hb, h3⟩, h.l1, h.l2⟩
theorem DF.mono {w : World} {lo lo' : Nat} {x : FV} {q : Rat} (h : DF w lo x q) (hl : lo' ≤ lo) : DF w lo' x q := ⟨h.t.mono hl, h.l.mono hl, h.ap⟩
theorem DF.k {w : World} {lo : Nat} {x : FV} {q : Rat} (h : DF w lo x q) : KF w x q := ⟨h.t.k, h.l.k⟩
theorem DF.setBxs {w : World} {lo : Nat} {x : FV} {q : Rat} (h : DF w lo x q) {g : Nat} {t : TypeId} {l : List Value} (hb : Bxs w g t l) (ht : 80 ≠ t) (i : Nat) (v : Value) : DF (w.setCell ⟨g, i, none⟩ v) lo x q := ⟨h.t.setBxs hb ht i v, h.l.setBxs hb ht i v, h.ap⟩
theorem KF.setBxs {w : World} {x : FV} {q : Rat} (h : KF w x q) {g : Nat} {t : TypeId} {l : List Value} (hb : Bxs w g t l) (hl : l.all notInt = true) (i : Nat) (v : Value) : KF (w.setCell ⟨g, i, none⟩ v) x q := ⟨h.t.setBxs hb hl i v, h.l.setBxs hb hl i v⟩
theorem KF.any {w : World} {x : FV} {q : Rat} (h : KF w x q) : AF w x q := by
  refine ⟨⟨_, _, h.t.rd, h.l.rd, ?_⟩, h.t.le, h.l.le⟩
  rw [h.t.s, h.t.n, h.l.s, h.l.n]
  exact valF_canon q
theorem BF.any {w : World} {x : FV} (h : BF w x) : AF w x 0 := by
  obtain ⟨o1, o2, h1, h2, h3⟩ := h.ex
  exact ⟨⟨o1, o2, h1, h2, valF_not h3⟩, h.l1, h.l2⟩
theorem KF.len {w : World} {x : FV} {q : Rat} {k m : Nat} (h : KF w x q) (hz : LQ q k) (hk : k ≤ m) : LF x m := ⟨h.t.len hz.t hk, h.l.len hz.l hk⟩
theorem LQ.up {q : Rat} {k m : Nat} (h : LQ q k) (hk : k ≤ m) : LQ q m := ⟨Nat.le_trans h.t hk, Nat.le_trans h.l hk⟩
theorem LF.up {x : FV} {k m : Nat} (h : LF x k) (hk : k ≤ m) : LF x m := ⟨Nat.le_trans h.1 hk, Nat.le_trans h.2 hk⟩
theorem LQ.add {x y : Rat} {k m : Nat} (h1 : LQ x k) (h2 : LQ y k) (hm : 2 * k + 1 ≤ m) : LQ (x + y) m := by
  have h := add_len h1.t h1.l h2.t h2.l
  exact ⟨by omega, by omega⟩
theorem LQ.int {n : Int} (h1 : -9223372036854775808 ≤ n) (h2 : n ≤ 9223372036854775807) : LQ (n : Rat) 3 := ⟨by rw [Rat.num_intCast]; exact len1 h1 h2, by rw [Rat.den_intCast]; exact len1 (by decide) (by decide)⟩
theorem KF.raw {w : World} {s1 : Bool} {a1 : Option Addr} {n1 c1 : Nat} {o1 : Nat → Int} {s2 : Bool} {a2 : Option Addr} {n2 c2 : Nat} {o2 : Nat → Int} (h1 : Rd w a1 n1 o1) (hc1 : n1 ≤ c1) (h2 : Rd w a2 n2 o2) (hc2 : n2 ≤ c2) (hk : okF s1 n1 o1 s2 n2 o2) : KF w ⟨⟨s1, a1, n1, c1⟩, ⟨s2, a2, n2, c2⟩⟩ (valF s1 n1 o1 s2 n2 o2) := by
  obtain ⟨e1, e2⟩ := valF_ok hk
  refine ⟨?_, ?_⟩
  · rw [e1]; exact KN.raw h1 hc1 hk.1
  · rw [e2]; exact KN.raw h2 hc2 hk.2.1
theorem BF.raw {w : World} {s1 : Bool} {a1 : Option Addr} {n1 c1 : Nat} {o1 : Nat → Int} {s2 : Bool} {a2 : Option Addr} {n2 c2 : Nat} {o2 : Nat → Int} (h1 : Rd w a1 n1 o1) (hc1 : n1 ≤ c1) (h2 : Rd w a2 n2 o2) (hc2 : n2 ≤ c2) (hk : ¬ okF s1 n1 o1 s2 n2 o2) : BF w ⟨⟨s1, a1, n1, c1⟩, ⟨s2, a2, n2, c2⟩⟩ := ⟨⟨o1, o2, h1, h2, hk⟩, hc1, hc2⟩
theorem AF.raw {w : World} {s1 : Bool} {a1 : Option Addr} {n1 c1 : Nat} {o1 : Nat → Int} {s2 : Bool} {a2 : Option Addr} {n2 c2 : Nat} {o2 : Nat → Int} (h1 : Rd w a1 n1 o1) (hc1 : n1 ≤ c1) (h2 : Rd w a2 n2 o2) (hc2 : n2 ≤ c2) : AF w ⟨⟨s1, a1, n1, c1⟩, ⟨s2, a2, n2, c2⟩⟩ (valF s1 n1 o1 s2 n2 o2) := ⟨⟨o1, o2, h1, h2, rfl⟩, hc1, hc2⟩
theorem AF.len {w : World} {x : FV} {q : Rat} {k : Nat} (h : AF w x q) (hl : LF x k) : LQ q (k + 1) := by
  obtain ⟨o1, o2, h1, h2, h3⟩ := h.ex
  have h4 := valF_len (s1 := x.t.s) (s2 := x.l.s) h1.rng h2.rng
  rw [h3] at h4
  exact ⟨by omega, by omega⟩
def RF (w : World) (q : Rat) (e : Ending) (w' : World) : Prop := ∃ x : FV, e = .returned x.v ∧ DF w' w.heap.size x q ∧ Below w.heap.size w w'
theorem FracR.rf {w : World} {q : Rat} {e : Ending} {w' : World} (h : FracR w q.num (q.den : Int) e w') : RF w q e w' := by
  obtain ⟨a1, a2, rfl, h1, h2, ap, hb⟩ := h
  exact ⟨⟨⟨_, a1, _, _⟩, ⟨_, a2, _, _⟩⟩, rfl, ⟨⟨rfl, rfl, h1⟩, ⟨rfl, rfl, h2⟩, ap⟩, hb⟩
def RFE (w : World) (q : Rat) (c : Int) (e : Ending) (w' : World) : Prop := ∃ x : FV, e = .returned (.tuple #[x.v, .int .i64 c]) ∧ DF w' w.heap.size x q ∧ Below w.heap.size w w'
abbrev NOF : Value := .agg #[.bool false, .slice none 0 0, .bool false, .slice none 0 0]
def RFX (w : World) (c : Int) (e : Ending) (w' : World) : Prop := e = .returned (.tuple #[NOF, .int .i64 c]) ∧ Below w.heap.size w w'
def RFZ (w : World) (c : Int) (e : Ending) (w' : World) : Prop := ∃ x : FV, e = .returned (.tuple #[x.v, .int .i64 c]) ∧ Below w.heap.size w w'
def cmpQ (x y : Rat) : Int := cmpZ (x.num * (y.den : Int)) (y.num * (x.den : Int))
open Classical in
theorem qcheck {w : World} {x : FV} {p : Rat} (h1 : KF w x p) (b1 : LF x 900000) : Calls Tryz.prog 14 #[x.v] w fun e w' => e = .returned (.bool true) ∧ Below w.heap.size w w' := by
  have h := fcheck_any x.t.s x.t.a x.t.n x.t.c _ x.l.s x.l.a x.l.n x.l.c _ w h1.t.rd (by omega) h1.t.le h1.l.rd (by omega) h1.l.le
  rw [decide_eq_true (by rw [h1.t.s, h1.t.n, h1.l.s, h1.l.n]; exact okF_canon p)] at h
  exact h
open Classical in
theorem qcheckB {w : World} {x : FV} (h1 : BF w x) (b1 : LF x 900000) : Calls Tryz.prog 14 #[x.v] w fun e w' => e = .returned (.bool false) ∧ Below w.heap.size w w' := by
  obtain ⟨o1, o2, r1, r2, hk⟩ := h1.ex
  have h := fcheck_any x.t.s x.t.a x.t.n x.t.c o1 x.l.s x.l.a x.l.n x.l.c o2 w r1 (by omega) h1.l1 r2 (by omega) h1.l2
  rw [decide_eq_false hk] at h
  exact h
theorem KF.okv {w : World} {x : FV} {p : Rat} (h : KF w x p) : okF x.t.s x.t.n (dgi p.num.natAbs) x.l.s x.l.n (dgi (p.den : Int).natAbs) := by
  rw [h.t.s, h.t.n, h.l.s, h.l.n]; exact okF_canon p
theorem KF.valv {w : World} {x : FV} {p : Rat} (h : KF w x p) : p = valF x.t.s x.t.n (dgi p.num.natAbs) x.l.s x.l.n (dgi (p.den : Int).natAbs) := by
  rw [h.t.s, h.t.n, h.l.s, h.l.n]; exact (valF_canon p).symm
theorem KN.okv {w : World} {x : NV} {p : Int} (h : KN w x p) : okN x.s x.n (dgi p.natAbs) := by rw [h.s, h.n]; exact canon_ok p
theorem KN.valv {w : World} {x : NV} {p : Int} (h : KN w x p) : valN x.s x.n (dgi p.natAbs) = p := by rw [h.s, h.n]; exact canon_val p
theorem rd_block {w : World} {a : Option Addr} {n : Nat} {o : Nat → Int} (h : Rd w a n o) (hn : 0 < n) : ∀ p, a = some p → p.block < w.heap.size := fun p hp => by
  obtain ⟨b, off, e, hc⟩ := h.cells hn
  rw [e] at hp
  cases hp
  exact block_lt_of_cell (hc 0 hn)
theorem qfit {w : World} {x : FV} {p : Rat} (h1 : AF w x p) (b1 : LF x 900000) : Calls Tryz.prog 51 #[x.v] w fun e w' => ∃ y : FV, e = .returned y.v ∧ KF w' y p ∧ Below w.heap.size w w' := by
  obtain ⟨o1, o2, r1, r2, e1⟩ := h1.ex
  have h := fof2_any x.t.s x.t.a x.t.n x.t.c o1 x.l.s x.l.a x.l.n x.l.c o2 w w.heap.size (Nat.le_refl _) r1 (by omega) h1.l1 (rd_block r1) r2 (by omega) h1.l2 (rd_block r2)
  rw [e1] at h
  refine h.mono ?_
  rintro e w' ⟨a1, c1, a2, c2, rfl, g1, l1, g2, l2, hb⟩
  exact ⟨⟨⟨_, a1, _, c1⟩, ⟨_, a2, _, c2⟩⟩, rfl, ⟨⟨rfl, rfl, g1.rd, l1⟩, ⟨rfl, rfl, g2.rd, l2⟩⟩, hb⟩
theorem unitN {w : World} {x : NV} {p : Int} (h1 : AN w x p) (b1 : x.n ≤ 10000000) : Calls Tryz.prog 45 #[x.v] w fun e w' => e = .returned (.bool (decide (p = 1))) ∧ Below w.heap.size w w' := by
  obtain ⟨o, hr, hv⟩ := h1.ex
  have h := unit_any x.s x.a x.n x.c o w hr b1 h1.le
  rw [hv] at h
  exact h
theorem cat3 (a b : List UInt8) : (⟨a.toArray⟩ : ByteArray) ++ ((⟨#[47]⟩ : ByteArray) ++ (⟨b.toArray⟩ : ByteArray)) = ⟨(a ++ 47 :: b).toArray⟩ := by
  apply ByteArray.ext
  simp
theorem nDig_le : ∀ (k n : Nat), n < 10 ^ (k + 1) → Lib.nDigits n ≤ k + 1
  | 0, n, h => by rw [Lib.nDigits_small (by simpa using h)]; omega
  | k + 1, n, h => by
    by_cases hn : n < 10
    · rw [Lib.nDigits_small hn]; omega
    · rw [Lib.nDigits_big hn]
      have := nDig_le k (n / 10) (by rw [Nat.pow_succ] at h; omega)
      omega
theorem itoa_len {z : Int} {k : Nat} (h : lenB z.natAbs ≤ k) : (Lib.itoa z).length ≤ 9 * k + 2 := by
  have h1 : Lib.nDigits z.natAbs ≤ 9 * k + 1 := by
    refine nDig_le (9 * k) _ ?_
    have h2 := Nat.lt_of_lt_of_le (lt_pw_lenB z.natAbs) (pw_le h)
    rw [pw_ten] at h2
    exact Nat.lt_of_lt_of_le h2 (Nat.pow_le_pow_right (by omega) (by omega))
  by_cases hz : z < 0
  · rw [show z = -((z.natAbs : Nat) : Int) by omega, Lib.itoa_neg _ (by omega), List.length_cons, Lib.decDigits_length]; omega
  · rw [show z = ((z.natAbs : Nat) : Int) by omega, Lib.itoa_nonneg, Lib.decDigits_length]; omega
theorem LQ.make {p q : Int} {k : Nat} (hq : q ≠ 0) (h1 : lenB p.natAbs ≤ k) (h2 : lenB q.natAbs ≤ k) : LQ ((p : Rat) / (q : Rat)) k := by
  rw [← Rat.divInt_eq_div]
  have h := divInt_len p q hq
  exact ⟨by omega, by omega⟩
theorem LQ.of {n d : Int} (h1 : -9223372036854775808 ≤ n) (h2 : n ≤ 9223372036854775807) (h3 : -9223372036854775808 ≤ d) (h4 : d ≤ 9223372036854775807) (hd : d ≠ 0) : LQ ((n : Rat) / (d : Rat)) 3 := LQ.make hd (len1 h1 h2) (len1 h3 h4)
def textQ (q : Rat) : List UInt8 := if (q.den : Int) = 1 then Lib.itoa q.num else Lib.itoa q.num ++ 47 :: Lib.itoa (q.den : Int)
set_option maxRecDepth 100000 in
set_option maxHeartbeats 8000000 in
theorem qtext_one (x1 : FV) (p1 : Rat) (w : World) (htab : Tab w) (h1 : AF w x1 p1) (b1 : LF x1 100) (lq : LQ p1 101) (hd : (p1.den : Int) = 1) : Calls Tryz.prog 18 #[x1.v] w fun e w' => e = .returned (.string ⟨(textQ p1).toArray⟩) ∧ Below w.heap.size w w' := by
  have HT := Lib.hid htab
  have KG := Lib.hid (Below.refl w.heap.size w)
  have N1 := Lib.hid h1
  have Bx1 := Lib.hid b1
  have LQp1 := Lib.hid lq
  clear h1 b1 lq htab
  have HD := Lib.hid hd
  clear hd
  go_enter Tryz.func18, Tryz.ntmps18
  go_upto_region 1 with (fail)
  obtain ⟨v2, hV⟩ : ∃ V, V = w.alloc (.cells #[.bool x1.t.s, .slice x1.t.a x1.t.n x1.t.c, .bool x1.l.s, .slice x1.l.a x1.l.n x1.l.c] 26) := ⟨_, rfl⟩
  have hbV : Below w.heap.size w v2 := by rw [hV]; exact ((Below.refl _ _).alloc (Nat.le_refl _) _)
  have BX1 := Lib.hid (show Bxs v2 (w.heap.size) 26 [.bool x1.t.s, .slice x1.t.a x1.t.n x1.t.c, .bool x1.l.s, .slice x1.l.a x1.l.n x1.l.c] by have h := Bxs.new (w) 26 [.bool x1.t.s, .slice x1.t.a x1.t.n x1.t.c, .bool x1.l.s, .slice x1.l.a x1.l.n x1.l.c]; rw [hV]; exact h)
  rw [show w.alloc (.cells #[.bool x1.t.s, .slice x1.t.a x1.t.n x1.t.c, .bool x1.l.s, .slice x1.l.a x1.l.n x1.l.c] 26) = v2 from hV.symm]
  have KG := Lib.hid (KG.out.trans (hbV.mono KG.out.size))
  clear hV hbV
  have cBX10 := BX1.out.cell (i := 0) rfl
  have cBX11 := BX1.out.cell (i := 1) rfl
  have cBX12 := BX1.out.cell (i := 2) rfl
  have cBX13 := BX1.out.cell (i := 3) rfl
  have cBX1f := BX1.out.fz
  have cBX1l := BX1.out.lt
  go_wp2_with fail
  have CT := Lib.hid (qfit (N1.out.below KG.out) (LF.up Bx1.out (by decide : _ ≤ 900000)))
  with_reducible refine CT.out.mono ?_
  rintro e w3 ⟨x4, rfl, hN5, hb⟩
  have N5 := Lib.hid hN5
  clear hN5
  clear CT
  clear cBX10 cBX11 cBX12 cBX13 cBX1f cBX1l
  have BX1 := Lib.hid (BX1.out.below hb BX1.out.lt)
  have KG := Lib.hid (KG.out.trans (hb.mono KG.out.size))
  clear hb
  have cBX10 := BX1.out.cell (i := 0) rfl
  have cBX11 := BX1.out.cell (i := 1) rfl
  have cBX12 := BX1.out.cell (i := 2) rfl
  have cBX13 := BX1.out.cell (i := 3) rfl
  have cBX1f := BX1.out.fz
  have cBX1l := BX1.out.lt
  go_upto_region 2 with (fail)
  clear cBX10 cBX11 cBX12 cBX13 cBX1f cBX1l
  obtain ⟨v6, hV⟩ : ∃ V, V = (((w3.setCell ⟨w.heap.size, 0, none⟩ (.bool x4.t.s)).setCell ⟨w.heap.size, 1, none⟩ (.slice x4.t.a x4.t.n x4.t.c)).setCell ⟨w.heap.size, 2, none⟩ (.bool x4.l.s)).setCell ⟨w.heap.size, 3, none⟩ (.slice x4.l.a x4.l.n x4.l.c) := ⟨_, rfl⟩
  have hB := Lib.hid (show Bxs v6 (w.heap.size) 26 [.bool x4.t.s, .slice x4.t.a x4.t.n x4.t.c, .bool x4.l.s, .slice x4.l.a x4.l.n x4.l.c] by rw [hV]; exact ((((BX1.out.put 0 _).put 1 _).put 2 _).put 3 _))
  have N5 := Lib.hid (show KF v6 x4 p1 by rw [hV]; exact ((((N5.out.setBxs BX1.out rfl 0 _).setBxs (BX1.out.put 0 _) rfl 1 _).setBxs ((BX1.out.put 0 _).put 1 _) rfl 2 _).setBxs (((BX1.out.put 0 _).put 1 _).put 2 _) rfl 3 _))
  have KG := Lib.hid (show Below w.heap.size w v6 by rw [hV]; exact ((((KG.out.setCell (Nat.le_refl _) _).setCell (Nat.le_refl _) _).setCell (Nat.le_refl _) _).setCell (Nat.le_refl _) _))
  rw [show (((w3.setCell ⟨w.heap.size, 0, none⟩ (.bool x4.t.s)).setCell ⟨w.heap.size, 1, none⟩ (.slice x4.t.a x4.t.n x4.t.c)).setCell ⟨w.heap.size, 2, none⟩ (.bool x4.l.s)).setCell ⟨w.heap.size, 3, none⟩ (.slice x4.l.a x4.l.n x4.l.c) = v6 from hV.symm]
  clear hV
  have BX1 := hB
  clear hB
  have cBX10 := BX1.out.cell (i := 0) rfl
  have cBX11 := BX1.out.cell (i := 1) rfl
  have cBX12 := BX1.out.cell (i := 2) rfl
  have cBX13 := BX1.out.cell (i := 3) rfl
  have cBX1f := BX1.out.fz
  have cBX1l := BX1.out.lt
  go_wp2_with fail
  have CT := Lib.hid (textN (N5.out).t.any ((N5.out).t.len (Lib.hid LQp1.out.t).out (by decide)) (HT.out.on KG.out))
  with_reducible refine CT.out.mono ?_
  rintro e w7 ⟨rfl, hb⟩
  clear CT
  clear cBX10 cBX11 cBX12 cBX13 cBX1f cBX1l
  have N5 := Lib.hid (N5.out.below hb)
  have BX1 := Lib.hid (BX1.out.below hb BX1.out.lt)
  have KG := Lib.hid (KG.out.trans (hb.mono KG.out.size))
  clear hb
  have cBX10 := BX1.out.cell (i := 0) rfl
  have cBX11 := BX1.out.cell (i := 1) rfl
  have cBX12 := BX1.out.cell (i := 2) rfl
  have cBX13 := BX1.out.cell (i := 3) rfl
  have cBX1f := BX1.out.fz
  have cBX1l := BX1.out.lt
  go_wp2_with fail
  have CT := Lib.hid (unitN (N5.out).l.any ((N5.out).l.len (Lib.hid LQp1.out.l).out (by decide)))
  rw [show decide ((p1.den : Int) = 1) = true from decide_eq_true HD.out] at CT
  with_reducible refine CT.out.mono ?_
  rintro e w8 ⟨rfl, hb⟩
  clear CT
  clear cBX10 cBX11 cBX12 cBX13 cBX1f cBX1l
  clear N5
  clear BX1
  have KG := Lib.hid (KG.out.trans (hb.mono KG.out.size))
  clear hb
  go_wp2_with fail
  go_ret
  exact ⟨by unfold textQ; rw [if_pos HD.out]; rfl, KG.out⟩
set_option maxRecDepth 100000 in
set_option maxHeartbeats 8000000 in
theorem qtext_two (x1 : FV) (p1 : Rat) (w : World) (htab : Tab w) (h1 : AF w x1 p1) (b1 : LF x1 100) (lq : LQ p1 101) (hd : ¬ (p1.den : Int) = 1) : Calls Tryz.prog 18 #[x1.v] w fun e w' => e = .returned (.string ⟨(textQ p1).toArray⟩) ∧ Below w.heap.size w w' := by
  have HT := Lib.hid htab
  have KG := Lib.hid (Below.refl w.heap.size w)
  have N1 := Lib.hid h1
  have Bx1 := Lib.hid b1
  have LQp1 := Lib.hid lq
  clear h1 b1 lq htab
  have HD := Lib.hid hd
  clear hd
  go_enter Tryz.func18, Tryz.ntmps18
  go_upto_region 1 with (fail)
  obtain ⟨v2, hV⟩ : ∃ V, V = w.alloc (.cells #[.bool x1.t.s, .slice x1.t.a x1.t.n x1.t.c, .bool x1.l.s, .slice x1.l.a x1.l.n x1.l.c] 26) := ⟨_, rfl⟩
  have hbV : Below w.heap.size w v2 := by rw [hV]; exact ((Below.refl _ _).alloc (Nat.le_refl _) _)
  have BX1 := Lib.hid (show Bxs v2 (w.heap.size) 26 [.bool x1.t.s, .slice x1.t.a x1.t.n x1.t.c, .bool x1.l.s, .slice x1.l.a x1.l.n x1.l.c] by have h := Bxs.new (w) 26 [.bool x1.t.s, .slice x1.t.a x1.t.n x1.t.c, .bool x1.l.s, .slice x1.l.a x1.l.n x1.l.c]; rw [hV]; exact h)
  rw [show w.alloc (.cells #[.bool x1.t.s, .slice x1.t.a x1.t.n x1.t.c, .bool x1.l.s, .slice x1.l.a x1.l.n x1.l.c] 26) = v2 from hV.symm]
  have KG := Lib.hid (KG.out.trans (hbV.mono KG.out.size))
  clear hV hbV
  have cBX10 := BX1.out.cell (i := 0) rfl
  have cBX11 := BX1.out.cell (i := 1) rfl
  have cBX12 := BX1.out.cell (i := 2) rfl
  have cBX13 := BX1.out.cell (i := 3) rfl
  have cBX1f := BX1.out.fz
  have cBX1l := BX1.out.lt
  go_wp2_with fail
  have CT := Lib.hid (qfit (N1.out.below KG.out) (LF.up Bx1.out (by decide : _ ≤ 900000)))
  with_reducible refine CT.out.mono ?_
  rintro e w3 ⟨x4, rfl, hN5, hb⟩
  have N5 := Lib.hid hN5
  clear hN5
  clear CT
  clear cBX10 cBX11 cBX12 cBX13 cBX1f cBX1l
  have BX1 := Lib.hid (BX1.out.below hb BX1.out.lt)
  have KG := Lib.hid (KG.out.trans (hb.mono KG.out.size))
  clear hb
  have cBX10 := BX1.out.cell (i := 0) rfl
  have cBX11 := BX1.out.cell (i := 1) rfl
  have cBX12 := BX1.out.cell (i := 2) rfl
  have cBX13 := BX1.out.cell (i := 3) rfl
  have cBX1f := BX1.out.fz
  have cBX1l := BX1.out.lt
  go_upto_region 2 with (fail)
  clear cBX10 cBX11 cBX12 cBX13 cBX1f cBX1l
  obtain ⟨v6, hV⟩ : ∃ V, V = (((w3.setCell ⟨w.heap.size, 0, none⟩ (.bool x4.t.s)).setCell ⟨w.heap.size, 1, none⟩ (.slice x4.t.a x4.t.n x4.t.c)).setCell ⟨w.heap.size, 2, none⟩ (.bool x4.l.s)).setCell ⟨w.heap.size, 3, none⟩ (.slice x4.l.a x4.l.n x4.l.c) := ⟨_, rfl⟩
  have hB := Lib.hid (show Bxs v6 (w.heap.size) 26 [.bool x4.t.s, .slice x4.t.a x4.t.n x4.t.c, .bool x4.l.s, .slice x4.l.a x4.l.n x4.l.c] by rw [hV]; exact ((((BX1.out.put 0 _).put 1 _).put 2 _).put 3 _))
  have N5 := Lib.hid (show KF v6 x4 p1 by rw [hV]; exact ((((N5.out.setBxs BX1.out rfl 0 _).setBxs (BX1.out.put 0 _) rfl 1 _).setBxs ((BX1.out.put 0 _).put 1 _) rfl 2 _).setBxs (((BX1.out.put 0 _).put 1 _).put 2 _) rfl 3 _))
  have KG := Lib.hid (show Below w.heap.size w v6 by rw [hV]; exact ((((KG.out.setCell (Nat.le_refl _) _).setCell (Nat.le_refl _) _).setCell (Nat.le_refl _) _).setCell (Nat.le_refl _) _))
  rw [show (((w3.setCell ⟨w.heap.size, 0, none⟩ (.bool x4.t.s)).setCell ⟨w.heap.size, 1, none⟩ (.slice x4.t.a x4.t.n x4.t.c)).setCell ⟨w.heap.size, 2, none⟩ (.bool x4.l.s)).setCell ⟨w.heap.size, 3, none⟩ (.slice x4.l.a x4.l.n x4.l.c) = v6 from hV.symm]
  clear hV
  have BX1 := hB
  clear hB
  have cBX10 := BX1.out.cell (i := 0) rfl
  have cBX11 := BX1.out.cell (i := 1) rfl
  have cBX12 := BX1.out.cell (i := 2) rfl
  have cBX13 := BX1.out.cell (i := 3) rfl
  have cBX1f := BX1.out.fz
  have cBX1l := BX1.out.lt
  go_wp2_with fail
  have CT := Lib.hid (textN (N5.out).t.any ((N5.out).t.len (Lib.hid LQp1.out.t).out (by decide)) (HT.out.on KG.out))
  with_reducible refine CT.out.mono ?_
  rintro e w7 ⟨rfl, hb⟩
  clear CT
  clear cBX10 cBX11 cBX12 cBX13 cBX1f cBX1l
  have N5 := Lib.hid (N5.out.below hb)
  have BX1 := Lib.hid (BX1.out.below hb BX1.out.lt)
  have KG := Lib.hid (KG.out.trans (hb.mono KG.out.size))
  clear hb
  have cBX10 := BX1.out.cell (i := 0) rfl
  have cBX11 := BX1.out.cell (i := 1) rfl
  have cBX12 := BX1.out.cell (i := 2) rfl
  have cBX13 := BX1.out.cell (i := 3) rfl
  have cBX1f := BX1.out.fz
  have cBX1l := BX1.out.lt
  go_wp2_with fail
  have CT := Lib.hid (unitN (N5.out).l.any ((N5.out).l.len (Lib.hid LQp1.out.l).out (by decide)))
  rw [show decide ((p1.den : Int) = 1) = false from decide_eq_false HD.out] at CT
  with_reducible refine CT.out.mono ?_
  rintro e w8 ⟨rfl, hb⟩
  clear CT
  clear cBX10 cBX11 cBX12 cBX13 cBX1f cBX1l
  have N5 := Lib.hid (N5.out.below hb)
  have BX1 := Lib.hid (BX1.out.below hb BX1.out.lt)
  have KG := Lib.hid (KG.out.trans (hb.mono KG.out.size))
  clear hb
  have c1 : ¬ (9223372036854775807 < 1 + (Lib.itoa (p1.den : Int)).length) := by have := itoa_len LQp1.out.l; omega
  have c2 : ¬ (9223372036854775807 < (Lib.itoa p1.num).length + (1 + (Lib.itoa (p1.den : Int)).length)) := by have := itoa_len LQp1.out.t; have := itoa_len LQp1.out.l; omega
  have cBX10 := BX1.out.cell (i := 0) rfl
  have cBX11 := BX1.out.cell (i := 1) rfl
  have cBX12 := BX1.out.cell (i := 2) rfl
  have cBX13 := BX1.out.cell (i := 3) rfl
  have cBX1f := BX1.out.fz
  have cBX1l := BX1.out.lt
  go_wp2_with fail
  have CT := Lib.hid (textN (N5.out).l.any ((N5.out).l.len (Lib.hid LQp1.out.l).out (by decide)) (HT.out.on KG.out))
  with_reducible refine CT.out.mono ?_
  rintro e w9 ⟨rfl, hb⟩
  clear CT
  clear cBX10 cBX11 cBX12 cBX13 cBX1f cBX1l
  clear N5
  clear BX1
  have KG := Lib.hid (KG.out.trans (hb.mono KG.out.size))
  clear hb
  go_wp2_with fail
  go_ret
  exact ⟨by unfold textQ; rw [if_neg HD.out, ← cat3]; rfl, KG.out⟩
theorem KF.lq {w : World} {x : FV} {q : Rat} {k : Nat} (h : KF w x q) (b : LF x k) : LQ q k := ⟨by rw [← h.t.n]; exact b.1, by rw [← h.l.n]; exact b.2⟩
theorem field_frac1 (x : FV) (w : World) : (Instr.field 26 x.v 1).run Tryz.prog w = .ok x.l.v w := by kernel_rfl
set_option maxRecDepth 100000 in
set_option maxHeartbeats 8000000 in
theorem qwhole (x1 : FV) (p1 : Rat) (w : World) (h1 : AF w x1 p1) (b1 : LF x1 100) (lq : LQ p1 101) : Calls Tryz.prog 16 #[x1.v] w fun e w' => e = .returned (.bool (decide ((p1.den : Int) = 1))) ∧ Below w.heap.size w w' := by
  have KG := Lib.hid (Below.refl w.heap.size w)
  have N1 := Lib.hid h1
  have Bx1 := Lib.hid b1
  have LQp1 := Lib.hid lq
  clear h1 b1 lq
  obtain ⟨vd, hvd⟩ : ∃ v, v = decide ((p1.den : Int) = 1) := ⟨_, rfl⟩
  have Hvd := Lib.hid hvd
  clear hvd
  go_enter Tryz.func16, Tryz.ntmps16
  go_upto_region 1 with (fail)
  obtain ⟨v2, hV⟩ : ∃ V, V = w.alloc (.cells #[.bool x1.t.s, .slice x1.t.a x1.t.n x1.t.c, .bool x1.l.s, .slice x1.l.a x1.l.n x1.l.c] 26) := ⟨_, rfl⟩
  have hbV : Below w.heap.size w v2 := by rw [hV]; exact ((Below.refl _ _).alloc (Nat.le_refl _) _)
  have BX1 := Lib.hid (show Bxs v2 (w.heap.size) 26 [.bool x1.t.s, .slice x1.t.a x1.t.n x1.t.c, .bool x1.l.s, .slice x1.l.a x1.l.n x1.l.c] by have h := Bxs.new (w) 26 [.bool x1.t.s, .slice x1.t.a x1.t.n x1.t.c, .bool x1.l.s, .slice x1.l.a x1.l.n x1.l.c]; rw [hV]; exact h)
  rw [show w.alloc (.cells #[.bool x1.t.s, .slice x1.t.a x1.t.n x1.t.c, .bool x1.l.s, .slice x1.l.a x1.l.n x1.l.c] 26) = v2 from hV.symm]
  have KG := Lib.hid (KG.out.trans (hbV.mono KG.out.size))
  clear hV hbV
  have cBX10 := BX1.out.cell (i := 0) rfl
  have cBX11 := BX1.out.cell (i := 1) rfl
  have cBX12 := BX1.out.cell (i := 2) rfl
  have cBX13 := BX1.out.cell (i := 3) rfl
  have cBX1f := BX1.out.fz
  have cBX1l := BX1.out.lt
  go_wp2_with fail
  have CT := Lib.hid (qfit (N1.out.below KG.out) (LF.up Bx1.out (by decide : _ ≤ 900000)))
  with_reducible refine CT.out.mono ?_
  rintro e w3 ⟨x4, rfl, hN5, hb⟩
  have N5 := Lib.hid hN5
  clear hN5
  clear CT
  clear cBX10 cBX11 cBX12 cBX13 cBX1f cBX1l
  clear BX1
  have KG := Lib.hid (KG.out.trans (hb.mono KG.out.size))
  clear hb
  have hf1 := field_frac1 x4 w3
  go_wp2_with fail
  have CT := Lib.hid (unitN (N5.out).l.any ((N5.out).l.len (Lib.hid LQp1.out.l).out (by decide)))
  rw [show decide ((p1.den : Int) = 1) = vd from Hvd.out.symm] at CT
  with_reducible refine CT.out.mono ?_
  rintro e w6 ⟨rfl, hb⟩
  clear CT
  clear N5
  have KG := Lib.hid (KG.out.trans (hb.mono KG.out.size))
  clear hb
  go_wp2_with fail
  go_ret
  exact ⟨by rw [← Hvd.out]; rfl, KG.out⟩
set_option maxRecDepth 100000 in
set_option maxHeartbeats 8000000 in
theorem qsameFr {w : World} {x1 x2 : FV} {p1 p2 : Rat} (h1 : KF w x1 p1) (b1 : LF x1 900000) (h2 : KF w x2 p2) (b2 : LF x2 900000) (e : p1 = p2) : Calls Tryz.prog 20 #[x1.v, x2.v] w fun e w' => e = .returned (.bool true) ∧ Below w.heap.size w w' := by
  have KG := Lib.hid (Below.refl w.heap.size w)
  have N1 := Lib.hid h1
  have N2 := Lib.hid h2
  have LQp1 := Lib.hid (h1.lq b1)
  have LQp2 := Lib.hid (h2.lq b2)
  have HE := Lib.hid e
  clear h1 h2 b1 b2 e
  go_enter Tryz.func20, Tryz.ntmps20
  go_upto_region 1 with (fail)
  obtain ⟨v3, hV⟩ : ∃ V, V = (w.alloc (.cells #[.bool x1.t.s, .slice x1.t.a x1.t.n x1.t.c, .bool x1.l.s, .slice x1.l.a x1.l.n x1.l.c] 26)).alloc (.cells #[.bool x2.t.s, .slice x2.t.a x2.t.n x2.t.c, .bool x2.l.s, .slice x2.l.a x2.l.n x2.l.c] 26) := ⟨_, rfl⟩
  have hbV : Below w.heap.size w v3 := by rw [hV]; exact (((Below.refl _ _).alloc (Nat.le_refl _) _).alloc (by go_size) _)
  have BX1 := Lib.hid (show Bxs v3 (w.heap.size) 26 [.bool x1.t.s, .slice x1.t.a x1.t.n x1.t.c, .bool x1.l.s, .slice x1.l.a x1.l.n x1.l.c] by have h := (Bxs.new (w) 26 [.bool x1.t.s, .slice x1.t.a x1.t.n x1.t.c, .bool x1.l.s, .slice x1.l.a x1.l.n x1.l.c]).alloc (.cells #[.bool x2.t.s, .slice x2.t.a x2.t.n x2.t.c, .bool x2.l.s, .slice x2.l.a x2.l.n x2.l.c] 26); rw [hV]; exact h)
  have BX2 := Lib.hid (show Bxs v3 (w.heap.size + 1) 26 [.bool x2.t.s, .slice x2.t.a x2.t.n x2.t.c, .bool x2.l.s, .slice x2.l.a x2.l.n x2.l.c] by have h := Bxs.new (w.alloc (.cells #[.bool x1.t.s, .slice x1.t.a x1.t.n x1.t.c, .bool x1.l.s, .slice x1.l.a x1.l.n x1.l.c] 26)) 26 [.bool x2.t.s, .slice x2.t.a x2.t.n x2.t.c, .bool x2.l.s, .slice x2.l.a x2.l.n x2.l.c]; simp only [World.size_alloc] at h; rw [hV]; exact h)
  rw [show (w.alloc (.cells #[.bool x1.t.s, .slice x1.t.a x1.t.n x1.t.c, .bool x1.l.s, .slice x1.l.a x1.l.n x1.l.c] 26)).alloc (.cells #[.bool x2.t.s, .slice x2.t.a x2.t.n x2.t.c, .bool x2.l.s, .slice x2.l.a x2.l.n x2.l.c] 26) = v3 from hV.symm]
  have KG := Lib.hid (KG.out.trans (hbV.mono KG.out.size))
  clear hV hbV
  have cBX10 := BX1.out.cell (i := 0) rfl
  have cBX11 := BX1.out.cell (i := 1) rfl
  have cBX12 := BX1.out.cell (i := 2) rfl
  have cBX13 := BX1.out.cell (i := 3) rfl
  have cBX1f := BX1.out.fz
  have cBX1l := BX1.out.lt
  have cBX20 := BX2.out.cell (i := 0) rfl
  have cBX21 := BX2.out.cell (i := 1) rfl
  have cBX22 := BX2.out.cell (i := 2) rfl
  have cBX23 := BX2.out.cell (i := 3) rfl
  have cBX2f := BX2.out.fz
  have cBX2l := BX2.out.lt
  go_wp2_with fail
  have CT := Lib.hid (sameTN ((N1.out.below KG.out)).t (((N1.out.below KG.out)).t.len (Lib.hid LQp1.out.t).out (by decide)) ((N2.out.below KG.out)).t (((N2.out.below KG.out)).t.len (Lib.hid LQp2.out.t).out (by decide)) (by rw [HE.out]))
  with_reducible refine CT.out.mono ?_
  rintro e w4 ⟨rfl, hb⟩
  clear CT
  clear cBX10 cBX11 cBX12 cBX13 cBX1f cBX1l
  clear cBX20 cBX21 cBX22 cBX23 cBX2f cBX2l
  have BX1 := Lib.hid (BX1.out.below hb BX1.out.lt)
  have BX2 := Lib.hid (BX2.out.below hb BX2.out.lt)
  have KG := Lib.hid (KG.out.trans (hb.mono KG.out.size))
  clear hb
  have cBX10 := BX1.out.cell (i := 0) rfl
  have cBX11 := BX1.out.cell (i := 1) rfl
  have cBX12 := BX1.out.cell (i := 2) rfl
  have cBX13 := BX1.out.cell (i := 3) rfl
  have cBX1f := BX1.out.fz
  have cBX1l := BX1.out.lt
  have cBX20 := BX2.out.cell (i := 0) rfl
  have cBX21 := BX2.out.cell (i := 1) rfl
  have cBX22 := BX2.out.cell (i := 2) rfl
  have cBX23 := BX2.out.cell (i := 3) rfl
  have cBX2f := BX2.out.fz
  have cBX2l := BX2.out.lt
  go_wp2_with fail
  have CT := Lib.hid (sameTN ((N1.out.below KG.out)).l (((N1.out.below KG.out)).l.len (Lib.hid LQp1.out.l).out (by decide)) ((N2.out.below KG.out)).l (((N2.out.below KG.out)).l.len (Lib.hid LQp2.out.l).out (by decide)) (by rw [HE.out]))
  with_reducible refine CT.out.mono ?_
  rintro e w5 ⟨rfl, hb⟩
  clear CT
  clear cBX10 cBX11 cBX12 cBX13 cBX1f cBX1l
  clear cBX20 cBX21 cBX22 cBX23 cBX2f cBX2l
  clear BX1
  clear BX2
  have KG := Lib.hid (KG.out.trans (hb.mono KG.out.size))
  clear hb
  go_wp2_with fail
  go_ret
  exact ⟨rfl, KG.out⟩
open Classical in
theorem qgreat1 {M b : Nat} {x1 : FV} {w : World} (h : Bxs w b 26 [.bool x1.t.s, .slice x1.t.a x1.t.n x1.t.c, .bool x1.l.s, .slice x1.l.a x1.l.n x1.l.c]) :
    Calls Tryz.prog 10 #[.int .i64 M, .slice (some ⟨b, 0, none⟩) 1 1] w fun e w' => e = .returned (.bool (decide ((M < x1.t.n ∨ M < x1.l.n)))) ∧ Below w.heap.size w w' := by
  have g := great2_any M b 1 1 (fun i => x1.t.a) (fun i => x1.l.a) (fun i => x1.t.n) (fun i => x1.t.c) (fun i => x1.l.n) (fun i => x1.l.c) w (fun i hi => by
    match i, hi with
    | 0, _ => exact h.cell (i := 1) rfl) (fun i hi => by
    match i, hi with
    | 0, _ => exact h.cell (i := 3) rfl) (by omega)
  rw [decide_eq_decide.2 (show (∃ i, i < 1 ∧ (M < (fun i => x1.t.n) i ∨ M < (fun i => x1.l.n) i)) ↔ ((M < x1.t.n ∨ M < x1.l.n)) from ⟨fun ⟨i, hi, h⟩ => by
    match i, hi with
    | 0, _ => exact h, fun h => ⟨0, by omega, h⟩⟩)] at g
  exact g.mono fun e w' ⟨h1, h2⟩ => ⟨h1, by rw [h2]; exact Below.refl _ _⟩
set_option maxRecDepth 100000 in
set_option maxHeartbeats 4000000 in
theorem slcut_any (s : ByteArray) (w : World) (hs : s.size ≤ 9223372036854775807) :
    Calls Tryz.prog 107 #[.string s, .string ⟨#[47]⟩] w fun e w' => e = .returned (.tuple #[.string ⟨(Lib.cut s.data.toList [47]).1.toArray⟩, .string ⟨(Lib.cut s.data.toList [47]).2.1.toArray⟩, .bool (Lib.cut s.data.toList [47]).2.2]) ∧ Below w.heap.size w w' := by
  have HI := Lib.hid (fun w' : World => Tryz.stringslite_Index_one s 47 w')
  rcases Lib.indexB_cases s ⟨#[47]⟩ with hix | ⟨i, hix, hroom⟩
  · obtain ⟨e1, e2, e3⟩ := Lib.cutB_miss s ⟨#[47]⟩ hix
    have hx : Lib.indexByte s.data.toList 47 = -1 := by rw [← Lib.index_one]; exact hix
    rw [show ([47] : List UInt8) = (ByteArray.mk #[47]).data.toList from rfl, e1, e2, e3]
    have HX := Lib.hid hx
    clear hix hx e1 e2 e3
    go_enter Tryz.func107, Tryz.ntmps107
    go_wp2_with (with_reducible refine (HI.out _).mono ?_; rintro e w' ⟨rfl, rfl⟩; rw [HX.out])
    go_ret3
    exact ⟨rfl, Below.refl _ _⟩
  · obtain ⟨e1, e2, e3⟩ := Lib.cutB_hit s ⟨#[47]⟩ i hix
    have hx : Lib.indexByte s.data.toList 47 = i := by rw [← Lib.index_one]; exact hix
    have hroom2 : i + 1 ≤ s.size := hroom
    rw [show ([47] : List UInt8) = (ByteArray.mk #[47]).data.toList from rfl, e1, e2, e3]
    have HX := Lib.hid hx
    have c1 : (0 : Int) ≤ ↑i := by omega
    have c2 : (↑i : Int) ≤ ↑s.size := by omega
    have c3 : (0 : Int) ≤ ↑i + 1 := by omega
    have c4 : (↑i + 1 : Int) ≤ ↑s.size := by omega
    have ew : IntKind.i64.wrap ((i : Int) + 1) = (i : Int) + 1 := IntWalk.i64_in _ (by omega)
    clear hix hx e1 e2 e3 hroom hroom2
    go_enter Tryz.func107, Tryz.ntmps107
    go_wp2_with (with_reducible refine (HI.out _).mono ?_; rintro e w' ⟨rfl, rfl⟩; rw [HX.out])
    have mixed : Tryz.prog.follows Departure.mixedOrders = true := by kernel_rfl
    go_region_o
    go_wp2
    go_ret3
    exact ⟨rfl, (Below.refl _ _).drew⟩
set_option maxRecDepth 100000 in
theorem scut_any (s : ByteArray) (w : World) (hs : s.size ≤ 9223372036854775807) :
    Calls Tryz.prog 40 #[.string s, .string ⟨#[47]⟩] w fun e w' => e = .returned (.tuple #[.string ⟨(Lib.cut s.data.toList [47]).1.toArray⟩, .string ⟨(Lib.cut s.data.toList [47]).2.1.toArray⟩, .bool (Lib.cut s.data.toList [47]).2.2]) ∧ Below w.heap.size w w' := by
  have HC := Lib.hid (slcut_any s w hs)
  go_enter Tryz.func40, Tryz.ntmps40
  go_wp2_with (with_reducible refine HC.out.mono ?_; rintro e w' ⟨rfl, hb⟩)
  go_ret3
  exact ⟨rfl, hb⟩
end Go.Proofs.YtklidpbdgliemaaGreatDoor.Limb
