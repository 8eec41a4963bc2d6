/-
  The walk of the reference's Parse.
-/
import Derived.Test.YtefjjhfahebmeaaGreatDoorRtD
import Derived.Test.YtefjjhfahebmeaaGreatDoorRtE
import Derived.WalkKit
import Derived.ProofKit
import Derived.OpenShut
import Derived.Deep.DeepHandedRow
import Derived.Lib.LaidTab
import Derived.Lay
import Derived.MakeChecks
import Derived.Stop.LaidErr
import Derived.Deep.DeepWitnessRowRef
set_option linter.unusedSimpArgs false
set_option linter.unusedVariables false
namespace Go.Proofs.YtefjjhfahebmeaaGreatDoor.Limb
open Go.RowKit Go.Sort
structure NumR (w : World) (z : Int) (a : Option Addr) (c : Nat) : Prop where
  rd : Rd w a (lenB z.natAbs) (dgi z.natAbs)
  le : lenB z.natAbs ≤ c
theorem NumR.below {w w' : World} {z : Int} {a : Option Addr} {c : Nat} (h : NumR w z a c) (hb : Below w.heap.size w w') : NumR w' z a c := ⟨h.rd.below hb, h.le⟩
abbrev numC (z : Int) (a : Option Addr) (c : Nat) : Value := numV (decide (z < 0)) a (lenB z.natAbs) c
def RetN (w : World) (z : Int) (e : Ending) (w' : World) : Prop := ∃ a c, e = .returned (numC z a c) ∧ NumR w' z a c ∧ Below w.heap.size w w'
open Classical in
theorem checkC {w : World} {z1 : Int} {a1 : Option Addr} {c1 : Nat} (h1 : NumR w z1 a1 c1) (b1 : lenB z1.natAbs ≤ 10000000) :
    Calls Tryz.prog 14 #[numC z1 a1 c1] w fun e w' => e = .returned (.bool true) ∧ Below w.heap.size w w' := by
  have h := check_any (decide (z1 < 0)) a1 _ c1 _ w h1.rd (by omega)
  rw [decide_eq_true (canon_ok z1)] at h
  exact h
def RetD (w : World) (q r : Int) (e : Ending) (w' : World) : Prop := ∃ a c a' c', e = .returned (.tuple #[numC q a c, numC r a' c', .int .i64 0]) ∧ NumR w' q a c ∧ NumR w' r a' c' ∧ Below w.heap.size w w'
open Classical in
set_option maxHeartbeats 1000000 in
theorem sameLimbs_dec (a b : Option Addr) (n m ca cb : Nat) (o p : Nat → Int) (w : World) (ha : Rd w a n o) (hb : Rd w b m p) (hn : n ≤ 1000000000) (hm : m ≤ 1000000000) :
    Calls Tryz.prog 26 #[.slice a n ca, .slice b m cb] w fun e w' => e = .returned (.bool (decide (n = m ∧ ∀ i, i < n → o i = p i))) ∧ ∃ m, w' = w.drewN m := by
  have HA := Lib.hid ha; have HB := Lib.hid hb
  clear ha hb
  obtain ⟨d, hd⟩ : ∃ d, d = decide (n = m ∧ ∀ i, i < n → o i = p i) := ⟨_, rfl⟩
  rw [← hd]
  by_cases hnm : n = m
  · subst hnm
    have Y := Lib.hid (fun (h : ∀ i, i < n → o i = p i) => (hd.trans (decide_eq_true ⟨rfl, h⟩) : d = true))
    have Z := Lib.hid (fun (i : Nat) (hi : i < n) (h : o i ≠ p i) => (hd.trans (decide_eq_false (fun h2 => h (h2.2 i hi))) : d = false))
    clear hd
    go_enter Tryz.func26, Tryz.ntmps26
    go_wp2_with fail
    go_loopw [5] (fun i wr => ∃ t : Nat, t ≤ n ∧ i = .int .i64 t ∧ (∀ j, j < t → o j = p j) ∧ ∃ m, wr = w.drewN m) (fun i _ => n - (intOf i).toNat)
    case atStart => exact ⟨0, by omega, rfl, fun j hj => by omega, 0, rfl⟩
    case round =>
      obtain ⟨t, htn, rfl, he, hm⟩ := hrel
      have HM := Lib.hid hm
      have HE := Lib.hid he
      have cw : ∀ p, wr.cell? p = w.cell? p := by obtain ⟨m, rfl⟩ := hm; intro p; rfl
      clear hm he
      by_cases ht : t < n
      · obtain ⟨b1, o1, rfl, hc1⟩ := HA.out.cells (by omega)
        obtain ⟨b2, o2, rfl, hc2⟩ := HB.out.cells (by omega)
        have c1 : wr.cell? ⟨b1, o1 + t, none⟩ = some (.int .u32 (o t)) := (cw _).trans (hc1 t ht)
        have c2 : wr.cell? ⟨b2, o2 + t, none⟩ = some (.int .u32 (p t)) := (cw _).trans (hc2 t ht)
        obtain ⟨x, hx⟩ : ∃ x, x = o t := ⟨_, rfl⟩
        obtain ⟨y, hy⟩ : ∃ y, y = p t := ⟨_, rfl⟩
        rw [← hx] at c1
        rw [← hy] at c2
        have HXY := Lib.hid (And.intro hx hy)
        clear hc1 hc2 cw hx hy
        by_cases hxy : x = y
        · have hq : (x == y) = true := by simpa using hxy
          subst hxy
          go_wp2_with fail
          go_quiet (fail)
          go_wp2_with fail
          go_roundw
          case rel =>
            refine ⟨t + 1, by omega, by go_num, fun j hj => ?_, by obtain ⟨m, e⟩ := HM.out; exact ⟨_, by rw [e, World.drewN_drewN]⟩⟩
            by_cases e : j = t
            · subst e; rw [← HXY.out.1, ← HXY.out.2]
            · exact HE.out j (by omega)
          case measure => simp [intOf]; omega
        · have hq : (x == y) = false := by simpa using hxy
          have E := Lib.hid (Z.out t ht (by rw [← HXY.out.1, ← HXY.out.2]; exact hxy))
          go_wp2_with fail
          go_quiet (fail)
          go_wp2_with fail
          go_ret
          exact ⟨by rw [E.out]; rfl, by obtain ⟨m, e⟩ := HM.out; exact ⟨_, by rw [e, World.drewN_drewN]⟩⟩
      · obtain rfl : t = n := by omega
        have E := Lib.hid (Y.out HE.out)
        clear cw
        go_wp2_with fail
        go_ret
        exact ⟨by rw [E.out]; rfl, HM.out⟩
  · have hq : ¬ (n : Int) = (m : Int) := by omega
    rw [hd, decide_eq_false (fun h => hnm h.1)]
    clear hd
    go_enter Tryz.func26, Tryz.ntmps26
    go_wp2_with fail
    go_ret
    exact ⟨rfl, 0, rfl⟩
open Classical in
set_option maxHeartbeats 1000000 in
theorem sameC {w : World} {z1 z2 : Int} {a1 a2 : Option Addr} {c1 c2 : Nat} (h1 : NumR w z1 a1 c1) (b1 : lenB z1.natAbs ≤ 10000000) (h2 : NumR w z2 a2 c2) (b2 : lenB z2.natAbs ≤ 10000000) :
    Calls Tryz.prog 18 #[numC z1 a1 c1, numC z2 a2 c2] w fun e w' => e = .returned (.bool (decide (z1 = z2))) ∧ Below w.heap.size w w' := by
  have HC := Lib.hid (fun (w' : World) (h : Below w.heap.size w w') => sameLimbs_dec a1 a2 _ _ c1 c2 _ _ w' (h1.rd.below h) (h2.rd.below h) (by omega) (by omega))
  have HD := Lib.hid (show (decide (z1 < 0) == decide (z2 < 0) && decide (lenB z1.natAbs = lenB z2.natAbs ∧ ∀ i, i < lenB z1.natAbs → dgi z1.natAbs i = dgi z2.natAbs i)) = decide (z1 = z2) by
    by_cases h : z1 = z2
    · subst h; simp
    · rw [decide_eq_false h]
      by_cases hs : decide (z1 < 0) = decide (z2 < 0)
      · rw [hs, beq_self_eq_true, Bool.true_and]
        refine decide_eq_false fun h3 => h ?_
        have h4 := canon_val z1
        have h5 := canon_val z2
        rw [← h4, ← h5, hs, h3.1]
        unfold valN
        have e : sumB (dgi z1.natAbs) (lenB z2.natAbs) = sumB (dgi z2.natAbs) (lenB z2.natAbs) := sumB_congr fun i hi => h3.2 i (by rw [h3.1]; exact hi)
        have k1 : okN (decide (z2 < 0)) (lenB z2.natAbs) (dgi z1.natAbs) := by have := canon_ok z1; rw [hs, h3.1] at this; exact this
        rw [if_pos k1, if_pos (canon_ok z2), e]
      · have : (decide (z1 < 0) == decide (z2 < 0)) = false := by simpa using hs
        rw [this, Bool.false_and])
  obtain ⟨s1, hs1⟩ : ∃ s1, s1 = decide (z1 < 0) := ⟨_, rfl⟩
  obtain ⟨s2, hs2⟩ : ∃ s2, s2 = decide (z2 < 0) := ⟨_, rfl⟩
  obtain ⟨t, ht⟩ : ∃ t, t = decide (lenB z1.natAbs = lenB z2.natAbs ∧ ∀ i, i < lenB z1.natAbs → dgi z1.natAbs i = dgi z2.natAbs i) := ⟨_, rfl⟩
  rw [← hs1, ← hs2, ← ht] at HD
  rw [← ht] at HC
  show Calls Tryz.prog 18 #[numV (decide (z1 < 0)) a1 (lenB z1.natAbs) c1, numV (decide (z2 < 0)) a2 (lenB z2.natAbs) c2] w _
  rw [← hs1, ← hs2, ← HD.out]
  clear h1 h2 hs1 hs2 ht HD
  generalize lenB z1.natAbs = n1 at *
  generalize lenB z2.natAbs = n2 at *
  by_cases hs : s1 = s2
  · have hq : (s1 == s2) = true := by simpa using hs
    rw [hq, Bool.true_and]
    go_enter Tryz.func18, Tryz.ntmps18
    go_wp2_with fail
    refine (HC.out _ ?_).mono ?_
    · (repeat' (first | (with_reducible exact Below.refl _ _) | (with_reducible assumption) | (with_reducible refine Below.alloc ?_ ?_ _) | (with_reducible refine Below.drew ?_) | (with_reducible refine bdrewN ?_ _) | (with_reducible refine Below.setCell ?_ ?_ _) | (with_reducible refine Below.frame ?_ _) | go_size))
    rintro e w1 ⟨rfl, m, rfl⟩
    go_wp2_with fail
    go_ret
    exact ⟨rfl, by (repeat' (first | (with_reducible exact Below.refl _ _) | (with_reducible assumption) | (with_reducible refine Below.alloc ?_ ?_ _) | (with_reducible refine Below.drew ?_) | (with_reducible refine bdrewN ?_ _) | (with_reducible refine Below.setCell ?_ ?_ _) | (with_reducible refine Below.frame ?_ _) | go_size))⟩
  · have hq : (s1 == s2) = false := by simpa using hs
    rw [hq, Bool.false_and]
    go_enter Tryz.func18, Tryz.ntmps18
    go_wp2_with fail
    go_ret
    exact ⟨rfl, by (repeat' (first | (with_reducible exact Below.refl _ _) | (with_reducible assumption) | (with_reducible refine Below.alloc ?_ ?_ _) | (with_reducible refine Below.drew ?_) | (with_reducible refine bdrewN ?_ _) | (with_reducible refine Below.setCell ?_ ?_ _) | (with_reducible refine Below.frame ?_ _) | go_size))⟩
end Go.Proofs.YtefjjhfahebmeaaGreatDoor.Limb
namespace Go.Proofs.YtefjjhfahebmeaaGreatDoor.Limb
open Go.RowKit Go.Sort Go.Fresh
structure NumA (w : World) (s : Bool) (a : Option Addr) (n c : Nat) (z : Int) : Prop where
  ex : ∃ o, Rd w a n o ∧ valN s n o = z
  le : n ≤ c
theorem NumA.below {w w' : World} {s : Bool} {a : Option Addr} {n c : Nat} {z : Int} (h : NumA w s a n c z) (hb : Below w.heap.size w w') : NumA w' s a n c z := by
  obtain ⟨o, hr, hv⟩ := h.ex
  exact ⟨⟨o, hr.below hb, hv⟩, h.le⟩
theorem NumR.any {w : World} {z : Int} {a : Option Addr} {c : Nat} (h : NumR w z a c) : NumA w (decide (z < 0)) a (lenB z.natAbs) c z := ⟨⟨_, h.rd, canon_val z⟩, h.le⟩
structure NumO (w : World) (b : Nat) (z : Int) (a : Option Addr) (c : Nat) : Prop where
  own : Own 54 w b a (lenB z.natAbs) c (dgi z.natAbs)
theorem NumO.below {w w' : World} {b : Nat} {z : Int} {a : Option Addr} {c : Nat} (h : NumO w b z a c) (hb : Below w.heap.size w w') : NumO w' b z a c := ⟨h.own.below hb⟩
theorem NumO.mono {w : World} {b b' : Nat} {z : Int} {a : Option Addr} {c : Nat} (h : NumO w b z a c) (hb : b' ≤ b) : NumO w b' z a c := ⟨h.own.mono hb⟩
theorem NumO.r {w : World} {b : Nat} {z : Int} {a : Option Addr} {c : Nat} (h : NumO w b z a c) : NumR w z a c := ⟨h.own.rd, h.own.le⟩
theorem NumO.any {w : World} {b : Nat} {z : Int} {a : Option Addr} {c : Nat} (h : NumO w b z a c) : NumA w (decide (z < 0)) a (lenB z.natAbs) c z := h.r.any
def RetO (w : World) (z : Int) (e : Ending) (w' : World) : Prop := ∃ a c, e = .returned (numC z a c) ∧ NumO w' w.heap.size z a c ∧ Below w.heap.size w w'
theorem ResN.retO {w : World} {z : Int} {e : Ending} {w' : World} (h : ResN w z e w') : RetO w z e w' := by
  obtain ⟨a, rfl, ho, -, hb⟩ := h
  exact ⟨a, _, rfl, ⟨ho⟩, hb⟩
def RetOD (w : World) (q r : Int) (e : Ending) (w' : World) : Prop := ∃ a c a' c', e = .returned (.tuple #[numC q a c, numC r a' c', .int .i64 0]) ∧ NumO w' w.heap.size q a c ∧ NumO w' w.heap.size r a' c' ∧ Below w.heap.size w w'
theorem ofA (n : Int) (w : World) (h1 : -9223372036854775808 ≤ n) (h2 : n ≤ 9223372036854775807) : Calls Tryz.prog 13 #[.int .i64 n] w (RetO w n) := (of64_any n w h1 h2).mono fun _ _ h => ResN.retO h
theorem textA {w : World} {s1 : Bool} {n1 : Nat} {z1 : Int} {a1 : Option Addr} {c1 : Nat} (h1 : NumA w s1 a1 n1 c1 z1) (b1 : n1 ≤ 10000000) (ht : Tab w) :
    Calls Tryz.prog 16 #[numV s1 a1 n1 c1] w fun e w' => e = .returned (.string ⟨(Lib.itoa z1).toArray⟩) ∧ Below w.heap.size w w' := by
  obtain ⟨o1, r1, rfl⟩ := h1.ex
  exact text_any s1 a1 _ c1 _ w r1 (by omega) h1.le ht
theorem lenZ_val (s : Bool) (n : Nat) (o : Nat → Int) (h : ∀ i, i < n → 0 ≤ o i ∧ o i ≤ 4294967295) : lenB (valN s n o).natAbs ≤ n := by
  by_cases hk : okN s n o
  · obtain ⟨f1, f2, f3⟩ := of_facts s n o hk h
    omega
  · rw [show valN s n o = 0 by unfold valN; rw [if_neg hk]]
    simp [lenB_zero]
theorem NumA.len {w : World} {s : Bool} {a : Option Addr} {n c : Nat} {z : Int} (h : NumA w s a n c z) : lenB z.natAbs ≤ n := by
  obtain ⟨o, hr, rfl⟩ := h.ex
  exact lenZ_val s n o hr.rng
end Go.Proofs.YtefjjhfahebmeaaGreatDoor.Limb
namespace Go.Proofs.YtefjjhfahebmeaaGreatDoor.Limb
end Go.Proofs.YtefjjhfahebmeaaGreatDoor.Limb
namespace Go.Proofs.YtefjjhfahebmeaaGreatDoor.Limb
open Go.RowKit Go.Sort Go.Fresh
open Classical in
theorem badC (s : Bool) (a : Option Addr) (n c : Nat) (o : Nat → Int) (w : World) (h : Rd w a n o) (hn : n ≤ 1000000000) (hk : ¬ okN s n o) :
    Calls Tryz.prog 14 #[numV s a n c] w fun e w' => e = .returned (.bool false) ∧ Below w.heap.size w w' := by
  have h := check_any s a n c o w h hn
  rw [decide_eq_false hk] at h
  exact h
theorem len1 {z : Int} (h1 : -9223372036854775808 ≤ z) (h2 : z ≤ 9223372036854775807) : lenB z.natAbs ≤ 3 := len3 (by omega)
end Go.Proofs.YtefjjhfahebmeaaGreatDoor.Limb
namespace Go.Proofs.YtefjjhfahebmeaaGreatDoor.Limb
open Go.RowKit Go.Sort
structure NV where
  s : Bool
  a : Option Addr
  n : Nat
  c : Nat
abbrev NV.v (x : NV) : Value := .agg #[.bool x.s, .slice x.a x.n x.c]
theorem NV.inj {x y : NV} (h : x.v = y.v) : x = y := by
  cases x; cases y
  simp only [Value.agg.injEq, Array.mk.injEq, List.cons.injEq, Value.bool.injEq, Value.slice.injEq, and_true] at h
  obtain ⟨rfl, rfl, rfl, rfl⟩ := h
  rfl
abbrev AN (w : World) (x : NV) (z : Int) : Prop := NumA w x.s x.a x.n x.c z
structure KN (w : World) (x : NV) (z : Int) : Prop where
  s : x.s = decide (z < 0)
  n : x.n = lenB z.natAbs
  rd : Rd w x.a x.n (dgi z.natAbs)
  le : x.n ≤ x.c
structure DN (w : World) (lo : Nat) (x : NV) (z : Int) : Prop where
  s : x.s = decide (z < 0)
  n : x.n = lenB z.natAbs
  own : Own 54 w lo x.a x.n x.c (dgi z.natAbs)
structure XN (w : World) (x : NV) : Prop where
  ex : ∃ o, Rd w x.a x.n o ∧ ¬ okN x.s x.n o
  le : x.n ≤ x.c
theorem KN.below {w w' : World} {x : NV} {z : Int} (h : KN w x z) (hb : Below w.heap.size w w') : KN w' x z := ⟨h.s, h.n, h.rd.below hb, h.le⟩
theorem DN.below {w w' : World} {lo : Nat} {x : NV} {z : Int} (h : DN w lo x z) (hb : Below w.heap.size w w') : DN w' lo x z := ⟨h.s, h.n, h.own.below hb⟩
theorem XN.below {w w' : World} {x : NV} (h : XN w x) (hb : Below w.heap.size w w') : XN w' x := by
  obtain ⟨o, hr, hk⟩ := h.ex
  exact ⟨⟨o, hr.below hb, hk⟩, h.le⟩
theorem DN.mono {w : World} {lo lo' : Nat} {x : NV} {z : Int} (h : DN w lo x z) (hl : lo' ≤ lo) : DN w lo' x z := ⟨h.s, h.n, h.own.mono hl⟩
theorem DN.k {w : World} {lo : Nat} {x : NV} {z : Int} (h : DN w lo x z) : KN w x z := ⟨h.s, h.n, h.own.rd, h.own.le⟩
theorem KN.r {w : World} {x : NV} {z : Int} (h : KN w x z) : x.v = numC z x.a x.c ∧ NumR w z x.a x.c := by
  refine ⟨?_, ⟨by rw [← h.n]; exact h.rd, by rw [← h.n]; exact h.le⟩⟩
  show Value.agg #[.bool x.s, .slice x.a x.n x.c] = _
  rw [h.s, h.n]
theorem KN.any {w : World} {x : NV} {z : Int} (h : KN w x z) : AN w x z := by
  have h2 := h.r.2.any
  rw [← h.s, ← h.n] at h2
  exact h2
theorem XN.any {w : World} {x : NV} (h : XN w x) : AN w x 0 := by
  obtain ⟨o, hr, hk⟩ := h.ex
  exact ⟨⟨o, hr, by unfold valN; rw [if_neg hk]⟩, h.le⟩
theorem KN.len {w : World} {x : NV} {z : Int} {k m : Nat} (h : KN w x z) (hz : lenB z.natAbs ≤ k) (hk : k ≤ m) : x.n ≤ m := by rw [h.n]; omega
theorem KN.raw {w : World} {s : Bool} {a : Option Addr} {n c : Nat} {o : Nat → Int} (h : Rd w a n o) (hc : n ≤ c) (hk : okN s n o) : KN w ⟨s, a, n, c⟩ (valN s n o) := by
  obtain ⟨f1, f2, f3⟩ := of_facts s n o hk h.rng
  exact ⟨f1.symm, f2.symm, h.congr f3, hc⟩
theorem XN.raw {w : World} {s : Bool} {a : Option Addr} {n c : Nat} {o : Nat → Int} (h : Rd w a n o) (hc : n ≤ c) (hk : ¬ okN s n o) : XN w ⟨s, a, n, c⟩ := ⟨⟨o, h, hk⟩, hc⟩
theorem AN.raw {w : World} {s : Bool} {a : Option Addr} {n c : Nat} {o : Nat → Int} (h : Rd w a n o) (hc : n ≤ c) : AN w ⟨s, a, n, c⟩ (valN s n o) := ⟨⟨o, h, rfl⟩, hc⟩
theorem KN.zero (w : World) (a : Option Addr) (c : Nat) : KN w ⟨false, a, 0, c⟩ 0 := by
  refine ⟨rfl, ?_, Rd.nil w a _, Nat.zero_le _⟩
  exact lenB_zero.symm
def RN (w : World) (z : Int) (e : Ending) (w' : World) : Prop := ∃ x : NV, e = .returned x.v ∧ DN w' w.heap.size x z ∧ Below w.heap.size w w'
theorem RetO.rn {w : World} {z : Int} {e : Ending} {w' : World} (h : RetO w z e w') : RN w z e w' := by
  obtain ⟨a, c, rfl, ho, hb⟩ := h
  exact ⟨⟨_, a, _, c⟩, rfl, ⟨rfl, rfl, ho.own⟩, hb⟩
def RNN (w : World) (q r c : Int) (e : Ending) (w' : World) : Prop := ∃ x y : NV, e = .returned (.tuple #[x.v, y.v, .int .i64 c]) ∧ DN w' w.heap.size x q ∧ DN w' w.heap.size y r ∧ Below w.heap.size w w'
theorem RNN.zero {w : World} {c : Int} {e : Ending} {w' : World} (h : e = .returned (.tuple #[numV false none 0 0, numV false none 0 0, .int .i64 c]) ∧ Below w.heap.size w w') : RNN w 0 0 c e w' := by
  obtain ⟨rfl, hb⟩ := h
  have h0 : DN w' w.heap.size ⟨false, none, 0, 0⟩ 0 := ⟨rfl, lenB_zero.symm, ⟨Nat.le_refl _, Or.inl ⟨rfl, rfl, rfl⟩, fun i h => absurd h (Nat.not_lt_zero i)⟩⟩
  exact ⟨_, _, rfl, h0, h0, hb⟩
theorem ofN (n : Int) (w : World) (h1 : -9223372036854775808 ≤ n) (h2 : n ≤ 9223372036854775807) : Calls Tryz.prog 13 #[.int .i64 n] w (RN w n) := (ofA n w h1 h2).mono fun _ _ h => h.rn
theorem textN {w : World} {x : NV} {p : Int} (h1 : AN w x p) (b1 : x.n ≤ 10000000) (ht : Tab w) : Calls Tryz.prog 16 #[x.v] w fun e w' => e = .returned (.string ⟨(Lib.itoa p).toArray⟩) ∧ Below w.heap.size w w' := textA h1 b1 ht
theorem checkN {w : World} {x : NV} {p : Int} (h1 : KN w x p) (b1 : x.n ≤ 10000000) : Calls Tryz.prog 14 #[x.v] w fun e w' => e = .returned (.bool true) ∧ Below w.heap.size w w' := by
  have h := h1.r
  rw [h.1]
  exact checkC h.2 (by rw [← h1.n]; exact b1)
theorem checkBN {w : World} {x : NV} (h1 : XN w x) (b1 : x.n ≤ 10000000) : Calls Tryz.prog 14 #[x.v] w fun e w' => e = .returned (.bool false) ∧ Below w.heap.size w w' := by
  obtain ⟨o, hr, hk⟩ := h1.ex
  exact badC x.s x.a x.n x.c o w hr (by omega) hk
theorem backBN {w : World} {x : NV} (h : XN w x) (b1 : x.n ≤ 10000000) : Calls Tryz.prog 9 #[x.v] w fun e w' => e = .returned (.tuple #[.int .i64 0, .int .i64 1]) ∧ Below w.heap.size w w' := by
  obtain ⟨o, hr, hk⟩ := h.ex
  exact back_bad x.s x.a x.n x.c o w hr b1 hk
open Classical in
theorem sameN {w : World} {x y : NV} {p q : Int} (h1 : KN w x p) (b1 : x.n ≤ 10000000) (h2 : KN w y q) (b2 : y.n ≤ 10000000) : Calls Tryz.prog 18 #[x.v, y.v] w fun e w' => e = .returned (.bool (decide (p = q))) ∧ Below w.heap.size w w' := by
  have k1 := h1.r
  have k2 := h2.r
  rw [k1.1, k2.1]
  exact sameC k1.2 (by rw [← h1.n]; exact b1) k2.2 (by rw [← h2.n]; exact b2)
theorem sameTN {w : World} {x y : NV} {p q : Int} (h1 : KN w x p) (b1 : x.n ≤ 10000000) (h2 : KN w y q) (b2 : y.n ≤ 10000000) (e : p = q) : Calls Tryz.prog 18 #[x.v, y.v] w fun e w' => e = .returned (.bool true) ∧ Below w.heap.size w w' := by
  have h := sameN h1 b1 h2 b2
  rw [decide_eq_true e] at h
  exact h
open Classical in
theorem great1N {M b : Nat} {x : NV} {w : World} (h : Bxs w b 24 [.bool x.s, .slice x.a x.n x.c]) :
    Calls Tryz.prog 6 #[.int .i64 M, .slice (some ⟨b, 0, none⟩) 1 1] w fun e w' => e = .returned (.bool (decide (M < x.n))) ∧ Below w.heap.size w w' := by
  have g := great_any M b 1 1 (fun _ => x.a) (fun _ => x.n) (fun _ => x.c) w (fun i hi => by
    match i, hi with
    | 0, _ => exact h.cell (i := 1) rfl) (by omega)
  rw [decide_eq_decide.2 (show (∃ i, i < 1 ∧ M < x.n) ↔ M < x.n from ⟨fun ⟨i, _, h⟩ => h, fun h => ⟨0, by omega, h⟩⟩)] at g
  exact g.mono fun e w' ⟨h1, h2⟩ => ⟨h1, by rw [h2]; exact Below.refl _ _⟩
def NV.blk (x : NV) (b : Nat) : Prop := ∃ p : Addr, x.a = some p ∧ p.block = b
theorem Own.kept {w w' : World} {lo : Nat} {a : Option Addr} {n c : Nat} {o : Nat → Int} (h : Own 54 w lo a n c o) (hk : ∀ b, (∃ p : Addr, a = some p ∧ p.block = b) → w'.heap[b]? = w.heap[b]?) : Own 54 w' lo a n c o :=
  ⟨h.le, h.place.imp id fun ⟨g, cur, ha, hg, hc, hr⟩ => ⟨g, cur, ha, hg, (hk g ⟨_, ha, rfl⟩).trans hc, hr⟩, h.rng⟩
theorem DN.kept {w w' : World} {lo : Nat} {x : NV} {z : Int} (h : DN w lo x z) (hk : ∀ b, x.blk b → w'.heap[b]? = w.heap[b]?) : DN w' lo x z := ⟨h.s, h.n, h.own.kept hk⟩
theorem DN.blks {w : World} {lo : Nat} {x : NV} {z : Int} (h : DN w lo x z) : ∀ b, x.blk b → lo ≤ b ∧ b < w.heap.size := fun b ⟨p, hp, e⟩ => by
  have h1 := h.own.blk hp
  rw [← e]; exact h1.2
structure NV2 where
  p : NV
  q : NV
abbrev NV2.v (c : Int) (x : NV2) : Value := .tuple #[x.p.v, x.q.v, .int .i64 c]
def NV2.blk (x : NV2) (b : Nat) : Prop := x.p.blk b ∨ x.q.blk b
theorem NV2.inj (c : Int) (x y : NV2) (h : x.v c = y.v c) : x = y := by
  simp only [Value.tuple.injEq, Array.mk.injEq, List.cons.injEq, and_true] at h
  cases x; cases y
  have h1 := NV.inj h.1
  have h2 := NV.inj h.2
  dsimp only at h1 h2
  rw [h1, h2]
theorem Shaped.trans {a b c : World} (h : Go.FreshS.Shaped a b) (k : Go.FreshS.Shaped b c) : Go.FreshS.Shaped a c := by
  refine ⟨Nat.le_trans h.size k.size, fun i x T hx => ?_⟩
  obtain ⟨y, hy, e⟩ := h.shape i x T hx
  obtain ⟨z, hz, f⟩ := k.shape i y T hy
  exact ⟨z, hz, f.trans e⟩
theorem Own.setBxs {w : World} {lo : Nat} {a : Option Addr} {n c : Nat} {o : Nat → Int} (h : Own 54 w lo a n c o) {g : Nat} {t : TypeId} {l : List Value} (hb : Bxs w g t l) (ht : 54 ≠ t) (i : Nat) (v : Value) : Own 54 (w.setCell ⟨g, i, none⟩ v) lo a n c o := by
  refine ⟨h.le, h.place.imp id fun ⟨p, cur, ha, hg, hc, hr⟩ => ⟨p, cur, ha, hg, ?_, hr⟩, h.rng⟩
  rw [Below.heap_setCell _ _ _ _ ?_]
  · exact hc
  · intro e
    have e : p = g := e
    subst e
    have hb' : w.heap[p]? = some (.cells l.toArray t (0, 0)) := hb
    rw [hc] at hb'
    cases hb'
    exact ht rfl
def notInt : Value → Bool
  | .int _ _ => false
  | _ => true
theorem Rd.setBxs {w : World} {a : Option Addr} {n : Nat} {o : Nat → Int} (h : Rd w a n o) {g : Nat} {t : TypeId} {l : List Value} (hb : Bxs w g t l) (hl : l.all notInt = true) (i : Nat) (v : Value) : Rd (w.setCell ⟨g, i, none⟩ v) a n o := by
  refine ⟨fun hn => ?_, h.rng⟩
  obtain ⟨b, off, e, hc⟩ := h.cells hn
  refine ⟨b, off, e, fun j hj => ?_⟩
  have hbg : b ≠ g := fun e2 => by
    subst e2
    have h1 := hc j hj
    rw [cell_of_row _ _ _ _ _ _ hb] at h1
    have h2 : uc o j ∈ l := by
      have : l.toArray[off + j]? = some (uc o j) := h1
      rw [List.getElem?_toArray] at this
      exact List.mem_of_getElem? this
    have h3 := List.all_eq_true.1 hl _ h2
    simp [notInt] at h3
  rw [← hc j hj]
  simp only [World.cell?]
  rw [Below.heap_setCell _ _ _ _ (fun e2 => hbg e2)]
theorem KN.setBxs {w : World} {x : NV} {z : Int} (h : KN w x z) {g : Nat} {t : TypeId} {l : List Value} (hb : Bxs w g t l) (hl : l.all notInt = true) (i : Nat) (v : Value) : KN (w.setCell ⟨g, i, none⟩ v) x z := ⟨h.s, h.n, h.rd.setBxs hb hl i v, h.le⟩
theorem DN.setBxs {w : World} {lo : Nat} {x : NV} {z : Int} (h : DN w lo x z) {g : Nat} {t : TypeId} {l : List Value} (hb : Bxs w g t l) (ht : 54 ≠ t) (i : Nat) (v : Value) : DN (w.setCell ⟨g, i, none⟩ v) lo x z := ⟨h.s, h.n, h.own.setBxs hb ht i v⟩
theorem dg_div (N i k : Nat) (hk : k < 9) : (dg N i / 10 ^ k) % 10 = N / 10 ^ (9 * i + k) % 10 := by
  unfold dg
  rw [pw_ten, Nat.pow_add, ← Nat.div_div_eq_div_mul]
  generalize N / 10 ^ (9 * i) = M
  rw [show (1000000000 : Nat) = 10 ^ k * 10 ^ (9 - k) by rw [← Nat.pow_add, show k + (9 - k) = 9 by omega], Nat.mod_mul_right_div_self, show (10 : Nat) ^ (9 - k) = 10 * 10 ^ (8 - k) by rw [← Nat.pow_succ', show (8 - k).succ = 9 - k by omega], Nat.mod_mul_right_mod]
theorem digit_at (d n : Nat) (h : d < 10) (hn : n = d + 1) : (ByteArray.mk #[48, 49, 50, 51, 52, 53, 54, 55, 56, 57]).extract d n = ⟨[UInt8.ofNat (48 + d)].toArray⟩ := by
  subst hn
  match d, h with
  | 0, _ => decide +kernel
  | 1, _ => decide +kernel
  | 2, _ => decide +kernel
  | 3, _ => decide +kernel
  | 4, _ => decide +kernel
  | 5, _ => decide +kernel
  | 6, _ => decide +kernel
  | 7, _ => decide +kernel
  | 8, _ => decide +kernel
  | 9, _ => decide +kernel
theorem app_one (c : UInt8) (l : List UInt8) : (ByteArray.mk [c].toArray) ++ (ByteArray.mk l.toArray) = ⟨(c :: l).toArray⟩ := by
  apply ByteArray.ext
  simp
def txtN (N i : Nat) : List UInt8 := if i < lenB N then padD (9 * i) N else if N = 0 then [] else Lib.decDigits N
theorem txtN_zero (N : Nat) : txtN N 0 = [] := by
  unfold txtN
  split
  · rfl
  · rename_i h
    rw [if_pos]
    refine Classical.byContradiction fun hn => h ?_
    rw [lenB_pos hn]; omega
theorem txtN_mid {N i : Nat} (h : i + 1 < lenB N) : padD (9 * i + 9) N = txtN N (i + 1) := by
  unfold txtN; rw [if_pos h, show 9 * (i + 1) = 9 * i + 9 by omega]
theorem txtN_last {N i k : Nat} (h : i + 1 = lenB N) (hk : k ≤ 9) (hz : dg N i / 10 ^ k = 0) (hp : k = 0 ∨ dg N i / 10 ^ (k - 1) ≠ 0) : padD (9 * i + k) N = txtN N (i + 1) := by
  have hN : N ≠ 0 := fun e => by rw [e, lenB_zero] at h; omega
  unfold txtN
  rw [if_neg (by omega), if_neg hN, ← pad_self]
  congr 1
  -- dg N i is all that is above
  have hlt := lt_pw_lenB N
  rw [← h, pw_succ] at hlt
  have hd : dg N i = N / pw i := by
    unfold dg
    rw [Nat.mod_eq_of_lt]
    exact Nat.div_lt_of_lt_mul (by rw [Nat.mul_comm]; exact Nat.lt_of_lt_of_le hlt (Nat.le_of_eq (Nat.mul_comm _ _)))
  have e : ∀ j, dg N i / 10 ^ j = N / 10 ^ (9 * i + j) := fun j => by rw [hd, pw_ten, Nat.div_div_eq_div_mul, ← Nat.pow_add]
  rw [e] at hz
  have h1 : N < 10 ^ (9 * i + k) := by
    have hpos : 0 < 10 ^ (9 * i + k) := Nat.pow_pos (by omega)
    exact (Nat.div_eq_zero_iff_lt hpos).1 hz
  rcases hp with rfl | hp
  · exfalso
    have h2 := dg_last hN
    rw [← h, Nat.add_sub_cancel] at h2
    rw [← e, Nat.pow_zero, Nat.div_one] at hz
    exact h2 hz
  · rw [e] at hp
    have h2 : 10 ^ (9 * i + (k - 1)) ≤ N := Nat.le_of_not_lt fun hl => hp (Nat.div_eq_of_lt hl)
    have hk0 : k ≠ 0 := fun ek => by
      subst ek
      rw [Nat.zero_sub] at h2
      rw [Nat.add_zero] at h1 h2
      omega
    obtain ⟨j, rfl⟩ : ∃ j, k = j + 1 := ⟨k - 1, by omega⟩
    rw [Nat.add_sub_cancel] at h2
    have := Lib.nDigits_unique (9 * i + j) N h2 (by rw [Nat.add_assoc]; exact h1)
    omega
theorem nDigN_le : ∀ (k n : Nat), n < 10 ^ (k + 1) → Lib.nDigits n ≤ k + 1
  | 0, n, h => by rw [Lib.nDigits_small (by simpa using h)]; omega
  | k + 1, n, h => by
    by_cases hn : n < 10
    · rw [Lib.nDigits_small hn]; omega
    · rw [Lib.nDigits_big hn]
      have := nDigN_le k (n / 10) (by rw [Nat.pow_succ] at h; omega)
      omega
theorem itoa_lenN {z : Int} {N K : Nat} (h : lenB N ≤ K) (hz : N = z.natAbs) : Lib.nDigits z.natAbs ≤ 9 * K + 1 := by
  rw [← hz]
  refine nDigN_le (9 * K) _ ?_
  have h2 := Nat.lt_of_lt_of_le (lt_pw_lenB N) (pw_le h)
  rw [pw_ten] at h2
  exact Nat.lt_of_lt_of_le h2 (Nat.pow_le_pow_right (by omega) (by omega))
set_option maxRecDepth 100000 in
set_option maxHeartbeats 2000000 in
theorem rtextN {w : World} {x : NV} {z : Int} (h1 : AN w x z) (b1 : x.n ≤ 10000000) : Calls Tryz.prog 17 #[x.v] w fun e w' => e = .returned (.string ⟨(Lib.itoa z).toArray⟩) ∧ Below w.heap.size w w' := by
  obtain ⟨o, hr, hv⟩ := h1.ex
  obtain ⟨a', c', hr', hle, hc', FIT⟩ := fit_any x.s x.a x.n x.c o w hr (by omega) h1.le
  rw [hv] at hr' hle hc' FIT
  obtain ⟨N, hN⟩ : ∃ N, N = z.natAbs := ⟨_, rfl⟩
  rw [← hN] at hr' hle hc' FIT
  have HR := Lib.hid hr'
  have HL := Lib.hid (show lenB N ≤ 10000000 by omega)
  have HZ := Lib.hid hN
  clear h1 hr hv hr' hle hc' hN b1
  have B0 := Lib.hid (Bx.new w 24 (.bool x.s) (.slice x.a x.n x.c))
  obtain ⟨V, hV⟩ : ∃ V, V = w.alloc (.cells #[.bool x.s, .slice x.a x.n x.c] 24) := ⟨_, rfl⟩
  rw [← hV] at B0
  have hb0 : Below w.heap.size w V := by rw [hV]; exact (Below.refl _ _).alloc (Nat.le_refl _) _
  have HV := Lib.hid hV
  have FT := Lib.hid (FIT V hb0)
  have HB0 := Lib.hid hb0
  clear hV FIT hb0
  go_enter Tryz.func17, Tryz.ntmps17
  go_upto_region 1 with (fail)
  rw [show w.alloc (.cells #[.bool x.s, .slice x.a x.n x.c] 24) = V from HV.out.symm]
  clear HV
  obtain ⟨x0, x1, x2, x3⟩ := B0.out.all
  go_wp2_with fail
  refine FT.out.mono ?_
  rintro e w1 ⟨rfl, hb1⟩
  have B1 := Lib.hid (B0.out.below hb1 B0.out.lt)
  have KG := Lib.hid (HB0.out.trans (hb1.mono HB0.out.size))
  have RD := Lib.hid (HR.out.below (HB0.out.trans (hb1.mono HB0.out.size)))
  clear hb1 FT x0 x1 x2 x3 B0 HB0 HR
  obtain ⟨x0, x1, x2, x3⟩ := B1.out.all
  go_upto_region 2 with (fail)
  obtain ⟨W, hW⟩ : ∃ W, W = (w1.setCell ⟨w.heap.size, 0, none⟩ (.bool (decide (z < 0)))).setCell ⟨w.heap.size, 1, none⟩ (.slice a' (lenB N) c') := ⟨_, rfl⟩
  have B2 := Lib.hid (show Bx W w.heap.size 24 (.bool (decide (z < 0))) (.slice a' (lenB N) c') by rw [hW]; exact B1.out.set _ _)
  have KW := Lib.hid (show Below w.heap.size w W by rw [hW]; exact (KG.out.setCell (Nat.le_refl _) _).setCell (Nat.le_refl _) _)
  have RW := Lib.hid (show Rd W a' (lenB N) (dgi N) by rw [hW]; exact (RD.out.setBxs (l := [.bool x.s, .slice x.a x.n x.c]) B1.out rfl 0 _).setBxs (l := [.bool (decide (z < 0)), .slice x.a x.n x.c]) (B1.out.set0 _) rfl 1 _)
  rw [show (w1.setCell ⟨w.heap.size, 0, none⟩ (.bool (decide (z < 0)))).setCell ⟨w.heap.size, 1, none⟩ (.slice a' (lenB N) c') = W from hW.symm]
  clear hW x0 x1 x2 x3 B1 KG RD
  obtain ⟨x0, x1, x2, x3⟩ := B2.out.all
  go_upto_region 3 with (fail)
  go_wp2_with fail
  go_loop [3, 4] (fun s i => ∃ (j : Nat) (sb : ByteArray), j ≤ lenB N ∧ s = .string sb ∧ i = .int .i64 j ∧ sb = ⟨(txtN N j).toArray⟩) (fun _ i => lenB N - (intOf i).toNat)
  case atStart => exact ⟨0, _, Nat.zero_le _, rfl, rfl, by rw [txtN_zero]⟩
  case round =>
    obtain ⟨j, sb, hj, rfl, rfl, hsb⟩ := hrel
    have hl := HL.out
    by_cases hlt : j < lenB N
    · have h1 : (j : Int) < ((lenB N : Nat) : Int) := by omega
      obtain ⟨g, off, ha, hcell⟩ := RW.out.cells (by omega)
      have hc := hcell j hlt
      rw [ha] at x1
      have HC := Lib.hid hcell
      have HRG := Lib.hid (dg_lt N j)
      have HT := Lib.hid (show sb = ⟨(padD (9 * j) N).toArray⟩ by rw [hsb]; unfold txtN; rw [if_pos hlt])
      clear hsb
      have hc : W.cell? ⟨g, off + j, none⟩ = some (.int .u32 ((dg N j : Nat) : Int)) := hc
      go_wp2_with fail
      go_loop [3, 5, 6] (fun s n k => ∃ (m : Nat) (nn : Int) (sb : ByteArray), m ≤ 9 ∧ s = .string sb ∧ n = .int .u32 nn ∧ k = .int .i64 m ∧ sb = ⟨(padD (9 * j + m) N).toArray⟩ ∧ nn = (dg N j / 10 ^ m : Nat) ∧ (j + 1 < lenB N ∨ m = 0 ∨ dg N j / 10 ^ (m - 1) ≠ 0)) (fun _ _ k => 9 - (intOf k).toNat)
      case atStart => exact ⟨0, _, _, by omega, rfl, rfl, rfl, HT.out, by rw [Nat.pow_zero, Nat.div_one], .inr (.inl rfl)⟩
      case round =>
        obtain ⟨m, nn, pb, hm, rfl, rfl, rfl, hpb, hnn, hla⟩ := hrel
        have HPB := Lib.hid hpb
        have HNN := Lib.hid hnn
        have HLA := Lib.hid hla
        have hn9 : nn < 1000000000 := by have h2 := HRG.out; have h3 := Nat.div_le_self (dg N j) (10 ^ m); omega
        have hn0 : 0 ≤ nn := by rw [hnn]; exact Int.natCast_nonneg _
        have hps : pb.size = 9 * j + m := by rw [hpb]; show (padD (9 * j + m) N).toArray.size = _; rw [List.size_toArray, padD_length]
        clear hpb hnn hla
        have ej : IntKind.i64.wrap ((j : Int) + 1) = (j : Int) + 1 := IntWalk.i64_in _ (by omega)
        by_cases hgo : m < 9 ∧ (0 < nn ∨ j + 1 < lenB N)
        · obtain ⟨hm9, hgo⟩ := hgo
          have gm : (m : Int) < 9 := by omega
          obtain ⟨d, hd⟩ : ∃ d : Nat, d = dg N j / 10 ^ m % 10 := ⟨_, rfl⟩
          have hd10 : d < 10 := by omega
          have er : nn.tmod 10 = (d : Int) := by rw [HNN.out, hd]; exact Int.ofNat_tmod _ _
          obtain ⟨d1, hd1⟩ : ∃ k : Nat, k = d + 1 := ⟨_, rfl⟩
          have erw : IntKind.u32.wrap (d : Int) = (d : Int) := IntWalk.u32_in _ (by omega)
          have ea : IntKind.u32.wrap ((d : Int) + 1) = (d1 : Int) := by rw [IntWalk.u32_in _ (by omega)]; omega
          have k1 : (0 : Int) ≤ (d : Int) := by omega
          have k2 : (d : Int) ≤ (d1 : Int) := by omega
          have k3 : (d1 : Int) ≤ 10 := by omega
          have k4 : d ≤ d1 := by omega
          have k5 : d1 ≤ 10 := by omega
          obtain ⟨C, hC⟩ : ∃ C, C = ByteArray.mk [UInt8.ofNat (48 + d)].toArray := ⟨_, rfl⟩
          have hex : (ByteArray.mk #[48, 49, 50, 51, 52, 53, 54, 55, 56, 57]).extract d d1 = C := by rw [hC]; exact digit_at d d1 hd10 hd1
          have hcs : C.size = 1 := by rw [hC]; rfl
          obtain ⟨Q, hQ⟩ : ∃ Q, Q = C ++ pb := ⟨_, rfl⟩
          have happ : C ++ pb = Q := hQ.symm
          have HQ := Lib.hid (show Q = ⟨(padD (9 * j + (m + 1)) N).toArray⟩ by
            rw [hQ, hC, HPB.out, app_one, ← Nat.add_assoc, padD_front, hd, dg_div N j m hm9])
          have hlim : ¬ (9223372036854775807 < C.size + pb.size) := by omega
          obtain ⟨q, hq⟩ : ∃ q : Int, q = (dg N j / 10 ^ (m + 1) : Nat) := ⟨_, rfl⟩
          have eq1 : nn.tdiv 10 = q := by
            rw [HNN.out, hq, Nat.pow_succ, ← Nat.div_div_eq_div_mul]; exact Int.ofNat_tdiv _ _
          have eq2 : IntKind.u32.wrap q = q := IntWalk.u32_in _ (by
            have h5 := Nat.div_le_self (dg N j) (10 ^ (m + 1))
            have h6 := HRG.out
            have h7 : 0 ≤ q := by rw [hq]; exact Int.natCast_nonneg _
            generalize dg N j / 10 ^ (m + 1) = X at h5 hq
            omega)
          have HQ2 := Lib.hid hq
          have HLA2 := Lib.hid (show j + 1 < lenB N ∨ m + 1 = 0 ∨ dg N j / 10 ^ (m + 1 - 1) ≠ 0 by
            rcases hgo with h | h
            · right; right
              rw [Nat.add_sub_cancel]
              intro e
              have h2 := HNN.out
              rw [e] at h2
              omega
            · exact .inl h)
          clear hd hd1 hC hQ hq hcs hps
          by_cases hpos : 0 < nn
          · clear hgo
            go_wp2_with fail
            go_round
            case rel => exact ⟨m + 1, q, Q, by omega, rfl, rfl, by go_num, HQ.out, HQ2.out, HLA2.out⟩
            case measure => simp [intOf]; omega
          · have hgo' : (j : Int) + 1 < ((lenB N : Nat) : Int) := by omega
            clear hgo
            go_wp2_with fail
            go_round
            case rel => exact ⟨m + 1, q, Q, by omega, rfl, rfl, by go_num, HQ.out, HQ2.out, HLA2.out⟩
            case measure => simp [intOf]; omega
        · have HE := Lib.hid (show pb = ⟨(txtN N (j + 1)).toArray⟩ by
            rw [HPB.out]
            by_cases h9 : j + 1 < lenB N
            · obtain rfl : m = 9 := by omega
              rw [txtN_mid h9]
            · rw [txtN_last (by omega) hm ?_ (HLA.out.resolve_left h9)]
              by_cases hm9 : m = 9
              · subst hm9; exact Nat.div_eq_of_lt HRG.out
              · have h5 : ¬ 0 < nn := fun h => hgo ⟨by omega, .inl h⟩
                have h6 := HNN.out
                generalize dg N j / 10 ^ m = X at h6
                omega)
          by_cases hm9 : m < 9
          · have gm : (m : Int) < 9 := by omega
            have hz : ¬ (0 < nn) := fun h => hgo ⟨hm9, .inl h⟩
            have hj1 : ¬ ((j : Int) + 1 < ((lenB N : Nat) : Int)) := fun h => hgo ⟨hm9, .inr (by omega)⟩
            clear hgo
            go_wp2_with fail
            go_round
            case rel => first | exact ⟨j + 1, pb, by omega, rfl, by go_num, HE.out⟩ | exact ⟨j + 1, by omega, by go_num, HE.out⟩ | exact ⟨j + 1, by omega, HE.out, by omega⟩
            case measure => simp [intOf]; omega
          · have gm : ¬ (m : Int) < 9 := by omega
            clear hgo
            go_wp2_with fail
            go_round
            case rel => first | exact ⟨j + 1, pb, by omega, rfl, by go_num, HE.out⟩ | exact ⟨j + 1, by omega, by go_num, HE.out⟩ | exact ⟨j + 1, by omega, HE.out, by omega⟩
            case measure => simp [intOf]; omega
    · have h1 : ¬ (j : Int) < ((lenB N : Nat) : Int) := by omega
      obtain rfl : j = lenB N := by omega
      have HE := Lib.hid (show sb = ⟨(if N = 0 then [] else Lib.decDigits N).toArray⟩ by rw [hsb]; unfold txtN; rw [if_neg (by omega)])
      clear hsb
      by_cases hN : N = 0
      · have hs : sb = ⟨[].toArray⟩ := by rw [HE.out, if_pos hN]
        subst hs
        have HF := Lib.hid (show Lib.itoa z = [48] by
          have : z = ((0 : Nat) : Int) := by have := HZ.out; omega
          rw [this, Lib.itoa_nonneg, Lib.decDigits_one (by omega)]; rfl)
        clear hN HE
        go_wp2_with fail
        go_ret
        exact ⟨by rw [HF.out]; rfl, KW.out⟩
      · obtain ⟨D, hD⟩ : ∃ D, D = Lib.decDigits N := ⟨_, rfl⟩
        have hs : sb = ⟨D.toArray⟩ := by rw [HE.out, if_neg hN, hD]
        have hne : D.isEmpty = false := by
          have := Lib.nDigits_pos N
          rw [← Lib.decDigits_length, ← hD] at this
          cases D with
          | nil => simp at this
          | cons c r => rfl
        have hlim : ¬ (9223372036854775807 < 1 + D.length) := by
          have h5 := itoa_lenN (z := z) HL.out (by rw [HZ.out])
          rw [hD, Lib.decDigits_length]
          rw [← HZ.out] at h5
          omega
        subst hs
        by_cases hz : z < 0
        · have hzb : decide (z < 0) = true := decide_eq_true hz
          have HF := Lib.hid (show (⟨(Lib.itoa z).toArray⟩ : ByteArray) = (⟨#[45]⟩ : ByteArray) ++ ⟨D.toArray⟩ by
            rw [show z = -((N : Nat) : Int) by have := HZ.out; omega, Lib.itoa_neg _ (by omega), ← hD]
            exact (app_one 45 D).symm)
          rw [hzb] at x0
          clear hN HE hD hz hzb
          go_wp2_with fail
          go_ret
          exact ⟨by rw [HF.out]; rfl, KW.out⟩
        · have hzb : decide (z < 0) = false := decide_eq_false hz
          have HF := Lib.hid (show Lib.itoa z = D by rw [show z = ((N : Nat) : Int) by have := HZ.out; omega, Lib.itoa_nonneg, hD])
          rw [hzb] at x0
          clear hN HE hD hz hzb
          go_wp2_with fail
          go_ret
          exact ⟨by rw [HF.out]; rfl, KW.out⟩
theorem bodyT_len (l : List UInt8) : (bodyT l).length ≤ l.length := by
  unfold bodyT Lib.trimPrefix
  split
  · simp
  · exact Nat.le_refl _
theorem parse_any (s : ByteArray) (w : World) (hs : s.size ≤ 9223372036854775807) : Calls Tryz.prog 11 #[.string s] w (ParseP w (codeT s.data.toList) (numT s.data.toList)) := by
  obtain ⟨l, hl⟩ : ∃ l, l = bodyT s.data.toList := ⟨_, rfl⟩
  obtain ⟨ng, hg⟩ : ∃ ng, ng = negT s.data.toList := ⟨_, rfl⟩
  have hsz : (ByteArray.mk l.toArray).size ≤ 9223372036854775807 := by
    show l.toArray.size ≤ _
    rw [List.size_toArray, hl]
    have h1 := bodyT_len s.data.toList
    rw [Array.length_toList] at h1
    exact Nat.le_trans h1 hs
  have bad : ¬ formT s.data.toList → codeT s.data.toList = 4 ∧ numT s.data.toList = 0 := fun h => by
    unfold codeT numT
    rw [if_neg h, if_neg (fun h2 => h h2.1)]
    exact ⟨rfl, rfl⟩
  by_cases h0 : l = []
  · obtain ⟨e1, e2⟩ := bad fun h => h.1 (by rw [← hl]; exact h0)
    rw [e1, e2]
    exact (parse_empty s l ng w hl hg hsz h0).mono fun _ _ h => parseP_err h
  by_cases h1 : ∀ c ∈ l, isDig c = true
  · by_cases h2 : l.head? = some 48 ∧ (ng = true ∨ l ≠ [48])
    · obtain ⟨e1, e2⟩ := bad fun h => h.2.2 (by rw [← hl, ← hg]; exact h2)
      rw [e1, e2]
      obtain ⟨r, hr⟩ : ∃ r, l = 48 :: r := by
        cases l with
        | nil => exact absurd rfl h0
        | cons c r => exact ⟨r, by have := h2.1; simp at this; rw [this]⟩
      exact (parse_nought s l r ng w hl hg hsz hr h1 (h2.2.imp id fun h e => h (by rw [hr, e]))).mono fun _ _ h => parseP_err h
    · have hf : formT s.data.toList := ⟨by rw [← hl]; exact h0, by rw [← hl]; exact h1, by rw [← hl, ← hg]; exact h2⟩
      by_cases h3 : 200 < l.length
      · have e1 : codeT s.data.toList = 3 := by unfold codeT; rw [if_pos hf, if_pos (by rw [← hl]; exact h3)]
        have e2 : numT s.data.toList = 0 := by unfold numT; rw [if_neg (fun h => by have := h.2; rw [← hl] at this; omega)]
        rw [e1, e2]
        refine (parse_long s l ng w hl hg hsz h1 h3 fun e => ?_).mono fun _ _ h => parseP_err h
        exact h2 ⟨e, Or.inr fun e2 => by rw [e2] at h3; simp at h3⟩
      · have e1 : codeT s.data.toList = 0 := by unfold codeT; rw [if_pos hf, if_neg (by rw [← hl]; exact h3)]
        rw [e1]
        refine parse_ok s l ng w _ hl hg hsz h1 h0 (by omega) ?_ (by unfold numT; rw [if_pos ⟨hf, by rw [← hl]; omega⟩, ← hl, ← hg])
        by_cases e : l.head? = some 48
        · right
          by_cases e3 : ng = true ∨ l ≠ [48]
          · exact absurd ⟨e, e3⟩ h2
          · refine ⟨Classical.byContradiction fun h => e3 (Or.inr h), ?_⟩
            cases hn : ng with
            | false => rfl
            | true => exact absurd (Or.inl hn) e3
        · exact Or.inl e
  · obtain ⟨e1, e2⟩ := bad fun h => h1 (by rw [hl]; exact h.2.1)
    rw [e1, e2]
    exact (parse_odd s l ng w hl hg hsz h0 h1).mono fun _ _ h => parseP_err h
def RNE (w : World) (z c : Int) (e : Ending) (w' : World) : Prop := ∃ x : NV, e = .returned (.tuple #[x.v, .int .i64 c]) ∧ DN w' w.heap.size x z ∧ Below w.heap.size w w'
theorem parseN (s : ByteArray) (w : World) (hs : s.size ≤ 9223372036854775807) : Calls Tryz.prog 11 #[.string s] w (RNE w (numT s.data.toList) (codeT s.data.toList)) := by
  refine (parse_any s w hs).mono ?_
  rintro e w' ⟨a, rfl, ho, hb⟩
  exact ⟨⟨_, a, _, _⟩, rfl, ⟨rfl, rfl, ho⟩, hb⟩
theorem numT_len (l : List UInt8) : lenB (numT l).natAbs ≤ 23 := by
  unfold numT
  split
  · rename_i h
    have h1 := decV_lt (bodyT l) h.1.2.1
    have h2 : 10 ^ (bodyT l).length ≤ 10 ^ 200 := Nat.pow_le_pow_right (by omega) h.2
    have h3 : decV (bodyT l) < pw 23 := by
      rw [pw_ten]
      exact Nat.lt_of_lt_of_le h1 (Nat.le_trans h2 (Nat.pow_le_pow_right (by omega) (by omega)))
    refine lenB_le ?_
    split
    · rw [Int.natAbs_neg, Int.natAbs_natCast]; exact h3
    · rw [Int.natAbs_natCast]; exact h3
  · rw [show (0 : Int).natAbs = 0 from rfl, lenB_zero]; omega
set_option maxHeartbeats 1000000 in
theorem beyond_any (g n : Nat) (w : World) (hc : w.cell? ⟨g, 0, none⟩ = some (.int .i64 n)) (hn : n ≤ 9223372036854775807) :
    Calls Tryz.prog 7 #[.slice (some ⟨g, 0, none⟩) 1 1] w fun e w' => e = .returned (.bool (decide (1048576 < n))) ∧ w' = w := by
  have HC := Lib.hid hc
  have u1 : IntKind.i64.wrap (n : Int) = n := IntWalk.i64_in _ (by omega)
  have u2 : IntKind.i64.wrap ((0 : Int) + n) = n := by rw [Int.zero_add]; exact u1
  have Y := Lib.hid (fun (h : 1048576 < n) => (decide_eq_true h : decide (1048576 < n) = true))
  have Z := Lib.hid (fun (h : ¬ 1048576 < n) => (decide_eq_false h : decide (1048576 < n) = false))
  clear hc
  go_enter Tryz.func7, Tryz.ntmps7
  go_wp2_with fail
  go_loopw [3, 4] (fun a i wr => ((i = .int .i64 0 ∧ a = .int .i64 0) ∨ (i = .int .i64 1 ∧ a = .int .i64 n ∧ ¬ 1048576 < n)) ∧ wr = w) (fun _ i _ => 1 - (intOf i).toNat)
  case atStart => exact ⟨.inl ⟨rfl, rfl⟩, rfl⟩
  case round =>
    obtain ⟨h, rfl⟩ := hrel
    rcases h with ⟨rfl, rfl⟩ | ⟨rfl, rfl, hle⟩
    · have c1 := HC.out
      by_cases hg : 1048576 < n
      · have x1 : (n : Int) > 1048576 := by omega
        have E := Lib.hid (Y.out hg)
        clear hg
        go_wp2_with fail
        go_ret
        exact ⟨by rw [E.out]; rfl, rfl⟩
      · have x1 : ¬ (n : Int) > 1048576 := by omega
        have HG := Lib.hid hg
        clear hg
        go_wp2_with fail
        go_roundw
        case rel => exact ⟨.inr ⟨rfl, by simp [*], HG.out⟩, trivial⟩
        case measure => simp [intOf]
    · have E := Lib.hid (Z.out hle)
      clear hle
      go_wp2_with fail
      go_ret
      exact ⟨by rw [E.out]; rfl, rfl⟩
theorem beyond1 {b n : Nat} {w : World} (h : Bxs w b 3 [.int .i64 n]) (hn : n ≤ 9223372036854775807) :
    Calls Tryz.prog 7 #[.slice (some ⟨b, 0, none⟩) 1 1] w fun e w' => e = .returned (.bool (decide (1048576 < n))) ∧ Below w.heap.size w w' :=
  (beyond_any b n w (h.cell (i := 0) rfl) hn).mono fun e w' ⟨h1, h2⟩ => ⟨h1, by rw [h2]; exact Below.refl _ _⟩
theorem parse_k (w : World) {s : ByteArray} {z c : Int} (hs : s.size ≤ 9223372036854775807) (hz : numT s.data.toList = z) (hc : codeT s.data.toList = c) : Calls Tryz.prog 11 #[.string s] w (RNE w z c) := by
  subst hz; subst hc
  exact parseN s w hs
open Classical in
theorem rcheckN {w : World} {x : NV} {p : Int} (h1 : KN w x p) (b1 : x.n ≤ 10000000) : Calls Tryz.prog 15 #[x.v] w fun e w' => e = .returned (.bool true) ∧ Below w.heap.size w w' := by
  have h := rcheck_any x.s x.a x.n x.c (dgi p.natAbs) w h1.rd (by omega)
  rw [decide_eq_true (show okN x.s x.n (dgi p.natAbs) by rw [h1.s, h1.n]; exact canon_ok p)] at h
  exact h
open Classical in
theorem rcheckBN {w : World} {x : NV} (h1 : XN w x) (b1 : x.n ≤ 10000000) : Calls Tryz.prog 15 #[x.v] w fun e w' => e = .returned (.bool false) ∧ Below w.heap.size w w' := by
  obtain ⟨o, hr, hk⟩ := h1.ex
  have h := rcheck_any x.s x.a x.n x.c o w hr (by omega)
  rw [decide_eq_false hk] at h
  exact h
theorem rofN (n : Int) (w : World) (h1 : -9223372036854775808 ≤ n) (h2 : n ≤ 9223372036854775807) : Calls Tryz.prog 19 #[.int .i64 n] w (RN w n) := by
  refine (rof64_any n w h1 h2).mono ?_
  rintro e w' ⟨a, c, rfl, ho, hb⟩
  exact ⟨⟨_, a, _, c⟩, rfl, ⟨rfl, rfl, ho⟩, hb⟩
theorem rcmpN {w : World} {x y : NV} {p q : Int} (h1 : AN w x p) (b1 : x.n ≤ 10000000) (h2 : AN w y q) (b2 : y.n ≤ 10000000) : Calls Tryz.prog 32 #[x.v, y.v] w fun e w' => e = .returned (.int .i64 (cmpZ p q)) ∧ Below w.heap.size w w' := by
  obtain ⟨o1, r1, rfl⟩ := h1.ex
  obtain ⟨o2, r2, rfl⟩ := h2.ex
  exact rcmp_any x.s x.a x.n x.c o1 y.s y.a y.n y.c o2 w r1 (by omega) h1.le r2 (by omega) h2.le
theorem rof_min : ∃ mn : Int, mn = -9223372036854775808 ∧ ∀ w, Calls Tryz.prog 19 #[.int .i64 (-9223372036854775808)] w (RN w mn) := ⟨_, rfl, fun w => rofN _ w (by omega) (by omega)⟩
theorem rof_max : ∃ mx : Int, mx = 9223372036854775807 ∧ ∀ w, Calls Tryz.prog 19 #[.int .i64 9223372036854775807] w (RN w mx) := ⟨_, rfl, fun w => rofN _ w (by omega) (by omega)⟩
set_option maxRecDepth 100000 in
set_option maxHeartbeats 16000000 in
theorem rback_bad (x1 : NV) (p1 : Int) (w : World) (h1 : XN w x1) (b1 : x1.n ≤ 10000000) : Calls Tryz.prog 10 #[x1.v] w fun e w' => e = .returned (.tuple #[.int .i64 0, .int .i64 1]) ∧ Below w.heap.size w w' := by
  have KG := Lib.hid (Below.refl w.heap.size w)
  have N1 := Lib.hid h1
  have Bx1 := Lib.hid b1
  clear h1 b1
  go_enter Tryz.func10, Tryz.ntmps10
  go_upto_region 1 with (fail)
  obtain ⟨v2, hV⟩ : ∃ V, V = w.alloc (.cells #[.bool x1.s, .slice x1.a x1.n x1.c] 24) := ⟨_, rfl⟩
  have hbV : Below w.heap.size w v2 := by rw [hV]; exact ((Below.refl _ _).alloc (Nat.le_refl _) _)
  have BX1 := Lib.hid (show Bxs v2 (w.heap.size) 24 [.bool x1.s, .slice x1.a x1.n x1.c] by have h := Bxs.new (w) 24 [.bool x1.s, .slice x1.a x1.n x1.c]; rw [hV]; exact h)
  rw [show w.alloc (.cells #[.bool x1.s, .slice x1.a x1.n x1.c] 24) = v2 from hV.symm]
  have KG := Lib.hid (KG.out.trans (hbV.mono KG.out.size))
  clear hV hbV
  have cBX10 := BX1.out.cell (i := 0) rfl
  have cBX11 := BX1.out.cell (i := 1) rfl
  have cBX1f := BX1.out.fz
  have cBX1l := BX1.out.lt
  go_wp2_with fail
  have CT := Lib.hid (rcheckBN (N1.out.below KG.out) (show x1.n ≤ 10000000 from Nat.le_trans Bx1.out (by decide)))
  with_reducible refine CT.out.mono ?_
  rintro e w3 ⟨rfl, hb⟩
  clear CT
  clear cBX10 cBX11 cBX1f cBX1l
  clear BX1
  have KG := Lib.hid (KG.out.trans (hb.mono KG.out.size))
  clear hb
  go_wp2_with fail
  go_ret2
  exact ⟨rfl, KG.out⟩
set_option maxRecDepth 100000 in
set_option maxHeartbeats 16000000 in
theorem rback_lo (x1 : NV) (p1 : Int) (w : World) (h1 : KN w x1 p1) (b1 : x1.n ≤ 10000000) (hz : p1 < -9223372036854775808) : Calls Tryz.prog 10 #[x1.v] w fun e w' => e = .returned (.tuple #[.int .i64 0, .int .i64 3]) ∧ Below w.heap.size w w' := by
  have KG := Lib.hid (Below.refl w.heap.size w)
  have N1 := Lib.hid h1
  have LZp1 := Lib.hid (show lenB p1.natAbs ≤ 10000000 by have := h1.n; omega)
  obtain ⟨mn, hmn, OFmn⟩ := rof_min
  obtain ⟨mx, hmx, OFmx⟩ := rof_max
  have LZmn := Lib.hid (show lenB mn.natAbs ≤ 3 from len3 (by omega))
  have LZmx := Lib.hid (show lenB mx.natAbs ≤ 3 from len3 (by omega))
  have HOFmn := Lib.hid OFmn
  have HOFmx := Lib.hid OFmx
  have HLO := Lib.hid (show p1 < mn by omega)
  clear hz
  clear h1 b1 OFmn OFmx hmn hmx
  go_enter Tryz.func10, Tryz.ntmps10
  go_upto_region 1 with (fail)
  obtain ⟨v2, hV⟩ : ∃ V, V = w.alloc (.cells #[.bool x1.s, .slice x1.a x1.n x1.c] 24) := ⟨_, rfl⟩
  have hbV : Below w.heap.size w v2 := by rw [hV]; exact ((Below.refl _ _).alloc (Nat.le_refl _) _)
  have BX1 := Lib.hid (show Bxs v2 (w.heap.size) 24 [.bool x1.s, .slice x1.a x1.n x1.c] by have h := Bxs.new (w) 24 [.bool x1.s, .slice x1.a x1.n x1.c]; rw [hV]; exact h)
  rw [show w.alloc (.cells #[.bool x1.s, .slice x1.a x1.n x1.c] 24) = v2 from hV.symm]
  have KG := Lib.hid (KG.out.trans (hbV.mono KG.out.size))
  clear hV hbV
  have cBX10 := BX1.out.cell (i := 0) rfl
  have cBX11 := BX1.out.cell (i := 1) rfl
  have cBX1f := BX1.out.fz
  have cBX1l := BX1.out.lt
  go_wp2_with fail
  have CT := Lib.hid (rcheckN (N1.out.below KG.out) ((N1.out.below KG.out).len LZp1.out (by decide)))
  with_reducible refine CT.out.mono ?_
  rintro e w3 ⟨rfl, hb⟩
  clear CT
  clear cBX10 cBX11 cBX1f cBX1l
  have BX1 := Lib.hid (BX1.out.below hb BX1.out.lt)
  have KG := Lib.hid (KG.out.trans (hb.mono KG.out.size))
  clear hb
  go_upto_region 3 with (fail)
  refine Go.FreshS.wp_region_fresh 9 [] (Go.FreshS.spOf [(1, Go.FreshS.Sp.made (fun x : NV => x.v) (fun x w' => DN w' w3.heap.size x mn) NV.blk), (2, Go.FreshS.Sp.know (.int .i64 (-1)))])
    (fun w' => Below w3.heap.size w3 w') (by kernel_rfl) (by kernel_rfl) (by kernel_rfl)
    (Go.FreshS.spOf_cons (Go.FreshS.Sp.made_keeps _ (fun _ _ _ h _ hk => h.kept hk) (Go.FreshS.notTaken (by kernel_rfl))) (Go.FreshS.spOf_cons (Go.FreshS.Sp.know_keeps _ _) (Go.FreshS.spOf_nil))) (fun _ _ h hb => h.trans (hb.mono h.size)) ((Below.refl _ _).drew) ?_
  simp only [List.append_eq, List.cons_append, List.nil_append, List.take_succ_cons, List.take_zero, List.drop_succ_cons, List.drop_zero]
  refine Go.FreshS.wpF_reads rfl rfl rfl ?_ (fun w' hw' => ?_) ?_
  rotate_left
  · have hb' := hw'.world
    have hs0 := (BX1.out.below hb' BX1.out.lt).cell (i := 0) rfl
    have hs1 := (BX1.out.below hb' BX1.out.lt).cell (i := 1) rfl
    have hsf := (BX1.out.below hb' BX1.out.lt).fz
    have hsl := (BX1.out.below hb' BX1.out.lt).lt
    clear hw'
    go_simp
    try rfl
  conv => arg 10; simp only [Act.put, List.setIfInBounds_toArray, List.set_cons_succ, List.set_cons_zero]
  refine Go.FreshS.wpF_spec rfl rfl rfl (fun w' hw' => ?_) ?_
  · have hb' := hw'.world
    refine Go.FreshS.gives_of (Go.FreshS.PM (fun x : NV => x.v) (fun x w' => DN w' w3.heap.size x mn) NV.blk w'.heap.size) ?_ (fun _ _ h => h.post @NV.inj)
    go_simp
    have CT := HOFmn.out w'
    refine CT.mono ?_
    rintro e w'' ⟨za, rfl, ho, hb⟩
    exact ⟨_, rfl, ⟨za, rfl, ho.mono hb'.size, ho.blks⟩, hb⟩
  rintro _ ⟨y1, rfl⟩
  conv => arg 10; simp only [Act.put, List.setIfInBounds_toArray, List.set_cons_succ, List.set_cons_zero]
  refine Go.FreshS.wpF_spec rfl rfl rfl (fun w' hw' => ?_) ?_
  · have hb' := hw'.world
    refine Go.FreshS.gives_of (Go.FreshS.PK (.int .i64 (-1))) ?_ (fun _ _ h => h.post)
    go_simp
    have f1 := Go.FreshS.made_of (val := fun x : NV => x.v) (Φ := fun x w' => DN w' w3.heap.size x mn) @NV.inj (hw'.fact 1 (by kernel_rfl))
    have CT := rcmpN (N1.out.below (KG.out.trans (hb'.mono KG.out.size))).any ((N1.out.below (KG.out.trans (hb'.mono KG.out.size))).len LZp1.out (by decide)) f1.k.any (f1.k.len LZmn.out (by decide))
    rw [show cmpZ p1 mn = (-1) from cmpZ_lt HLO.out] at CT
    refine CT.mono ?_
    rintro e w'' ⟨rfl, hb⟩
    exact ⟨_, rfl, rfl, hb⟩
  rintro _ rfl
  conv => arg 10; simp only [Act.put, List.setIfInBounds_toArray, List.set_cons_succ, List.set_cons_zero]
  refine Go.FreshS.wpF_reads rfl rfl rfl ?_ (fun w' hw' => ?_) ?_
  rotate_left
  · have hb' := hw'.world
    skip
    clear hw'
    go_simp
    try rfl
  conv => arg 10; simp only [Act.put, List.setIfInBounds_toArray, List.set_cons_succ, List.set_cons_zero]
  refine Go.FreshS.wpF_reads rfl rfl rfl ?_ (fun w' hw' => ?_) ?_
  rotate_left
  · have hb' := hw'.world
    skip
    clear hw'
    go_simp
    try rfl
  conv => arg 10; simp only [Act.put, List.setIfInBounds_toArray, List.set_cons_succ, List.set_cons_zero]
  refine Go.FreshS.wpF_skip (by rfl) rfl ?_
  conv => arg 10; simp only [Act.put, List.setIfInBounds_toArray, List.set_cons_succ, List.set_cons_zero]
  refine Go.FreshS.wpF_skip (by rfl) rfl ?_
  conv => arg 10; simp only [Act.put, List.setIfInBounds_toArray, List.set_cons_succ, List.set_cons_zero]
  refine Go.FreshS.wpF_skip (by rfl) rfl ?_
  conv => arg 10; simp only [Act.put, List.setIfInBounds_toArray, List.set_cons_succ, List.set_cons_zero]
  refine Go.FreshS.wpF_skip (by rfl) rfl ?_
  conv => arg 10; simp only [Act.put, List.setIfInBounds_toArray, List.set_cons_succ, List.set_cons_zero]
  refine Go.FreshS.wpF_nil (fun w4 hb hF => ?_)
  clear hF
  clear BX1
  have KG := Lib.hid (KG.out.trans (hb.mono KG.out.size))
  clear hb
  go_wp2_with fail
  go_ret2
  exact ⟨rfl, KG.out⟩
set_option maxRecDepth 100000 in
set_option maxHeartbeats 16000000 in
theorem rback_hi (x1 : NV) (p1 : Int) (w : World) (h1 : KN w x1 p1) (b1 : x1.n ≤ 10000000) (hz : 9223372036854775807 < p1) : Calls Tryz.prog 10 #[x1.v] w fun e w' => e = .returned (.tuple #[.int .i64 0, .int .i64 3]) ∧ Below w.heap.size w w' := by
  have KG := Lib.hid (Below.refl w.heap.size w)
  have N1 := Lib.hid h1
  have LZp1 := Lib.hid (show lenB p1.natAbs ≤ 10000000 by have := h1.n; omega)
  obtain ⟨mn, hmn, OFmn⟩ := rof_min
  obtain ⟨mx, hmx, OFmx⟩ := rof_max
  have LZmn := Lib.hid (show lenB mn.natAbs ≤ 3 from len3 (by omega))
  have LZmx := Lib.hid (show lenB mx.natAbs ≤ 3 from len3 (by omega))
  have HOFmn := Lib.hid OFmn
  have HOFmx := Lib.hid OFmx
  have HLO := Lib.hid (show mn < p1 by omega)
  have HHI := Lib.hid (show mx < p1 by omega)
  clear hz
  clear h1 b1 OFmn OFmx hmn hmx
  go_enter Tryz.func10, Tryz.ntmps10
  go_upto_region 1 with (fail)
  obtain ⟨v2, hV⟩ : ∃ V, V = w.alloc (.cells #[.bool x1.s, .slice x1.a x1.n x1.c] 24) := ⟨_, rfl⟩
  have hbV : Below w.heap.size w v2 := by rw [hV]; exact ((Below.refl _ _).alloc (Nat.le_refl _) _)
  have BX1 := Lib.hid (show Bxs v2 (w.heap.size) 24 [.bool x1.s, .slice x1.a x1.n x1.c] by have h := Bxs.new (w) 24 [.bool x1.s, .slice x1.a x1.n x1.c]; rw [hV]; exact h)
  rw [show w.alloc (.cells #[.bool x1.s, .slice x1.a x1.n x1.c] 24) = v2 from hV.symm]
  have KG := Lib.hid (KG.out.trans (hbV.mono KG.out.size))
  clear hV hbV
  have cBX10 := BX1.out.cell (i := 0) rfl
  have cBX11 := BX1.out.cell (i := 1) rfl
  have cBX1f := BX1.out.fz
  have cBX1l := BX1.out.lt
  go_wp2_with fail
  have CT := Lib.hid (rcheckN (N1.out.below KG.out) ((N1.out.below KG.out).len LZp1.out (by decide)))
  with_reducible refine CT.out.mono ?_
  rintro e w3 ⟨rfl, hb⟩
  clear CT
  clear cBX10 cBX11 cBX1f cBX1l
  have BX1 := Lib.hid (BX1.out.below hb BX1.out.lt)
  have KG := Lib.hid (KG.out.trans (hb.mono KG.out.size))
  clear hb
  go_upto_region 3 with (fail)
  refine Go.FreshS.wp_region_fresh 9 [] (Go.FreshS.spOf [(1, Go.FreshS.Sp.made (fun x : NV => x.v) (fun x w' => DN w' w3.heap.size x mn) NV.blk), (2, Go.FreshS.Sp.know (.int .i64 1)), (6, Go.FreshS.Sp.made (fun x : NV => x.v) (fun x w' => DN w' w3.heap.size x mx) NV.blk), (7, Go.FreshS.Sp.know (.int .i64 1))])
    (fun w' => Below w3.heap.size w3 w') (by kernel_rfl) (by kernel_rfl) (by kernel_rfl)
    (Go.FreshS.spOf_cons (Go.FreshS.Sp.made_keeps _ (fun _ _ _ h _ hk => h.kept hk) (Go.FreshS.notTaken (by kernel_rfl))) (Go.FreshS.spOf_cons (Go.FreshS.Sp.know_keeps _ _) (Go.FreshS.spOf_cons (Go.FreshS.Sp.made_keeps _ (fun _ _ _ h _ hk => h.kept hk) (Go.FreshS.notTaken (by kernel_rfl))) (Go.FreshS.spOf_cons (Go.FreshS.Sp.know_keeps _ _) (Go.FreshS.spOf_nil))))) (fun _ _ h hb => h.trans (hb.mono h.size)) ((Below.refl _ _).drew) ?_
  simp only [List.append_eq, List.cons_append, List.nil_append, List.take_succ_cons, List.take_zero, List.drop_succ_cons, List.drop_zero]
  refine Go.FreshS.wpF_reads rfl rfl rfl ?_ (fun w' hw' => ?_) ?_
  rotate_left
  · have hb' := hw'.world
    have hs0 := (BX1.out.below hb' BX1.out.lt).cell (i := 0) rfl
    have hs1 := (BX1.out.below hb' BX1.out.lt).cell (i := 1) rfl
    have hsf := (BX1.out.below hb' BX1.out.lt).fz
    have hsl := (BX1.out.below hb' BX1.out.lt).lt
    clear hw'
    go_simp
    try rfl
  conv => arg 10; simp only [Act.put, List.setIfInBounds_toArray, List.set_cons_succ, List.set_cons_zero]
  refine Go.FreshS.wpF_spec rfl rfl rfl (fun w' hw' => ?_) ?_
  · have hb' := hw'.world
    refine Go.FreshS.gives_of (Go.FreshS.PM (fun x : NV => x.v) (fun x w' => DN w' w3.heap.size x mn) NV.blk w'.heap.size) ?_ (fun _ _ h => h.post @NV.inj)
    go_simp
    have CT := HOFmn.out w'
    refine CT.mono ?_
    rintro e w'' ⟨za, rfl, ho, hb⟩
    exact ⟨_, rfl, ⟨za, rfl, ho.mono hb'.size, ho.blks⟩, hb⟩
  rintro _ ⟨y1, rfl⟩
  conv => arg 10; simp only [Act.put, List.setIfInBounds_toArray, List.set_cons_succ, List.set_cons_zero]
  refine Go.FreshS.wpF_spec rfl rfl rfl (fun w' hw' => ?_) ?_
  · have hb' := hw'.world
    refine Go.FreshS.gives_of (Go.FreshS.PK (.int .i64 1)) ?_ (fun _ _ h => h.post)
    go_simp
    have f1 := Go.FreshS.made_of (val := fun x : NV => x.v) (Φ := fun x w' => DN w' w3.heap.size x mn) @NV.inj (hw'.fact 1 (by kernel_rfl))
    have CT := rcmpN (N1.out.below (KG.out.trans (hb'.mono KG.out.size))).any ((N1.out.below (KG.out.trans (hb'.mono KG.out.size))).len LZp1.out (by decide)) f1.k.any (f1.k.len LZmn.out (by decide))
    rw [show cmpZ p1 mn = 1 from cmpZ_gt HLO.out] at CT
    refine CT.mono ?_
    rintro e w'' ⟨rfl, hb⟩
    exact ⟨_, rfl, rfl, hb⟩
  rintro _ rfl
  conv => arg 10; simp only [Act.put, List.setIfInBounds_toArray, List.set_cons_succ, List.set_cons_zero]
  refine Go.FreshS.wpF_reads rfl rfl rfl ?_ (fun w' hw' => ?_) ?_
  rotate_left
  · have hb' := hw'.world
    skip
    clear hw'
    go_simp
    try rfl
  conv => arg 10; simp only [Act.put, List.setIfInBounds_toArray, List.set_cons_succ, List.set_cons_zero]
  refine Go.FreshS.wpF_reads rfl rfl rfl ?_ (fun w' hw' => ?_) ?_
  rotate_left
  · have hb' := hw'.world
    skip
    clear hw'
    go_simp
    try rfl
  conv => arg 10; simp only [Act.put, List.setIfInBounds_toArray, List.set_cons_succ, List.set_cons_zero]
  refine Go.FreshS.wpF_readsG (by rfl) rfl rfl ?_ (fun w' hw' => ?_) ?_
  rotate_left
  · have hb' := hw'.world
    have hs0 := (BX1.out.below hb' BX1.out.lt).cell (i := 0) rfl
    have hs1 := (BX1.out.below hb' BX1.out.lt).cell (i := 1) rfl
    have hsf := (BX1.out.below hb' BX1.out.lt).fz
    have hsl := (BX1.out.below hb' BX1.out.lt).lt
    clear hw'
    go_simp
    try rfl
  conv => arg 10; simp only [Act.put, List.setIfInBounds_toArray, List.set_cons_succ, List.set_cons_zero]
  refine Go.FreshS.wpF_gspec (by rfl) rfl rfl (fun w' hw' => ?_) ?_
  · have hb' := hw'.world
    refine Go.FreshS.gives_of (Go.FreshS.PM (fun x : NV => x.v) (fun x w' => DN w' w3.heap.size x mx) NV.blk w'.heap.size) ?_ (fun _ _ h => h.post @NV.inj)
    go_simp
    have CT := HOFmx.out w'
    refine CT.mono ?_
    rintro e w'' ⟨za, rfl, ho, hb⟩
    exact ⟨_, rfl, ⟨za, rfl, ho.mono hb'.size, ho.blks⟩, hb⟩
  rintro _ ⟨y6, rfl⟩
  conv => arg 10; simp only [Act.put, List.setIfInBounds_toArray, List.set_cons_succ, List.set_cons_zero]
  refine Go.FreshS.wpF_gspec (by rfl) rfl rfl (fun w' hw' => ?_) ?_
  · have hb' := hw'.world
    refine Go.FreshS.gives_of (Go.FreshS.PK (.int .i64 1)) ?_ (fun _ _ h => h.post)
    go_simp
    have f6 := Go.FreshS.made_of (val := fun x : NV => x.v) (Φ := fun x w' => DN w' w3.heap.size x mx) @NV.inj (hw'.fact 6 (by kernel_rfl))
    have CT := rcmpN (N1.out.below (KG.out.trans (hb'.mono KG.out.size))).any ((N1.out.below (KG.out.trans (hb'.mono KG.out.size))).len LZp1.out (by decide)) f6.k.any (f6.k.len LZmx.out (by decide))
    rw [show cmpZ p1 mx = 1 from cmpZ_gt HHI.out] at CT
    refine CT.mono ?_
    rintro e w'' ⟨rfl, hb⟩
    exact ⟨_, rfl, rfl, hb⟩
  rintro _ rfl
  conv => arg 10; simp only [Act.put, List.setIfInBounds_toArray, List.set_cons_succ, List.set_cons_zero]
  refine Go.FreshS.wpF_readsG (by rfl) rfl rfl ?_ (fun w' hw' => ?_) ?_
  rotate_left
  · have hb' := hw'.world
    skip
    clear hw'
    go_simp
    try rfl
  conv => arg 10; simp only [Act.put, List.setIfInBounds_toArray, List.set_cons_succ, List.set_cons_zero]
  refine Go.FreshS.wpF_nil (fun w4 hb hF => ?_)
  clear hF
  clear BX1
  have KG := Lib.hid (KG.out.trans (hb.mono KG.out.size))
  clear hb
  go_wp2_with fail
  go_ret2
  exact ⟨rfl, KG.out⟩
set_option maxRecDepth 100000 in
set_option maxHeartbeats 16000000 in
theorem rback_ok (x1 : NV) (p1 : Int) (w : World) (h1 : KN w x1 p1) (b1 : x1.n ≤ 10000000) (hz1 : -9223372036854775808 ≤ p1) (hz2 : p1 ≤ 9223372036854775807) : Calls Tryz.prog 10 #[x1.v] w fun e w' => e = .returned (.tuple #[.int .i64 p1, .int .i64 0]) ∧ Below w.heap.size w w' := by
  have KG := Lib.hid (Below.refl w.heap.size w)
  have N1 := Lib.hid h1
  have LZp1 := Lib.hid (show lenB p1.natAbs ≤ 10000000 by have := h1.n; omega)
  obtain ⟨mn, hmn, OFmn⟩ := rof_min
  obtain ⟨mx, hmx, OFmx⟩ := rof_max
  have LZmn := Lib.hid (show lenB mn.natAbs ≤ 3 from len3 (by omega))
  have LZmx := Lib.hid (show lenB mx.natAbs ≤ 3 from len3 (by omega))
  have HOFmn := Lib.hid OFmn
  have HOFmx := Lib.hid OFmx
  obtain ⟨c1, hc1⟩ : ∃ c, c = cmpZ p1 mn := ⟨_, rfl⟩
  obtain ⟨c2, hc2⟩ : ∃ c, c = cmpZ p1 mx := ⟨_, rfl⟩
  have HC1 := Lib.hid hc1.symm
  have HC2 := Lib.hid hc2.symm
  have g1 : decide (c1 < 0) = false := decide_eq_false (by rw [hc1]; unfold cmpZ; split; omega; split <;> omega)
  have g2 : decide (0 < c2) = false := decide_eq_false (by rw [hc2]; unfold cmpZ; split; omega; split <;> omega)
  obtain ⟨M, hM⟩ : ∃ M : Nat, M = p1.natAbs := ⟨_, rfl⟩
  have HM := Lib.hid hM
  have HNL := Lib.hid (show x1.n = lenB M by rw [hM]; exact h1.n)
  have HM63 := Lib.hid (show M ≤ 9223372036854775808 by omega)
  have HP2 := Lib.hid hz2
  have HN3 := Lib.hid (show x1.n ≤ 3 by rw [h1.n]; exact len3 (by omega))
  clear hz1 hz2 hc1 hc2 hM
  clear h1 b1 OFmn OFmx hmn hmx
  go_enter Tryz.func10, Tryz.ntmps10
  go_upto_region 1 with (fail)
  obtain ⟨v2, hV⟩ : ∃ V, V = w.alloc (.cells #[.bool x1.s, .slice x1.a x1.n x1.c] 24) := ⟨_, rfl⟩
  have hbV : Below w.heap.size w v2 := by rw [hV]; exact ((Below.refl _ _).alloc (Nat.le_refl _) _)
  have BX1 := Lib.hid (show Bxs v2 (w.heap.size) 24 [.bool x1.s, .slice x1.a x1.n x1.c] by have h := Bxs.new (w) 24 [.bool x1.s, .slice x1.a x1.n x1.c]; rw [hV]; exact h)
  rw [show w.alloc (.cells #[.bool x1.s, .slice x1.a x1.n x1.c] 24) = v2 from hV.symm]
  have KG := Lib.hid (KG.out.trans (hbV.mono KG.out.size))
  clear hV hbV
  have cBX10 := BX1.out.cell (i := 0) rfl
  have cBX11 := BX1.out.cell (i := 1) rfl
  have cBX1f := BX1.out.fz
  have cBX1l := BX1.out.lt
  go_wp2_with fail
  have CT := Lib.hid (rcheckN (N1.out.below KG.out) ((N1.out.below KG.out).len LZp1.out (by decide)))
  with_reducible refine CT.out.mono ?_
  rintro e w3 ⟨rfl, hb⟩
  clear CT
  clear cBX10 cBX11 cBX1f cBX1l
  have BX1 := Lib.hid (BX1.out.below hb BX1.out.lt)
  have KG := Lib.hid (KG.out.trans (hb.mono KG.out.size))
  clear hb
  go_upto_region 3 with (fail)
  refine Go.FreshS.wp_region_fresh 9 [] (Go.FreshS.spOf [(1, Go.FreshS.Sp.made (fun x : NV => x.v) (fun x w' => DN w' w3.heap.size x mn) NV.blk), (2, Go.FreshS.Sp.know (.int .i64 c1)), (6, Go.FreshS.Sp.made (fun x : NV => x.v) (fun x w' => DN w' w3.heap.size x mx) NV.blk), (7, Go.FreshS.Sp.know (.int .i64 c2))])
    (fun w' => Below w3.heap.size w3 w') (by kernel_rfl) (by kernel_rfl) (by kernel_rfl)
    (Go.FreshS.spOf_cons (Go.FreshS.Sp.made_keeps _ (fun _ _ _ h _ hk => h.kept hk) (Go.FreshS.notTaken (by kernel_rfl))) (Go.FreshS.spOf_cons (Go.FreshS.Sp.know_keeps _ _) (Go.FreshS.spOf_cons (Go.FreshS.Sp.made_keeps _ (fun _ _ _ h _ hk => h.kept hk) (Go.FreshS.notTaken (by kernel_rfl))) (Go.FreshS.spOf_cons (Go.FreshS.Sp.know_keeps _ _) (Go.FreshS.spOf_nil))))) (fun _ _ h hb => h.trans (hb.mono h.size)) ((Below.refl _ _).drew) ?_
  simp only [List.append_eq, List.cons_append, List.nil_append, List.take_succ_cons, List.take_zero, List.drop_succ_cons, List.drop_zero]
  refine Go.FreshS.wpF_reads rfl rfl rfl ?_ (fun w' hw' => ?_) ?_
  rotate_left
  · have hb' := hw'.world
    have hs0 := (BX1.out.below hb' BX1.out.lt).cell (i := 0) rfl
    have hs1 := (BX1.out.below hb' BX1.out.lt).cell (i := 1) rfl
    have hsf := (BX1.out.below hb' BX1.out.lt).fz
    have hsl := (BX1.out.below hb' BX1.out.lt).lt
    clear hw'
    go_simp
    try rfl
  conv => arg 10; simp only [Act.put, List.setIfInBounds_toArray, List.set_cons_succ, List.set_cons_zero]
  refine Go.FreshS.wpF_spec rfl rfl rfl (fun w' hw' => ?_) ?_
  · have hb' := hw'.world
    refine Go.FreshS.gives_of (Go.FreshS.PM (fun x : NV => x.v) (fun x w' => DN w' w3.heap.size x mn) NV.blk w'.heap.size) ?_ (fun _ _ h => h.post @NV.inj)
    go_simp
    have CT := HOFmn.out w'
    refine CT.mono ?_
    rintro e w'' ⟨za, rfl, ho, hb⟩
    exact ⟨_, rfl, ⟨za, rfl, ho.mono hb'.size, ho.blks⟩, hb⟩
  rintro _ ⟨y1, rfl⟩
  conv => arg 10; simp only [Act.put, List.setIfInBounds_toArray, List.set_cons_succ, List.set_cons_zero]
  refine Go.FreshS.wpF_spec rfl rfl rfl (fun w' hw' => ?_) ?_
  · have hb' := hw'.world
    refine Go.FreshS.gives_of (Go.FreshS.PK (.int .i64 c1)) ?_ (fun _ _ h => h.post)
    go_simp
    have f1 := Go.FreshS.made_of (val := fun x : NV => x.v) (Φ := fun x w' => DN w' w3.heap.size x mn) @NV.inj (hw'.fact 1 (by kernel_rfl))
    have CT := rcmpN (N1.out.below (KG.out.trans (hb'.mono KG.out.size))).any ((N1.out.below (KG.out.trans (hb'.mono KG.out.size))).len LZp1.out (by decide)) f1.k.any (f1.k.len LZmn.out (by decide))
    rw [show cmpZ p1 mn = c1 from HC1.out] at CT
    refine CT.mono ?_
    rintro e w'' ⟨rfl, hb⟩
    exact ⟨_, rfl, rfl, hb⟩
  rintro _ rfl
  conv => arg 10; simp only [Act.put, List.setIfInBounds_toArray, List.set_cons_succ, List.set_cons_zero]
  refine Go.FreshS.wpF_reads rfl rfl rfl ?_ (fun w' hw' => ?_) ?_
  rotate_left
  · have hb' := hw'.world
    skip
    clear hw'
    go_simp
    try rfl
  conv => arg 10; simp only [Act.put, List.setIfInBounds_toArray, List.set_cons_succ, List.set_cons_zero]
  refine Go.FreshS.wpF_reads rfl rfl rfl ?_ (fun w' hw' => ?_) ?_
  rotate_left
  · have hb' := hw'.world
    skip
    clear hw'
    go_simp
    try rfl
  conv => arg 10; simp only [Act.put, List.setIfInBounds_toArray, List.set_cons_succ, List.set_cons_zero]
  refine Go.FreshS.wpF_readsG (by rfl) rfl rfl ?_ (fun w' hw' => ?_) ?_
  rotate_left
  · have hb' := hw'.world
    have hs0 := (BX1.out.below hb' BX1.out.lt).cell (i := 0) rfl
    have hs1 := (BX1.out.below hb' BX1.out.lt).cell (i := 1) rfl
    have hsf := (BX1.out.below hb' BX1.out.lt).fz
    have hsl := (BX1.out.below hb' BX1.out.lt).lt
    clear hw'
    go_simp
    try rfl
  conv => arg 10; simp only [Act.put, List.setIfInBounds_toArray, List.set_cons_succ, List.set_cons_zero]
  refine Go.FreshS.wpF_gspec (by rfl) rfl rfl (fun w' hw' => ?_) ?_
  · have hb' := hw'.world
    refine Go.FreshS.gives_of (Go.FreshS.PM (fun x : NV => x.v) (fun x w' => DN w' w3.heap.size x mx) NV.blk w'.heap.size) ?_ (fun _ _ h => h.post @NV.inj)
    go_simp
    have CT := HOFmx.out w'
    refine CT.mono ?_
    rintro e w'' ⟨za, rfl, ho, hb⟩
    exact ⟨_, rfl, ⟨za, rfl, ho.mono hb'.size, ho.blks⟩, hb⟩
  rintro _ ⟨y6, rfl⟩
  conv => arg 10; simp only [Act.put, List.setIfInBounds_toArray, List.set_cons_succ, List.set_cons_zero]
  refine Go.FreshS.wpF_gspec (by rfl) rfl rfl (fun w' hw' => ?_) ?_
  · have hb' := hw'.world
    refine Go.FreshS.gives_of (Go.FreshS.PK (.int .i64 c2)) ?_ (fun _ _ h => h.post)
    go_simp
    have f6 := Go.FreshS.made_of (val := fun x : NV => x.v) (Φ := fun x w' => DN w' w3.heap.size x mx) @NV.inj (hw'.fact 6 (by kernel_rfl))
    have CT := rcmpN (N1.out.below (KG.out.trans (hb'.mono KG.out.size))).any ((N1.out.below (KG.out.trans (hb'.mono KG.out.size))).len LZp1.out (by decide)) f6.k.any (f6.k.len LZmx.out (by decide))
    rw [show cmpZ p1 mx = c2 from HC2.out] at CT
    refine CT.mono ?_
    rintro e w'' ⟨rfl, hb⟩
    exact ⟨_, rfl, rfl, hb⟩
  rintro _ rfl
  conv => arg 10; simp only [Act.put, List.setIfInBounds_toArray, List.set_cons_succ, List.set_cons_zero]
  refine Go.FreshS.wpF_readsG (by rfl) rfl rfl ?_ (fun w' hw' => ?_) ?_
  rotate_left
  · have hb' := hw'.world
    skip
    clear hw'
    go_simp
    try rfl
  conv => arg 10; simp only [Act.put, List.setIfInBounds_toArray, List.set_cons_succ, List.set_cons_zero]
  refine Go.FreshS.wpF_nil (fun w4 hb hF => ?_)
  clear hF
  have BX1 := Lib.hid (BX1.out.below hb BX1.out.lt)
  have KG := Lib.hid (KG.out.trans (hb.mono KG.out.size))
  clear hb
  have cBX10 := BX1.out.cell (i := 0) rfl
  have cBX11 := BX1.out.cell (i := 1) rfl
  have cBX1f := BX1.out.fz
  have cBX1l := BX1.out.lt
  have HRM := Lib.hid (show Rd w4 x1.a x1.n (dgi M) by have h := (N1.out.below KG.out).rd; rw [← HM.out] at h; exact h)
  have hn3 : x1.n ≤ 3 := HN3.out
  obtain ⟨A, hA⟩ : ∃ A, A = x1.a := ⟨_, rfl⟩
  rw [← hA] at HRM cBX11
  rw [← hA]
  clear hA
  have en : IntKind.i64.wrap ((x1.n : Int) - 1) = (x1.n : Int) - 1 := IntWalk.i64_in _ (by omega)
  go_wp2_with fail
  go_loopw [4, 5] (fun v i wr => ∃ (k m : Nat) (j : Int), k ≤ x1.n ∧ j = (k : Int) - 1 ∧ m = M / pw k ∧ i = .int .i64 j ∧ v = .int .u64 (m : Int) ∧ wr = w4) (fun _ i _ => (intOf i + 1).toNat)
  case atStart => exact ⟨x1.n, 0, (x1.n : Int) - 1, Nat.le_refl _, rfl, (Nat.div_eq_of_lt (by rw [HNL.out]; exact lt_pw_lenB M)).symm, rfl, rfl, rfl⟩
  case round =>
    obtain ⟨k, m, j, hk, hj, hm, rfl, rfl, rfl⟩ := hrel
    have hM63 := HM63.out
    rcases Nat.eq_zero_or_pos k with h0 | h0
    · have em : m = M := by rw [hm, h0, pw_zero, Nat.div_one]
      have ej : j = -1 := by omega
      subst em
      subst ej
      by_cases hz : p1 < 0
      · have hs : x1.s = true := by rw [N1.out.s]; exact decide_eq_true hz
        rw [hs] at cBX10
        obtain ⟨U, e1, e2⟩ : ∃ U, IntKind.u64.wrap (-(m : Int)) = U ∧ IntKind.i64.wrap U = p1 := by
          refine ⟨18446744073709551616 - (m : Int), ?_, ?_⟩
          · have := HM.out
            show (-(m : Int)) % 18446744073709551616 = _
            omega
          · have := HM.out
            rw [IntKind.wrap_i64]
            omega
        clear hj hm hz h0 hk
        go_wp2_with fail
        go_ret2
        exact ⟨rfl, KG.out⟩
      · have hs : x1.s = false := by rw [N1.out.s]; exact decide_eq_false hz
        rw [hs] at cBX10
        have e2 : IntKind.i64.wrap (m : Int) = p1 := by
          have := HM.out
          have := HP2.out
          rw [IntWalk.i64_in (m : Int) (by omega)]
          omega
        clear hj hm hz h0 hk
        go_wp2_with fail
        go_ret2
        exact ⟨rfl, KG.out⟩
    · obtain ⟨q, rfl⟩ : ∃ q, k = q + 1 := ⟨k - 1, by omega⟩
      obtain rfl : j = (q : Int) := by omega
      obtain ⟨xb, xo, rfl, hc⟩ := HRM.out.cells (by omega)
      have c1 := hc q (by omega)
      have hd := dgi_Dig M (q + 1) q (by omega)
      have hk9 := hk
      have hm2 : M / pw q = 1000000000 * m + dg M q := by rw [hm, pw_succ, ← Nat.div_div_eq_div_mul]; unfold dg; omega
      have hle : M / pw q ≤ M := Nat.div_le_self _ _
      have hdd : dgi M q = (dg M q : Int) := rfl
      have u1 : IntKind.u64.wrap (1000000000 * (m : Int)) = 1000000000 * (m : Int) := IntWalk.u64_in _ (by omega)
      have u2 : IntKind.u64.wrap (dgi M q) = dgi M q := IntWalk.u64_in _ (by omega)
      have u3 : IntKind.u64.wrap (1000000000 * (m : Int) + dgi M q) = 1000000000 * (m : Int) + dgi M q := IntWalk.u64_in _ (by omega)
      have u4 : IntKind.i64.wrap ((q : Int) - 1) = (q : Int) - 1 := IntWalk.i64_in _ (by omega)
      have EV := Lib.hid (show 1000000000 * (m : Int) + dgi M q = ((M / pw q : Nat) : Int) by rw [hm2, hdd]; omega)
      clear hm2 hle hdd hm hj hk h0
      have HK := Lib.hid hk9
      clear hk9
      go_wp2_with fail
      go_roundw
      case rel => exact ⟨q, M / pw q, (q : Int) - 1, by have := HK.out; omega, rfl, rfl, by simp [*], by rw [EV.out], by trivial⟩
      case measure => simp [intOf]
def bkE (p : Int) : Int := if -9223372036854775808 ≤ p ∧ p ≤ 9223372036854775807 then 0 else 3
def bkV (p : Int) : Int := if -9223372036854775808 ≤ p ∧ p ≤ 9223372036854775807 then p else 0
theorem rbackN {w : World} {x : NV} {p : Int} (h1 : KN w x p) (b1 : x.n ≤ 10000000) : Calls Tryz.prog 10 #[x.v] w fun e w' => e = .returned (.tuple #[.int .i64 (bkV p), .int .i64 (bkE p)]) ∧ Below w.heap.size w w' := by
  by_cases hz : -9223372036854775808 ≤ p ∧ p ≤ 9223372036854775807
  · rw [show bkV p = p from if_pos hz, show bkE p = 0 from if_pos hz]
    exact rback_ok x p w h1 b1 hz.1 hz.2
  · rw [show bkV p = 0 from if_neg hz, show bkE p = 3 from if_neg hz]
    by_cases h : p < -9223372036854775808
    · exact rback_lo x p w h1 b1 h
    · exact rback_hi x p w h1 b1 (by omega)
open Classical in
theorem backNV {w : World} {x : NV} {p : Int} (h1 : KN w x p) (b1 : x.n ≤ 10000000) : Calls Tryz.prog 9 #[x.v] w fun e w' => e = .returned (.tuple #[.int .i64 (bkV p), .int .i64 (bkE p)]) ∧ Below w.heap.size w w' := by
  have h := back_any x.s x.a x.n x.c (dgi p.natAbs) w h1.rd (by omega) h1.le
  have hk : okN x.s x.n (dgi p.natAbs) := by rw [h1.s, h1.n]; exact canon_ok p
  have hv : valN x.s x.n (dgi p.natAbs) = p := by rw [h1.s, h1.n]; exact canon_val p
  have e1 : backE x.s x.n (dgi p.natAbs) = bkE p := by unfold backE bkE; rw [if_pos hk, hv]
  have e2 : backV x.s x.n (dgi p.natAbs) = bkV p := by
    unfold backV bkV
    rw [e1, hv]
    unfold bkE
    by_cases hz : -9223372036854775808 ≤ p ∧ p ≤ 9223372036854775807
    · rw [if_pos hz, if_pos hz, if_pos rfl]
    · rw [if_neg hz, if_neg hz, if_neg (by decide)]
  rw [e1, e2] at h
  exact h
theorem rback_xN {w : World} {x : NV} (h1 : XN w x) (b1 : x.n ≤ 10000000) : Calls Tryz.prog 10 #[x.v] w fun e w' => e = .returned (.tuple #[.int .i64 0, .int .i64 1]) ∧ Below w.heap.size w w' := rback_bad x 0 w h1 b1
theorem neg_slice (l : List UInt8) (n : Nat) (h : l.length + 1 ≤ n) : (ByteArray.mk (45 :: l).toArray).extract 1 n = ⟨l.toArray⟩ := by
  apply ByteArray.ext
  rw [ByteArray.data_extract]
  apply Array.ext'
  rw [Array.toList_extract, List.extract_eq_take_drop]
  show List.take (n - 1) (List.drop 1 (45 :: l)) = l
  rw [List.drop_succ_cons, List.drop_zero, List.take_of_length_le (by omega)]
set_option maxRecDepth 100000 in
set_option maxHeartbeats 2000000 in
theorem rparse_emp_odd (w : World) : Calls Tryz.prog 12 #[.string ⟨#[]⟩] w (fun e w' => e = .returned (.tuple #[numV false none 0 0, .int .i64 4]) ∧ Below w.heap.size w w') := by
  obtain ⟨l, hl⟩ : ∃ l : List UInt8, l = [] := ⟨_, rfl⟩
  have hsz : l.length ≤ 9223372036854775807 := by rw [hl]; decide
  have hd : ¬ (l ≠ [] ∧ (∀ c ∈ l, isDig c = true) ∧ ¬ (l.head? = some 48 ∧ l ≠ [48])) := fun h => h.1 hl
  have HB1 := Lib.hid (Bx.new w 24 (.bool false) (.slice none 0 0))
  obtain ⟨W, hW⟩ : ∃ W, W = w.alloc (.cells #[.bool false, .slice none 0 0] 24) := ⟨_, rfl⟩
  have KG := Lib.hid (show Below w.heap.size w W by rw [hW]; exact (Below.refl _ _).alloc (Nat.le_refl _) _)
  rw [← hW] at HB1
  have HW := Lib.hid hW
  clear hW
  have DG := Lib.hid (digits_b l W hsz)
  rw [decide_eq_false hd] at DG
  subst hl
  clear hd
  go_enter Tryz.func12, Tryz.ntmps12
  go_upto_region 1 with (fail)
  rw [show w.alloc (.cells #[.bool false, .slice none 0 0] 24) = W from HW.out.symm]
  clear HW
  go_wp2_with fail
  refine DG.out.mono ?_
  rintro e w1 ⟨rfl, rfl⟩
  obtain ⟨x0, x1, x2, x3⟩ := HB1.out.all
  go_wp2_with fail
  refine bodyPost_ret (results_ctT rfl _ _ _ _ _ _ _ rfl (HB1.out.set _ _) Tryz.underlying24 rfl (by kernel_rfl)) rfl ⟨rfl, (KG.out.setCell (Nat.le_refl _) _).setCell (Nat.le_refl _) _⟩
set_option maxRecDepth 100000 in
set_option maxHeartbeats 2000000 in
theorem rparse_neg_odd (l : List UInt8) (w : World) (hsz : l.length ≤ 9223372036854775806) (hd : ¬ (l ≠ [] ∧ (∀ c ∈ l, isDig c = true) ∧ ¬ (l.head? = some 48 ∧ l ≠ [48]))) : Calls Tryz.prog 12 #[.string ⟨(45 :: l).toArray⟩] w (fun e w' => e = .returned (.tuple #[numV false none 0 0, .int .i64 4]) ∧ Below w.heap.size w w') := by
  have hsz : l.length ≤ 9223372036854775807 := by omega
  have HB1 := Lib.hid (Bx.new w 24 (.bool false) (.slice none 0 0))
  obtain ⟨W, hW⟩ : ∃ W, W = w.alloc (.cells #[.bool false, .slice none 0 0] 24) := ⟨_, rfl⟩
  have KG := Lib.hid (show Below w.heap.size w W by rw [hW]; exact (Below.refl _ _).alloc (Nat.le_refl _) _)
  rw [← hW] at HB1
  have HW := Lib.hid hW
  clear hW
  have DG := Lib.hid (digits_b l W hsz)
  rw [decide_eq_false hd] at DG
  have hz : 0 < (ByteArray.mk (45 :: l).toArray).size := by rw [bsz]; exact Nat.succ_pos _
  have hz2 : (((ByteArray.mk (45 :: l).toArray)[0]'hz).toNat : Int) = 45 := rfl
  have hx := neg_slice l (ByteArray.mk (45 :: l).toArray).size (by rw [bsz]; exact Nat.le_refl _)
  have hx2 := neg_slice l (l.length + 1) (Nat.le_refl _)
  have hl1 : (1 : Int) ≤ (((45 :: l).length : Nat) : Int) := by rw [List.length_cons]; omega
  have hl2 : (1 : Int) ≤ ((l.length : Nat) : Int) + 1 := by omega
  have hl3 : ((l.length : Nat) : Int) + 1 ≤ ((l.length : Nat) : Int) + 1 := Int.le_refl _
  clear hd
  go_enter Tryz.func12, Tryz.ntmps12
  go_upto_region 1 with (fail)
  rw [show w.alloc (.cells #[.bool false, .slice none 0 0] 24) = W from HW.out.symm]
  clear HW
  go_wp2_with fail
  refine DG.out.mono ?_
  rintro e w1 ⟨rfl, rfl⟩
  obtain ⟨x0, x1, x2, x3⟩ := HB1.out.all
  go_wp2_with fail
  refine bodyPost_ret (results_ctT rfl _ _ _ _ _ _ _ rfl (HB1.out.set _ _) Tryz.underlying24 rfl (by kernel_rfl)) rfl ⟨rfl, (KG.out.setCell (Nat.le_refl _) _).setCell (Nat.le_refl _) _⟩
set_option maxRecDepth 100000 in
set_option maxHeartbeats 2000000 in
theorem rparse_pos_odd (l : List UInt8) (w : World) (hsz : l.length ≤ 9223372036854775806) (hd : ¬ (l ≠ [] ∧ (∀ c ∈ l, isDig c = true) ∧ ¬ (l.head? = some 48 ∧ l ≠ [48]))) (h0 : l ≠ []) (h45 : l.head? ≠ some 45) : Calls Tryz.prog 12 #[.string ⟨(l).toArray⟩] w (fun e w' => e = .returned (.tuple #[numV false none 0 0, .int .i64 4]) ∧ Below w.heap.size w w') := by
  have hsz : l.length ≤ 9223372036854775807 := by omega
  have HB1 := Lib.hid (Bx.new w 24 (.bool false) (.slice none 0 0))
  obtain ⟨W, hW⟩ : ∃ W, W = w.alloc (.cells #[.bool false, .slice none 0 0] 24) := ⟨_, rfl⟩
  have KG := Lib.hid (show Below w.heap.size w W by rw [hW]; exact (Below.refl _ _).alloc (Nat.le_refl _) _)
  rw [← hW] at HB1
  have HW := Lib.hid hW
  clear hW
  have DG := Lib.hid (digits_b l W hsz)
  rw [decide_eq_false hd] at DG
  have hne : l.isEmpty = false := by cases l with | nil => exact absurd rfl h0 | cons c t => rfl
  have hz : 0 < (ByteArray.mk l.toArray).size := by rw [bsz]; cases l with | nil => exact absurd rfl h0 | cons c t => exact Nat.succ_pos _
  have hz2 : ((((ByteArray.mk l.toArray)[0]'hz).toNat : Int) == 45) = false := beq_eq_false_iff_ne.2 (by
    cases l with
    | nil => exact absurd rfl h0
    | cons c t =>
      intro h3
      have h4 : (c.toNat : Int) = 45 := h3
      exact h45 (by rw [List.head?_cons]; congr 1; exact UInt8.toNat_inj.1 (by show c.toNat = 45; omega)))
  clear hd h0 h45
  go_enter Tryz.func12, Tryz.ntmps12
  go_upto_region 1 with (fail)
  rw [show w.alloc (.cells #[.bool false, .slice none 0 0] 24) = W from HW.out.symm]
  clear HW
  go_wp2_with fail
  refine DG.out.mono ?_
  rintro e w1 ⟨rfl, rfl⟩
  obtain ⟨x0, x1, x2, x3⟩ := HB1.out.all
  go_wp2_with fail
  refine bodyPost_ret (results_ctT rfl _ _ _ _ _ _ _ rfl (HB1.out.set _ _) Tryz.underlying24 rfl (by kernel_rfl)) rfl ⟨rfl, (KG.out.setCell (Nat.le_refl _) _).setCell (Nat.le_refl _) _⟩
set_option maxRecDepth 100000 in
set_option maxHeartbeats 2000000 in
theorem rparse_neg_nought (l : List UInt8) (w : World) (hsz : l.length ≤ 9223372036854775806) (hd : l ≠ [] ∧ (∀ c ∈ l, isDig c = true) ∧ ¬ (l.head? = some 48 ∧ l ≠ [48])) (hk : l = [48]) : Calls Tryz.prog 12 #[.string ⟨(45 :: l).toArray⟩] w (fun e w' => e = .returned (.tuple #[numV false none 0 0, .int .i64 4]) ∧ Below w.heap.size w w') := by
  have hsz : l.length ≤ 9223372036854775807 := by omega
  have HB1 := Lib.hid (Bx.new w 24 (.bool false) (.slice none 0 0))
  obtain ⟨W, hW⟩ : ∃ W, W = w.alloc (.cells #[.bool false, .slice none 0 0] 24) := ⟨_, rfl⟩
  have KG := Lib.hid (show Below w.heap.size w W by rw [hW]; exact (Below.refl _ _).alloc (Nat.le_refl _) _)
  rw [← hW] at HB1
  have HW := Lib.hid hW
  clear hW
  have DG := Lib.hid (digits_b l W hsz)
  rw [decide_eq_true hd] at DG
  have hz : 0 < (ByteArray.mk (45 :: l).toArray).size := by rw [bsz]; exact Nat.succ_pos _
  have hz2 : (((ByteArray.mk (45 :: l).toArray)[0]'hz).toNat : Int) = 45 := rfl
  have hx := neg_slice l (ByteArray.mk (45 :: l).toArray).size (by rw [bsz]; exact Nat.le_refl _)
  have hx2 := neg_slice l (l.length + 1) (Nat.le_refl _)
  have hl1 : (1 : Int) ≤ (((45 :: l).length : Nat) : Int) := by rw [List.length_cons]; omega
  have hl2 : (1 : Int) ≤ ((l.length : Nat) : Int) + 1 := by omega
  have hl3 : ((l.length : Nat) : Int) + 1 ≤ ((l.length : Nat) : Int) + 1 := Int.le_refl _
  have hq3 : (l == [48]) = true := by rw [hk]; rfl
  clear hd hk
  go_enter Tryz.func12, Tryz.ntmps12
  go_upto_region 1 with (fail)
  rw [show w.alloc (.cells #[.bool false, .slice none 0 0] 24) = W from HW.out.symm]
  clear HW
  go_wp2_with fail
  refine DG.out.mono ?_
  rintro e w1 ⟨rfl, rfl⟩
  obtain ⟨x0, x1, x2, x3⟩ := HB1.out.all
  go_wp2_with fail
  refine bodyPost_ret (results_ctT rfl _ _ _ _ _ _ _ rfl (HB1.out.set _ _) Tryz.underlying24 rfl (by kernel_rfl)) rfl ⟨rfl, (KG.out.setCell (Nat.le_refl _) _).setCell (Nat.le_refl _) _⟩
set_option maxRecDepth 100000 in
set_option maxHeartbeats 2000000 in
theorem rparse_neg_long (l : List UInt8) (w : World) (hsz : l.length ≤ 9223372036854775806) (hd : l ≠ [] ∧ (∀ c ∈ l, isDig c = true) ∧ ¬ (l.head? = some 48 ∧ l ≠ [48])) (hk : l ≠ [48]) (hlong : 200 < l.length) : Calls Tryz.prog 12 #[.string ⟨(45 :: l).toArray⟩] w (fun e w' => e = .returned (.tuple #[numV false none 0 0, .int .i64 3]) ∧ Below w.heap.size w w') := by
  have hsz : l.length ≤ 9223372036854775807 := by omega
  have HB1 := Lib.hid (Bx.new w 24 (.bool false) (.slice none 0 0))
  obtain ⟨W, hW⟩ : ∃ W, W = w.alloc (.cells #[.bool false, .slice none 0 0] 24) := ⟨_, rfl⟩
  have KG := Lib.hid (show Below w.heap.size w W by rw [hW]; exact (Below.refl _ _).alloc (Nat.le_refl _) _)
  rw [← hW] at HB1
  have HW := Lib.hid hW
  clear hW
  have DG := Lib.hid (digits_b l W hsz)
  rw [decide_eq_true hd] at DG
  have hz : 0 < (ByteArray.mk (45 :: l).toArray).size := by rw [bsz]; exact Nat.succ_pos _
  have hz2 : (((ByteArray.mk (45 :: l).toArray)[0]'hz).toNat : Int) = 45 := rfl
  have hx := neg_slice l (ByteArray.mk (45 :: l).toArray).size (by rw [bsz]; exact Nat.le_refl _)
  have hx2 := neg_slice l (l.length + 1) (Nat.le_refl _)
  have hl1 : (1 : Int) ≤ (((45 :: l).length : Nat) : Int) := by rw [List.length_cons]; omega
  have hl2 : (1 : Int) ≤ ((l.length : Nat) : Int) + 1 := by omega
  have hl3 : ((l.length : Nat) : Int) + 1 ≤ ((l.length : Nat) : Int) + 1 := Int.le_refl _
  have hq3 : (l == [48]) = false := beq_eq_false_iff_ne.2 hk
  have hln : (200 : Int) < (l.length : Int) := by omega
  clear hd hk hlong
  go_enter Tryz.func12, Tryz.ntmps12
  go_upto_region 1 with (fail)
  rw [show w.alloc (.cells #[.bool false, .slice none 0 0] 24) = W from HW.out.symm]
  clear HW
  go_wp2_with fail
  refine DG.out.mono ?_
  rintro e w1 ⟨rfl, rfl⟩
  obtain ⟨x0, x1, x2, x3⟩ := HB1.out.all
  go_wp2_with fail
  refine bodyPost_ret (results_ctT rfl _ _ _ _ _ _ _ rfl (HB1.out.set _ _) Tryz.underlying24 rfl (by kernel_rfl)) rfl ⟨rfl, (KG.out.setCell (Nat.le_refl _) _).setCell (Nat.le_refl _) _⟩
set_option maxRecDepth 100000 in
set_option maxHeartbeats 2000000 in
theorem rparse_pos_long (l : List UInt8) (w : World) (hsz : l.length ≤ 9223372036854775806) (hd : l ≠ [] ∧ (∀ c ∈ l, isDig c = true) ∧ ¬ (l.head? = some 48 ∧ l ≠ [48])) (h0 : l ≠ []) (h45 : l.head? ≠ some 45) (hlong : 200 < l.length) : Calls Tryz.prog 12 #[.string ⟨(l).toArray⟩] w (fun e w' => e = .returned (.tuple #[numV false none 0 0, .int .i64 3]) ∧ Below w.heap.size w w') := by
  have hsz : l.length ≤ 9223372036854775807 := by omega
  have HB1 := Lib.hid (Bx.new w 24 (.bool false) (.slice none 0 0))
  obtain ⟨W, hW⟩ : ∃ W, W = w.alloc (.cells #[.bool false, .slice none 0 0] 24) := ⟨_, rfl⟩
  have KG := Lib.hid (show Below w.heap.size w W by rw [hW]; exact (Below.refl _ _).alloc (Nat.le_refl _) _)
  rw [← hW] at HB1
  have HW := Lib.hid hW
  clear hW
  have DG := Lib.hid (digits_b l W hsz)
  rw [decide_eq_true hd] at DG
  have hne : l.isEmpty = false := by cases l with | nil => exact absurd rfl h0 | cons c t => rfl
  have hz : 0 < (ByteArray.mk l.toArray).size := by rw [bsz]; cases l with | nil => exact absurd rfl h0 | cons c t => exact Nat.succ_pos _
  have hz2 : ((((ByteArray.mk l.toArray)[0]'hz).toNat : Int) == 45) = false := beq_eq_false_iff_ne.2 (by
    cases l with
    | nil => exact absurd rfl h0
    | cons c t =>
      intro h3
      have h4 : (c.toNat : Int) = 45 := h3
      exact h45 (by rw [List.head?_cons]; congr 1; exact UInt8.toNat_inj.1 (by show c.toNat = 45; omega)))
  have hln : (200 : Int) < (l.length : Int) := by omega
  clear hd h0 h45 hlong
  go_enter Tryz.func12, Tryz.ntmps12
  go_upto_region 1 with (fail)
  rw [show w.alloc (.cells #[.bool false, .slice none 0 0] 24) = W from HW.out.symm]
  clear HW
  go_wp2_with fail
  refine DG.out.mono ?_
  rintro e w1 ⟨rfl, rfl⟩
  obtain ⟨x0, x1, x2, x3⟩ := HB1.out.all
  go_wp2_with fail
  refine bodyPost_ret (results_ctT rfl _ _ _ _ _ _ _ rfl (HB1.out.set _ _) Tryz.underlying24 rfl (by kernel_rfl)) rfl ⟨rfl, (KG.out.setCell (Nat.le_refl _) _).setCell (Nat.le_refl _) _⟩
set_option maxRecDepth 100000 in
set_option maxHeartbeats 2000000 in
theorem rparse_pos_ok (l : List UInt8) (w : World) (hsz : l.length ≤ 9223372036854775806) (hd : l ≠ [] ∧ (∀ c ∈ l, isDig c = true) ∧ ¬ (l.head? = some 48 ∧ l ≠ [48])) (h0 : l ≠ []) (h45 : l.head? ≠ some 45) (hlong : l.length ≤ 200) : Calls Tryz.prog 12 #[.string ⟨(l).toArray⟩] w (RNE w ((decV l : Int)) 0) := by
  have hsz : l.length ≤ 9223372036854775807 := by omega
  have HB1 := Lib.hid (Bx.new w 24 (.bool false) (.slice none 0 0))
  obtain ⟨W, hW⟩ : ∃ W, W = w.alloc (.cells #[.bool false, .slice none 0 0] 24) := ⟨_, rfl⟩
  have KG := Lib.hid (show Below w.heap.size w W by rw [hW]; exact (Below.refl _ _).alloc (Nat.le_refl _) _)
  rw [← hW] at HB1
  have HW := Lib.hid hW
  clear hW
  have DG := Lib.hid (digits_b l W hsz)
  rw [decide_eq_true hd] at DG
  have hne : l.isEmpty = false := by cases l with | nil => exact absurd rfl h0 | cons c t => rfl
  have hz : 0 < (ByteArray.mk l.toArray).size := by rw [bsz]; cases l with | nil => exact absurd rfl h0 | cons c t => exact Nat.succ_pos _
  have hz2 : ((((ByteArray.mk l.toArray)[0]'hz).toNat : Int) == 45) = false := beq_eq_false_iff_ne.2 (by
    cases l with
    | nil => exact absurd rfl h0
    | cons c t =>
      intro h3
      have h4 : (c.toNat : Int) = 45 := h3
      exact h45 (by rw [List.head?_cons]; congr 1; exact UInt8.toNat_inj.1 (by show c.toNat = 45; omega)))
  have hln : ¬ (200 : Int) < (l.length : Int) := by omega
  have HD := Lib.hid hd.2.1
  have HQ0 := Lib.hid (show QInv l l.length 0 (fun _ => 0) from ⟨by rw [List.take_length, pw_zero]; show _ = _ * (1 : Int) + 0; rw [Int.mul_one, Int.add_zero], fun j hj => by omega, by omega, Nat.le_refl _⟩)
  obtain ⟨sg, hsg⟩ : ∃ b, b = decide ((decV l : Int) < 0) := ⟨_, rfl⟩
  have HSG := Lib.hid hsg
  have HNZ := Lib.hid (show (false && decide (0 < lenB (decV l))) = sg from by
    rw [hsg]
    exact pos_canon _)
  clear hsg
  clear hd h0 h45 hlong
  go_enter Tryz.func12, Tryz.ntmps12
  go_upto_region 1 with (fail)
  rw [show w.alloc (.cells #[.bool false, .slice none 0 0] 24) = W from HW.out.symm]
  clear HW
  go_wp2_with fail
  refine DG.out.mono ?_
  rintro e w1 ⟨rfl, rfl⟩
  obtain ⟨x0, x1, x2, x3⟩ := HB1.out.all
  clear x0 x1 x2 x3
  go_upto_region 8 with (fail)
  go_upto_region 9 with (fail)
  go_wp2_with fail
  go_loopw [5, 6] (fun d tz wr => ∃ (i t : Nat) (a : Option Addr) (cap : Nat) (o : Nat → Int) (z : Int), d = .slice a i cap ∧ tz = .int .i64 z ∧ ((0 < t ∧ z = t) ∨ (t = 0 ∧ z ≤ 0 ∧ -9 ≤ z)) ∧ Own 54 wr (w.heap.size + 1) a i cap o ∧ QInv l t i o ∧ Below (w.heap.size + 1) w1 wr) (fun _ tz _ => (intOf tz).toNat)
  case atStart => exact ⟨0, l.length, none, 0, fun _ => 0, _, rfl, rfl, by omega, ⟨Nat.le_refl _, Or.inl ⟨rfl, rfl, rfl⟩, fun j hj => by omega⟩, HQ0.out, Below.refl _ _⟩
  case round =>
    obtain ⟨i, t, a, cap, o, z, rfl, rfl, hz, ho, hq, hb⟩ := hrel
    have HO := Lib.hid ho
    have HQ := Lib.hid hq
    have HBL := Lib.hid hb
    have HBX := Lib.hid (HB1.out.below hb (Nat.lt_succ_self _))
    have KW := Lib.hid (KG.out.trans (hb.mono (Nat.le_succ _)))
    have HI := Lib.hid (show i + t ≤ 200 from hq.len)
    have HSZ := Lib.hid (show w.heap.size + 1 ≤ wr.heap.size from HBX.out.lt)
    clear ho hq hb
    rcases hz with ⟨ht, rfl⟩ | ⟨rfl, hz1, hz2⟩
    · have gt : (0 : Int) < (t : Int) := by omega
      obtain ⟨k, hk⟩ : ∃ k : Nat, k = t - 9 := ⟨_, rfl⟩
      have HST := Lib.hid (HQ.out.step HD.out ht)
      rw [← hk] at HST
      have h2 := HI.out
      have w9 := IntWalk.i64_in ((t : Int) - 9) (by omega)
      have hmx : max 0 ((t : Int) - 9) = (k : Int) := by omega
      have HK := Lib.hid hk
      have HTL := Lib.hid HQ.out.le
      clear hk h2
      go_wp2_with fail
      go_loop [7, 8] (fun n i => ∃ (p : Nat) (nn : Int), k ≤ p ∧ p ≤ t ∧ n = .int .u32 nn ∧ i = .int .i64 p ∧ nn = (decV ((l.take p).drop k) : Nat)) (fun _ i => t - (intOf i).toNat)
      case atStart => exact ⟨k, 0, Nat.le_refl _, by have := HK.out; omega, rfl, rfl, by rw [List.drop_of_length_le (by rw [List.length_take]; omega)]; rfl⟩
      case round =>
        obtain ⟨p, nn, hp1, hp2, rfl, rfl, hnn⟩ := hrel
        have hmo : nn < 1000000000 := by have h1 := decV_mono (l := l) hp2 hp1; have h2 := HST.out.1; omega
        have hn0 : 0 ≤ nn := by omega
        by_cases hp : p < t
        · have hpl : p < l.length := by have := HTL.out; omega
          have hks : p < (ByteArray.mk l.toArray).size := by rw [bsz]; exact hpl
          have h9 := chr_get l hks
          have hd := chr_dig (chr_mem HD.out hpl)
          rw [← h9] at hd
          have hsn : (decV ((l.take (p + 1)).drop k) : Int) = 10 * nn + ((((ByteArray.mk l.toArray)[p]'hks).toNat : Int) - 48) := by
            rw [take_succ_chr hp1 hpl, decV_snoc, ← h9, hnn]; omega
          have hmo2 : (decV ((l.take (p + 1)).drop k) : Int) < 1000000000 := by have h1 := decV_mono (l := l) (k := k) (p := p + 1) (t := t) (by omega) (by omega); have h2 := HST.out.1; omega
          clear h9
          obtain ⟨dd, hdd⟩ : ∃ d : Int, d = (((ByteArray.mk l.toArray)[p]'hks).toNat : Int) - 48 := ⟨_, rfl⟩
          rw [← hdd] at hsn
          have e2 : IntKind.u8.wrap ((((ByteArray.mk l.toArray)[p]'hks).toNat : Int) - 48) = dd := by rw [hdd]; exact IntWalk.u8_in _ (by omega)
          have e3 : IntKind.u32.wrap dd = dd := IntWalk.u32_in _ (by omega)
          obtain ⟨m10, hm⟩ : ∃ m : Int, m = 10 * nn := ⟨_, rfl⟩
          have e1 : IntKind.u32.wrap (10 * nn) = m10 := by rw [hm]; exact IntWalk.u32_in _ (by omega)
          obtain ⟨n2, hn2⟩ : ∃ m : Int, m = m10 + dd := ⟨_, rfl⟩
          have e4 : IntKind.u32.wrap (m10 + dd) = n2 := by rw [hn2]; exact IntWalk.u32_in _ (by omega)
          have HN2 := Lib.hid (show n2 = (decV ((l.take (p + 1)).drop k) : Nat) by rw [hsn, hn2, hm])
          have hin : (p : Int) < (t : Int) := by omega
          clear hsn hmo2 hdd hm hn2 hnn hmo hn0 hd hpl
          have h64 := HI.out
          go_wp2_with fail
          go_round
          case rel => exact ⟨p + 1, n2, by omega, by omega, rfl, by go_num, HN2.out⟩
          case measure => simp [intOf]; omega
        · obtain rfl : p = t := by omega
          have hin : ¬ (p : Int) < (p : Int) := by omega
          have hmo' : nn ≤ 4294967295 := by omega
          have HNN := Lib.hid hnn
          clear hnn hmo
          have hi := HI.out
          go_wp2_with (first
            | (at_builtin; refine Book.wpList_push rfl _ _ rfl (by rfl) (HO.out.allocd _) (by omega) (by have := HSZ.out; simp; omega) (v := nn) (by rfl) ?c1 (by omega) (by rfl) ?_))
          intro a' c' w4 hown hcase
          have HBL4 := Lib.hid (push_below (x := .cells #[.int .u32 nn] 54) HBL.out HSZ.out HO.out hcase)
          have HO4 := Lib.hid hown
          clear hown hcase
          go_wp2_with fail
          go_roundw
          case rel =>
            have h1 := HST.out.2
            rw [← HNN.out] at h1
            exact ⟨i + 1, k, a', c', _, _, rfl, rfl, by have := HK.out; omega, HO4.out, h1, HBL4.out⟩
          case measure => simp [intOf]; omega
    · skip
      have gt : ¬ ((0 : Int) < z) := by omega
      have HV := Lib.hid (show sumB o i = (decV l : Int) by
        have h1 := HQ.out.val
        rw [List.take_zero, show decV [] = 0 from rfl] at h1
        simp only [Int.natCast_zero, Int.zero_mul] at h1
        omega)
      have NUM := Lib.hid (num_any false a i cap o wr HO.out.rd HQ.out.parts (by have := HI.out; omega) HO.out.le)
      rw [HV.out, Int.toNat_natCast, HNZ.out] at NUM
      obtain ⟨x0, x1, x2, x3⟩ := HBX.out.all
      go_wp2_with fail
      refine NUM.out.mono ?_
      rintro e w3 ⟨rfl, hb3⟩
      have HB3 := Lib.hid (HBX.out.below hb3 HBX.out.lt)
      have HO3 := Lib.hid (HO.out.below hb3)
      have KW3 := Lib.hid (KW.out.trans (hb3.mono KW.out.size))
      clear hb3 NUM x0 x1 x2 x3
      obtain ⟨x0, x1, x2, x3⟩ := HB3.out.all
      go_wp2_with fail
      refine bodyPost_ret (results_ctT rfl _ _ _ _ _ _ _ rfl (HB3.out.set _ _) Tryz.underlying24 rfl (by kernel_rfl)) rfl ⟨⟨sg, a, lenB (decV l), cap⟩, rfl, ⟨HSG.out, ?_, ?_⟩, ?_⟩
      · show lenB (decV l) = lenB (((decV l : Nat) : Int)).natAbs
        congr 1 <;> omega
      · rw [show (((decV l : Nat) : Int)).natAbs = decV l by omega]
        exact (((own_fit HO3.out HQ.out.parts HV.out).other (by dsimp only; omega) _).other (by dsimp only; omega) _).mono (by omega)
      · exact (KW3.out.setCell (Nat.le_refl _) _).setCell (Nat.le_refl _) _
set_option maxRecDepth 100000 in
set_option maxHeartbeats 2000000 in
theorem rparse_neg_ok (l : List UInt8) (w : World) (hsz : l.length ≤ 9223372036854775806) (hd : l ≠ [] ∧ (∀ c ∈ l, isDig c = true) ∧ ¬ (l.head? = some 48 ∧ l ≠ [48])) (hk : l ≠ [48]) (hlong : l.length ≤ 200) : Calls Tryz.prog 12 #[.string ⟨(45 :: l).toArray⟩] w (RNE w (-(decV l : Int)) 0) := by
  have hsz : l.length ≤ 9223372036854775807 := by omega
  have HB1 := Lib.hid (Bx.new w 24 (.bool false) (.slice none 0 0))
  obtain ⟨W, hW⟩ : ∃ W, W = w.alloc (.cells #[.bool false, .slice none 0 0] 24) := ⟨_, rfl⟩
  have KG := Lib.hid (show Below w.heap.size w W by rw [hW]; exact (Below.refl _ _).alloc (Nat.le_refl _) _)
  rw [← hW] at HB1
  have HW := Lib.hid hW
  clear hW
  have DG := Lib.hid (digits_b l W hsz)
  rw [decide_eq_true hd] at DG
  have hz : 0 < (ByteArray.mk (45 :: l).toArray).size := by rw [bsz]; exact Nat.succ_pos _
  have hz2 : (((ByteArray.mk (45 :: l).toArray)[0]'hz).toNat : Int) = 45 := rfl
  have hx := neg_slice l (ByteArray.mk (45 :: l).toArray).size (by rw [bsz]; exact Nat.le_refl _)
  have hx2 := neg_slice l (l.length + 1) (Nat.le_refl _)
  have hl1 : (1 : Int) ≤ (((45 :: l).length : Nat) : Int) := by rw [List.length_cons]; omega
  have hl2 : (1 : Int) ≤ ((l.length : Nat) : Int) + 1 := by omega
  have hl3 : ((l.length : Nat) : Int) + 1 ≤ ((l.length : Nat) : Int) + 1 := Int.le_refl _
  have hq3 : (l == [48]) = false := beq_eq_false_iff_ne.2 hk
  have hln : ¬ (200 : Int) < (l.length : Int) := by omega
  have HD := Lib.hid hd.2.1
  have HQ0 := Lib.hid (show QInv l l.length 0 (fun _ => 0) from ⟨by rw [List.take_length, pw_zero]; show _ = _ * (1 : Int) + 0; rw [Int.mul_one, Int.add_zero], fun j hj => by omega, by omega, Nat.le_refl _⟩)
  obtain ⟨sg, hsg⟩ : ∃ b, b = decide (-(decV l : Int) < 0) := ⟨_, rfl⟩
  have HSG := Lib.hid hsg
  have HNZ := Lib.hid (show (true && decide (0 < lenB (decV l))) = sg from by
    rw [hsg]
    have hp : 0 < decV l := by
      cases l with
      | nil => exact absurd rfl hd.1
      | cons c r => exact decV_pos c r (hd.2.1 c (List.mem_cons_self ..)) (fun e => hd.2.2 ⟨by rw [e]; rfl, hk⟩)
    exact neg_canon _ hp)
  clear hsg
  clear hd hk hlong
  go_enter Tryz.func12, Tryz.ntmps12
  go_upto_region 1 with (fail)
  rw [show w.alloc (.cells #[.bool false, .slice none 0 0] 24) = W from HW.out.symm]
  clear HW
  go_wp2_with fail
  refine DG.out.mono ?_
  rintro e w1 ⟨rfl, rfl⟩
  obtain ⟨x0, x1, x2, x3⟩ := HB1.out.all
  clear x0 x1 x2 x3
  go_upto_region 8 with (fail)
  go_upto_region 9 with (fail)
  go_wp2_with fail
  go_loopw [5, 6] (fun d tz wr => ∃ (i t : Nat) (a : Option Addr) (cap : Nat) (o : Nat → Int) (z : Int), d = .slice a i cap ∧ tz = .int .i64 z ∧ ((0 < t ∧ z = t) ∨ (t = 0 ∧ z ≤ 0 ∧ -9 ≤ z)) ∧ Own 54 wr (w.heap.size + 1) a i cap o ∧ QInv l t i o ∧ Below (w.heap.size + 1) w1 wr) (fun _ tz _ => (intOf tz).toNat)
  case atStart => exact ⟨0, l.length, none, 0, fun _ => 0, _, rfl, rfl, by omega, ⟨Nat.le_refl _, Or.inl ⟨rfl, rfl, rfl⟩, fun j hj => by omega⟩, HQ0.out, Below.refl _ _⟩
  case round =>
    obtain ⟨i, t, a, cap, o, z, rfl, rfl, hz, ho, hq, hb⟩ := hrel
    have HO := Lib.hid ho
    have HQ := Lib.hid hq
    have HBL := Lib.hid hb
    have HBX := Lib.hid (HB1.out.below hb (Nat.lt_succ_self _))
    have KW := Lib.hid (KG.out.trans (hb.mono (Nat.le_succ _)))
    have HI := Lib.hid (show i + t ≤ 200 from hq.len)
    have HSZ := Lib.hid (show w.heap.size + 1 ≤ wr.heap.size from HBX.out.lt)
    clear ho hq hb
    rcases hz with ⟨ht, rfl⟩ | ⟨rfl, hz1, hz2⟩
    · have gt : (0 : Int) < (t : Int) := by omega
      obtain ⟨k, hk⟩ : ∃ k : Nat, k = t - 9 := ⟨_, rfl⟩
      have HST := Lib.hid (HQ.out.step HD.out ht)
      rw [← hk] at HST
      have h2 := HI.out
      have w9 := IntWalk.i64_in ((t : Int) - 9) (by omega)
      have hmx : max 0 ((t : Int) - 9) = (k : Int) := by omega
      have HK := Lib.hid hk
      have HTL := Lib.hid HQ.out.le
      clear hk h2
      go_wp2_with fail
      go_loop [7, 8] (fun n i => ∃ (p : Nat) (nn : Int), k ≤ p ∧ p ≤ t ∧ n = .int .u32 nn ∧ i = .int .i64 p ∧ nn = (decV ((l.take p).drop k) : Nat)) (fun _ i => t - (intOf i).toNat)
      case atStart => exact ⟨k, 0, Nat.le_refl _, by have := HK.out; omega, rfl, rfl, by rw [List.drop_of_length_le (by rw [List.length_take]; omega)]; rfl⟩
      case round =>
        obtain ⟨p, nn, hp1, hp2, rfl, rfl, hnn⟩ := hrel
        have hmo : nn < 1000000000 := by have h1 := decV_mono (l := l) hp2 hp1; have h2 := HST.out.1; omega
        have hn0 : 0 ≤ nn := by omega
        by_cases hp : p < t
        · have hpl : p < l.length := by have := HTL.out; omega
          have hks : p < (ByteArray.mk l.toArray).size := by rw [bsz]; exact hpl
          have h9 := chr_get l hks
          have hd := chr_dig (chr_mem HD.out hpl)
          rw [← h9] at hd
          have hsn : (decV ((l.take (p + 1)).drop k) : Int) = 10 * nn + ((((ByteArray.mk l.toArray)[p]'hks).toNat : Int) - 48) := by
            rw [take_succ_chr hp1 hpl, decV_snoc, ← h9, hnn]; omega
          have hmo2 : (decV ((l.take (p + 1)).drop k) : Int) < 1000000000 := by have h1 := decV_mono (l := l) (k := k) (p := p + 1) (t := t) (by omega) (by omega); have h2 := HST.out.1; omega
          clear h9
          obtain ⟨dd, hdd⟩ : ∃ d : Int, d = (((ByteArray.mk l.toArray)[p]'hks).toNat : Int) - 48 := ⟨_, rfl⟩
          rw [← hdd] at hsn
          have e2 : IntKind.u8.wrap ((((ByteArray.mk l.toArray)[p]'hks).toNat : Int) - 48) = dd := by rw [hdd]; exact IntWalk.u8_in _ (by omega)
          have e3 : IntKind.u32.wrap dd = dd := IntWalk.u32_in _ (by omega)
          obtain ⟨m10, hm⟩ : ∃ m : Int, m = 10 * nn := ⟨_, rfl⟩
          have e1 : IntKind.u32.wrap (10 * nn) = m10 := by rw [hm]; exact IntWalk.u32_in _ (by omega)
          obtain ⟨n2, hn2⟩ : ∃ m : Int, m = m10 + dd := ⟨_, rfl⟩
          have e4 : IntKind.u32.wrap (m10 + dd) = n2 := by rw [hn2]; exact IntWalk.u32_in _ (by omega)
          have HN2 := Lib.hid (show n2 = (decV ((l.take (p + 1)).drop k) : Nat) by rw [hsn, hn2, hm])
          have hin : (p : Int) < (t : Int) := by omega
          clear hsn hmo2 hdd hm hn2 hnn hmo hn0 hd hpl
          have h64 := HI.out
          go_wp2_with fail
          go_round
          case rel => exact ⟨p + 1, n2, by omega, by omega, rfl, by go_num, HN2.out⟩
          case measure => simp [intOf]; omega
        · obtain rfl : p = t := by omega
          have hin : ¬ (p : Int) < (p : Int) := by omega
          have hmo' : nn ≤ 4294967295 := by omega
          have HNN := Lib.hid hnn
          clear hnn hmo
          have hi := HI.out
          go_wp2_with (first
            | (at_builtin; refine Book.wpList_push rfl _ _ rfl (by rfl) (HO.out.allocd _) (by omega) (by have := HSZ.out; simp; omega) (v := nn) (by rfl) ?c1 (by omega) (by rfl) ?_))
          intro a' c' w4 hown hcase
          have HBL4 := Lib.hid (push_below (x := .cells #[.int .u32 nn] 54) HBL.out HSZ.out HO.out hcase)
          have HO4 := Lib.hid hown
          clear hown hcase
          go_wp2_with fail
          go_roundw
          case rel =>
            have h1 := HST.out.2
            rw [← HNN.out] at h1
            exact ⟨i + 1, k, a', c', _, _, rfl, rfl, by have := HK.out; omega, HO4.out, h1, HBL4.out⟩
          case measure => simp [intOf]; omega
    · skip
      have gt : ¬ ((0 : Int) < z) := by omega
      have HV := Lib.hid (show sumB o i = (decV l : Int) by
        have h1 := HQ.out.val
        rw [List.take_zero, show decV [] = 0 from rfl] at h1
        simp only [Int.natCast_zero, Int.zero_mul] at h1
        omega)
      have NUM := Lib.hid (num_any true a i cap o wr HO.out.rd HQ.out.parts (by have := HI.out; omega) HO.out.le)
      rw [HV.out, Int.toNat_natCast, HNZ.out] at NUM
      obtain ⟨x0, x1, x2, x3⟩ := HBX.out.all
      go_wp2_with fail
      refine NUM.out.mono ?_
      rintro e w3 ⟨rfl, hb3⟩
      have HB3 := Lib.hid (HBX.out.below hb3 HBX.out.lt)
      have HO3 := Lib.hid (HO.out.below hb3)
      have KW3 := Lib.hid (KW.out.trans (hb3.mono KW.out.size))
      clear hb3 NUM x0 x1 x2 x3
      obtain ⟨x0, x1, x2, x3⟩ := HB3.out.all
      go_wp2_with fail
      refine bodyPost_ret (results_ctT rfl _ _ _ _ _ _ _ rfl (HB3.out.set _ _) Tryz.underlying24 rfl (by kernel_rfl)) rfl ⟨⟨sg, a, lenB (decV l), cap⟩, rfl, ⟨HSG.out, ?_, ?_⟩, ?_⟩
      · show lenB (decV l) = lenB ((-(decV l : Int))).natAbs
        congr 1 <;> omega
      · rw [show ((-(decV l : Int))).natAbs = decV l by omega]
        exact (((own_fit HO3.out HQ.out.parts HV.out).other (by dsimp only; omega) _).other (by dsimp only; omega) _).mono (by omega)
      · exact (KW3.out.setCell (Nat.le_refl _) _).setCell (Nat.le_refl _) _
theorem codeT_of' {l : List UInt8} (h : formT l) (h2 : (bodyT l).length ≤ 200) : codeT l = 0 := by unfold codeT; rw [if_pos h, if_neg (by omega)]
theorem rne_zero {w w' : World} {c : Int} {e : Ending} (h : e = .returned (.tuple #[numV false none 0 0, .int .i64 c]) ∧ Below w.heap.size w w') : RNE w 0 c e w' := by
  obtain ⟨rfl, hb⟩ := h
  exact ⟨⟨false, none, 0, 0⟩, rfl, ⟨rfl, lenB_zero.symm, ⟨Nat.le_refl _, Or.inl ⟨rfl, rfl, rfl⟩, fun i h => absurd h (Nat.not_lt_zero i)⟩⟩, hb⟩
theorem bad_form {l : List UInt8} (h : ¬ formT l) : codeT l = 4 ∧ numT l = 0 := by
  unfold codeT numT
  rw [if_neg h, if_neg (fun h2 => h h2.1)]
  exact ⟨rfl, rfl⟩
theorem long_form {l : List UInt8} (h : formT l) (h2 : 200 < (bodyT l).length) : codeT l = 3 ∧ numT l = 0 := by
  unfold codeT numT
  rw [if_pos h, if_pos h2, if_neg (fun h3 => by have := h3.2; omega)]
  exact ⟨rfl, rfl⟩
theorem rparseL (s : List UInt8) (w : World) (hs : s.length ≤ 9223372036854775806) : Calls Tryz.prog 12 #[.string ⟨s.toArray⟩] w (RNE w (numT s) (codeT s)) := by
  by_cases h45 : s.head? = some 45
  · obtain ⟨l, rfl⟩ : ∃ l, s = 45 :: l := by
      cases s with
      | nil => cases h45
      | cons c r => simp only [List.head?_cons, Option.some.injEq] at h45; exact ⟨r, by rw [h45]⟩
    obtain ⟨n1, n2⟩ := neg_cons l
    have hl : l.length ≤ 9223372036854775806 := by rw [List.length_cons] at hs; omega
    by_cases hd : l ≠ [] ∧ (∀ c ∈ l, isDig c = true) ∧ ¬ (l.head? = some 48 ∧ l ≠ [48])
    · by_cases hk : l = [48]
      · obtain ⟨e1, e2⟩ := bad_form (l := 45 :: l) fun h => h.2.2 ⟨by rw [n2, hk]; rfl, .inl n1⟩
        rw [e1, e2]
        exact (rparse_neg_nought l w hl hd hk).mono fun _ _ h => rne_zero h
      · have hf : formT (45 :: l) := by
          unfold formT
          rw [n1, n2]
          exact ⟨hd.1, hd.2.1, fun h => hd.2.2 ⟨h.1, hk⟩⟩
        by_cases hlong : 200 < l.length
        · obtain ⟨e1, e2⟩ := long_form hf (by rw [n2]; exact hlong)
          rw [e1, e2]
          exact (rparse_neg_long l w hl hd hk hlong).mono fun _ _ h => rne_zero h
        · have e1 : codeT (45 :: l) = 0 := codeT_of' hf (by rw [n2]; omega)
          have e2 : numT (45 :: l) = -(decV l : Int) := by unfold numT; rw [if_pos ⟨hf, by rw [n2]; omega⟩, if_pos n1, n2]
          rw [e1, e2]
          exact rparse_neg_ok l w hl hd hk (by omega)
    · obtain ⟨e1, e2⟩ := bad_form (l := 45 :: l) fun h => by
        unfold formT at h
        rw [n1, n2] at h
        exact hd ⟨h.1, h.2.1, fun h2 => h.2.2 ⟨h2.1, .inl rfl⟩⟩
      rw [e1, e2]
      exact (rparse_neg_odd l w hl hd).mono fun _ _ h => rne_zero h
  · obtain ⟨n1, n2⟩ := neg_not h45
    by_cases h0 : s = []
    · subst h0
      obtain ⟨e1, e2⟩ := bad_form (l := []) fun h => h.1 rfl
      rw [e1, e2]
      exact (rparse_emp_odd w).mono fun _ _ h => rne_zero h
    by_cases hd : s ≠ [] ∧ (∀ c ∈ s, isDig c = true) ∧ ¬ (s.head? = some 48 ∧ s ≠ [48])
    · have hf : formT s := by
        unfold formT
        rw [n1, n2]
        exact ⟨hd.1, hd.2.1, fun h => hd.2.2 ⟨h.1, h.2.resolve_left (by simp)⟩⟩
      by_cases hlong : 200 < s.length
      · obtain ⟨e1, e2⟩ := long_form hf (by rw [n2]; exact hlong)
        rw [e1, e2]
        exact (rparse_pos_long s w hs hd h0 h45 hlong).mono fun _ _ h => rne_zero h
      · have e1 : codeT s = 0 := codeT_of' hf (by rw [n2]; omega)
        have e2 : numT s = (decV s : Int) := by unfold numT; rw [if_pos ⟨hf, by rw [n2]; omega⟩, n1, n2]; rfl
        rw [e1, e2]
        exact rparse_pos_ok s w hs hd h0 h45 (by omega)
    · obtain ⟨e1, e2⟩ := bad_form (l := s) fun h => by
        unfold formT at h
        rw [n1, n2] at h
        exact hd ⟨h.1, h.2.1, fun h2 => h.2.2 ⟨h2.1, .inr h2.2⟩⟩
      rw [e1, e2]
      exact (rparse_pos_odd s w hs hd h0 h45).mono fun _ _ h => rne_zero h
end Go.Proofs.YtefjjhfahebmeaaGreatDoor.Limb
