/-
  limbs.Parse at any text.
-/
import Derived.Test.YtefjjhfahebmeaaGreatDoorRsE
import Derived.Test.YtefjjhfahebmeaaGreatDoorRsF
import Derived.WalkKit
import Derived.ProofKit
import Derived.OpenShut
import Derived.Deep.DeepHandedRow
import Derived.Lib.LaidTab
import Derived.Lay
import Derived.MakeChecks
import Derived.Stop.LaidErr
import Derived.Deep.DeepWitnessRowRef
set_option linter.unusedSimpArgs false
set_option linter.unusedVariables false
namespace Go.Proofs.YtefjjhfahebmeaaGreatDoor.Limb
open Go.RowKit Go.Sort
structure NumR (w : World) (z : Int) (a : Option Addr) (c : Nat) : Prop where
  rd : Rd w a (lenB z.natAbs) (dgi z.natAbs)
  le : lenB z.natAbs ≤ c
theorem NumR.below {w w' : World} {z : Int} {a : Option Addr} {c : Nat} (h : NumR w z a c) (hb : Below w.heap.size w w') : NumR w' z a c := ⟨h.rd.below hb, h.le⟩
abbrev numC (z : Int) (a : Option Addr) (c : Nat) : Value := numV (decide (z < 0)) a (lenB z.natAbs) c
def RetN (w : World) (z : Int) (e : Ending) (w' : World) : Prop := ∃ a c, e = .returned (numC z a c) ∧ NumR w' z a c ∧ Below w.heap.size w w'
theorem ResN.ret {w : World} {z : Int} {e : Ending} {w' : World} (h : ResN w z e w') : RetN w z e w' := by
  obtain ⟨a, rfl, ho, -, hb⟩ := h
  exact ⟨a, _, rfl, ⟨ho.rd, Nat.le_refl _⟩, hb⟩
theorem NumR.of_raw {w : World} {s : Bool} {a : Option Addr} {n c : Nat} {o : Nat → Int} (h : Rd w a n o) (hc : n ≤ c) (hk : okN s n o) : numV s a n c = numC (valN s n o) a c ∧ NumR w (valN s n o) a c ∧ lenB (valN s n o).natAbs = n := by
  obtain ⟨f1, f2, f3⟩ := of_facts s n o hk h.rng
  refine ⟨?_, ⟨?_, by omega⟩, f2⟩
  · show numV s a n c = numV (decide (valN s n o < 0)) a (lenB (valN s n o).natAbs) c
    rw [f1, f2]
  · rw [f2]; exact h.congr f3
theorem addC {w : World} {z1 z2 : Int} {a1 a2 : Option Addr} {c1 c2 : Nat} (h1 : NumR w z1 a1 c1) (b1 : lenB z1.natAbs ≤ 10000000) (h2 : NumR w z2 a2 c2) (b2 : lenB z2.natAbs ≤ 10000000) :
    Calls Tryz.prog 87 #[numC z1 a1 c1, numC z2 a2 c2] w (RetN w (z1 + z2)) := by
  have h := add_res (decide (z1 < 0)) a1 _ c1 _ (decide (z2 < 0)) a2 _ c2 _ w h1.rd (by omega) h1.le h2.rd (by omega) h2.le
  rw [canon_val, canon_val] at h
  exact h.mono fun _ _ h => h.ret
theorem mulC {w : World} {z1 z2 : Int} {a1 a2 : Option Addr} {c1 c2 : Nat} (h1 : NumR w z1 a1 c1) (b1 : lenB z1.natAbs ≤ 10000000) (h2 : NumR w z2 a2 c2) (b2 : lenB z2.natAbs ≤ 10000000) :
    Calls Tryz.prog 24 #[numC z1 a1 c1, numC z2 a2 c2] w (RetN w (z1 * z2)) := by
  have h := mul_any (decide (z1 < 0)) a1 _ c1 _ (decide (z2 < 0)) a2 _ c2 _ w h1.rd (by omega) h1.le h2.rd (by omega) h2.le
  rw [canon_val, canon_val] at h
  exact h.mono fun _ _ h => h.ret
theorem gcdC {w : World} {z1 z2 : Int} {a1 a2 : Option Addr} {c1 c2 : Nat} (h1 : NumR w z1 a1 c1) (b1 : lenB z1.natAbs ≤ 10000000) (h2 : NumR w z2 a2 c2) (b2 : lenB z2.natAbs ≤ 10000000) :
    Calls Tryz.prog 90 #[numC z1 a1 c1, numC z2 a2 c2] w (RetN w ((Int.gcd z1 z2 : Nat) : Int)) := by
  have h := gcd_any (decide (z1 < 0)) a1 _ c1 _ (decide (z2 < 0)) a2 _ c2 _ w h1.rd (by omega) h1.le h2.rd (by omega) h2.le
  rw [canon_val, canon_val] at h
  exact h.mono fun _ _ h => h.ret
theorem ofC (n : Int) (w : World) (h1 : -9223372036854775808 ≤ n) (h2 : n ≤ 9223372036854775807) : Calls Tryz.prog 13 #[.int .i64 n] w (RetN w n) := (of64_any n w h1 h2).mono fun _ _ h => h.ret
open Classical in
theorem checkC {w : World} {z1 : Int} {a1 : Option Addr} {c1 : Nat} (h1 : NumR w z1 a1 c1) (b1 : lenB z1.natAbs ≤ 10000000) :
    Calls Tryz.prog 14 #[numC z1 a1 c1] w fun e w' => e = .returned (.bool true) ∧ Below w.heap.size w w' := by
  have h := check_any (decide (z1 < 0)) a1 _ c1 _ w h1.rd (by omega)
  rw [decide_eq_true (canon_ok z1)] at h
  exact h
theorem textC {w : World} {z1 : Int} {a1 : Option Addr} {c1 : Nat} (h1 : NumR w z1 a1 c1) (b1 : lenB z1.natAbs ≤ 10000000) (ht : Tab w) :
    Calls Tryz.prog 16 #[numC z1 a1 c1] w fun e w' => e = .returned (.string ⟨(Lib.itoa z1).toArray⟩) ∧ Below w.heap.size w w' := by
  have h := text_any (decide (z1 < 0)) a1 _ c1 _ w h1.rd (by omega) h1.le ht
  rw [canon_val] at h
  exact h
def RetD (w : World) (q r : Int) (e : Ending) (w' : World) : Prop := ∃ a c a' c', e = .returned (.tuple #[numC q a c, numC r a' c', .int .i64 0]) ∧ NumR w' q a c ∧ NumR w' r a' c' ∧ Below w.heap.size w w'
theorem divC {w : World} {z1 z2 : Int} {a1 a2 : Option Addr} {c1 c2 : Nat} (h1 : NumR w z1 a1 c1) (b1 : lenB z1.natAbs ≤ 10000000) (h2 : NumR w z2 a2 c2) (b2 : lenB z2.natAbs ≤ 10000000) (hz : z2 ≠ 0) :
    Calls Tryz.prog 25 #[numC z1 a1 c1, numC z2 a2 c2] w (RetD w (z1 / z2) (z1 % z2)) := by
  refine (div_ok z1 z2 a1 a2 c1 c2 w h1.rd b1 h1.le h2.rd b2 h2.le hz).mono ?_
  rintro e w' ⟨a, a', rfl, h3, h4, -, -, -, hb⟩
  exact ⟨a, _, a', _, rfl, ⟨h3.rd, Nat.le_refl _⟩, ⟨h4.rd, Nat.le_refl _⟩, hb⟩
theorem divC0 {w : World} {z1 z2 : Int} {a1 a2 : Option Addr} {c1 c2 : Nat} (h1 : NumR w z1 a1 c1) (b1 : lenB z1.natAbs ≤ 10000000) (h2 : NumR w z2 a2 c2) (b2 : lenB z2.natAbs ≤ 10000000) (hz : z2 = 0) :
    Calls Tryz.prog 25 #[numC z1 a1 c1, numC z2 a2 c2] w fun e w' => e = .returned (.tuple #[numV false none 0 0, numV false none 0 0, .int .i64 6]) ∧ Below w.heap.size w w' :=
  dive_3 (decide (z1 < 0)) a1 _ c1 _ (decide (z2 < 0)) a2 _ c2 _ w h1.rd b1 h2.rd b2 (canon_ok z1) (canon_ok z2) (by rw [hz]; exact lenB_zero)
open Classical in
set_option maxHeartbeats 1000000 in
theorem sameLimbs_dec (a b : Option Addr) (n m ca cb : Nat) (o p : Nat → Int) (w : World) (ha : Rd w a n o) (hb : Rd w b m p) (hn : n ≤ 1000000000) (hm : m ≤ 1000000000) :
    Calls Tryz.prog 26 #[.slice a n ca, .slice b m cb] w fun e w' => e = .returned (.bool (decide (n = m ∧ ∀ i, i < n → o i = p i))) ∧ ∃ m, w' = w.drewN m := by
  have HA := Lib.hid ha; have HB := Lib.hid hb
  clear ha hb
  obtain ⟨d, hd⟩ : ∃ d, d = decide (n = m ∧ ∀ i, i < n → o i = p i) := ⟨_, rfl⟩
  rw [← hd]
  by_cases hnm : n = m
  · subst hnm
    have Y := Lib.hid (fun (h : ∀ i, i < n → o i = p i) => (hd.trans (decide_eq_true ⟨rfl, h⟩) : d = true))
    have Z := Lib.hid (fun (i : Nat) (hi : i < n) (h : o i ≠ p i) => (hd.trans (decide_eq_false (fun h2 => h (h2.2 i hi))) : d = false))
    clear hd
    go_enter Tryz.func26, Tryz.ntmps26
    go_wp2_with fail
    go_loopw [5] (fun i wr => ∃ t : Nat, t ≤ n ∧ i = .int .i64 t ∧ (∀ j, j < t → o j = p j) ∧ ∃ m, wr = w.drewN m) (fun i _ => n - (intOf i).toNat)
    case atStart => exact ⟨0, by omega, rfl, fun j hj => by omega, 0, rfl⟩
    case round =>
      obtain ⟨t, htn, rfl, he, hm⟩ := hrel
      have HM := Lib.hid hm
      have HE := Lib.hid he
      have cw : ∀ p, wr.cell? p = w.cell? p := by obtain ⟨m, rfl⟩ := hm; intro p; rfl
      clear hm he
      by_cases ht : t < n
      · obtain ⟨b1, o1, rfl, hc1⟩ := HA.out.cells (by omega)
        obtain ⟨b2, o2, rfl, hc2⟩ := HB.out.cells (by omega)
        have c1 : wr.cell? ⟨b1, o1 + t, none⟩ = some (.int .u32 (o t)) := (cw _).trans (hc1 t ht)
        have c2 : wr.cell? ⟨b2, o2 + t, none⟩ = some (.int .u32 (p t)) := (cw _).trans (hc2 t ht)
        obtain ⟨x, hx⟩ : ∃ x, x = o t := ⟨_, rfl⟩
        obtain ⟨y, hy⟩ : ∃ y, y = p t := ⟨_, rfl⟩
        rw [← hx] at c1
        rw [← hy] at c2
        have HXY := Lib.hid (And.intro hx hy)
        clear hc1 hc2 cw hx hy
        by_cases hxy : x = y
        · have hq : (x == y) = true := by simpa using hxy
          subst hxy
          go_wp2_with fail
          go_quiet (fail)
          go_wp2_with fail
          go_roundw
          case rel =>
            refine ⟨t + 1, by omega, by go_num, fun j hj => ?_, by obtain ⟨m, e⟩ := HM.out; exact ⟨_, by rw [e, World.drewN_drewN]⟩⟩
            by_cases e : j = t
            · subst e; rw [← HXY.out.1, ← HXY.out.2]
            · exact HE.out j (by omega)
          case measure => simp [intOf]; omega
        · have hq : (x == y) = false := by simpa using hxy
          have E := Lib.hid (Z.out t ht (by rw [← HXY.out.1, ← HXY.out.2]; exact hxy))
          go_wp2_with fail
          go_quiet (fail)
          go_wp2_with fail
          go_ret
          exact ⟨by rw [E.out]; rfl, by obtain ⟨m, e⟩ := HM.out; exact ⟨_, by rw [e, World.drewN_drewN]⟩⟩
      · obtain rfl : t = n := by omega
        have E := Lib.hid (Y.out HE.out)
        clear cw
        go_wp2_with fail
        go_ret
        exact ⟨by rw [E.out]; rfl, HM.out⟩
  · have hq : ¬ (n : Int) = (m : Int) := by omega
    rw [hd, decide_eq_false (fun h => hnm h.1)]
    clear hd
    go_enter Tryz.func26, Tryz.ntmps26
    go_wp2_with fail
    go_ret
    exact ⟨rfl, 0, rfl⟩
open Classical in
set_option maxHeartbeats 1000000 in
theorem sameC {w : World} {z1 z2 : Int} {a1 a2 : Option Addr} {c1 c2 : Nat} (h1 : NumR w z1 a1 c1) (b1 : lenB z1.natAbs ≤ 10000000) (h2 : NumR w z2 a2 c2) (b2 : lenB z2.natAbs ≤ 10000000) :
    Calls Tryz.prog 18 #[numC z1 a1 c1, numC z2 a2 c2] w fun e w' => e = .returned (.bool (decide (z1 = z2))) ∧ Below w.heap.size w w' := by
  have HC := Lib.hid (fun (w' : World) (h : Below w.heap.size w w') => sameLimbs_dec a1 a2 _ _ c1 c2 _ _ w' (h1.rd.below h) (h2.rd.below h) (by omega) (by omega))
  have HD := Lib.hid (show (decide (z1 < 0) == decide (z2 < 0) && decide (lenB z1.natAbs = lenB z2.natAbs ∧ ∀ i, i < lenB z1.natAbs → dgi z1.natAbs i = dgi z2.natAbs i)) = decide (z1 = z2) by
    by_cases h : z1 = z2
    · subst h; simp
    · rw [decide_eq_false h]
      by_cases hs : decide (z1 < 0) = decide (z2 < 0)
      · rw [hs, beq_self_eq_true, Bool.true_and]
        refine decide_eq_false fun h3 => h ?_
        have h4 := canon_val z1
        have h5 := canon_val z2
        rw [← h4, ← h5, hs, h3.1]
        unfold valN
        have e : sumB (dgi z1.natAbs) (lenB z2.natAbs) = sumB (dgi z2.natAbs) (lenB z2.natAbs) := sumB_congr fun i hi => h3.2 i (by rw [h3.1]; exact hi)
        have k1 : okN (decide (z2 < 0)) (lenB z2.natAbs) (dgi z1.natAbs) := by have := canon_ok z1; rw [hs, h3.1] at this; exact this
        rw [if_pos k1, if_pos (canon_ok z2), e]
      · have : (decide (z1 < 0) == decide (z2 < 0)) = false := by simpa using hs
        rw [this, Bool.false_and])
  obtain ⟨s1, hs1⟩ : ∃ s1, s1 = decide (z1 < 0) := ⟨_, rfl⟩
  obtain ⟨s2, hs2⟩ : ∃ s2, s2 = decide (z2 < 0) := ⟨_, rfl⟩
  obtain ⟨t, ht⟩ : ∃ t, t = decide (lenB z1.natAbs = lenB z2.natAbs ∧ ∀ i, i < lenB z1.natAbs → dgi z1.natAbs i = dgi z2.natAbs i) := ⟨_, rfl⟩
  rw [← hs1, ← hs2, ← ht] at HD
  rw [← ht] at HC
  show Calls Tryz.prog 18 #[numV (decide (z1 < 0)) a1 (lenB z1.natAbs) c1, numV (decide (z2 < 0)) a2 (lenB z2.natAbs) c2] w _
  rw [← hs1, ← hs2, ← HD.out]
  clear h1 h2 hs1 hs2 ht HD
  generalize lenB z1.natAbs = n1 at *
  generalize lenB z2.natAbs = n2 at *
  by_cases hs : s1 = s2
  · have hq : (s1 == s2) = true := by simpa using hs
    rw [hq, Bool.true_and]
    go_enter Tryz.func18, Tryz.ntmps18
    go_wp2_with fail
    refine (HC.out _ ?_).mono ?_
    · (repeat' (first | (with_reducible exact Below.refl _ _) | (with_reducible assumption) | (with_reducible refine Below.alloc ?_ ?_ _) | (with_reducible refine Below.drew ?_) | (with_reducible refine bdrewN ?_ _) | (with_reducible refine Below.setCell ?_ ?_ _) | (with_reducible refine Below.frame ?_ _) | go_size))
    rintro e w1 ⟨rfl, m, rfl⟩
    go_wp2_with fail
    go_ret
    exact ⟨rfl, by (repeat' (first | (with_reducible exact Below.refl _ _) | (with_reducible assumption) | (with_reducible refine Below.alloc ?_ ?_ _) | (with_reducible refine Below.drew ?_) | (with_reducible refine bdrewN ?_ _) | (with_reducible refine Below.setCell ?_ ?_ _) | (with_reducible refine Below.frame ?_ _) | go_size))⟩
  · have hq : (s1 == s2) = false := by simpa using hs
    rw [hq, Bool.false_and]
    go_enter Tryz.func18, Tryz.ntmps18
    go_wp2_with fail
    go_ret
    exact ⟨rfl, by (repeat' (first | (with_reducible exact Below.refl _ _) | (with_reducible assumption) | (with_reducible refine Below.alloc ?_ ?_ _) | (with_reducible refine Below.drew ?_) | (with_reducible refine bdrewN ?_ _) | (with_reducible refine Below.setCell ?_ ?_ _) | (with_reducible refine Below.frame ?_ _) | go_size))⟩
set_option maxRecDepth 100000 in
set_option maxHeartbeats 1000000 in
theorem wholeC {w : World} {z : Int} {a : Option Addr} {c : Nat} (h : NumR w z a c) (h1 : -9223372036854775808 ≤ z) (h2 : z ≤ 9223372036854775807) :
    Calls Tryz.prog 89 #[numC z a c] w fun e w' => e = .returned (.int .i64 z) ∧ Below w.heap.size w w' := by
  have HB1 := Lib.hid (Bx.new w 24 (.bool (decide (z < 0))) (.slice a (lenB z.natAbs) c))
  obtain ⟨W, hW⟩ : ∃ W, W = w.alloc (.cells #[.bool (decide (z < 0)), .slice a (lenB z.natAbs) c] 24) := ⟨_, rfl⟩
  have KG := Lib.hid (show Below w.heap.size w W by rw [hW]; exact (Below.refl _ _).alloc (Nat.le_refl _) _)
  rw [← hW] at HB1
  have HW := Lib.hid hW
  have BK := Lib.hid (back_ok z a c W (h.rd.below KG.out) h.le h1 h2)
  clear hW h h1 h2
  go_enter Tryz.func89, Tryz.ntmps89
  go_upto_region 1 with (fail)
  rw [show w.alloc (.cells #[.bool (decide (z < 0)), .slice a (lenB z.natAbs) c] 24) = W from HW.out.symm]
  clear HW
  obtain ⟨x0, x1, x2, x3⟩ := HB1.out.all
  go_wp2_with fail
  with_reducible refine BK.out.mono ?_
  rintro e w1 ⟨rfl, hb⟩
  have KG := Lib.hid (KG.out.trans (hb.mono KG.out.size))
  clear hb BK x0 x1 x2 x3
  go_wp2_with fail
  go_ret
  exact ⟨rfl, KG.out⟩
theorem len64 {z : Int} (h1 : -9223372036854775808 ≤ z) (h2 : z ≤ 9223372036854775807) : lenB z.natAbs ≤ 10000000 := Nat.le_trans (len3 (by omega)) (by omega)
set_option maxRecDepth 100000 in
set_option maxHeartbeats 2000000 in
theorem divsC (m n q r : Int) (w : World) (hm1 : -9223372036854775808 ≤ m) (hm2 : m ≤ 9223372036854775807) (hn1 : -9223372036854775808 ≤ n) (hn2 : n ≤ 9223372036854775807) (hn : n ≠ 0) (hq : m / n = q) (hr : m % n = r) (hq1 : -9223372036854775808 ≤ q) (hq2 : q ≤ 9223372036854775807) (hr1 : -9223372036854775808 ≤ r) (hr2 : r ≤ 9223372036854775807) :
    Calls Tryz.prog 88 #[.int .i64 m, .int .i64 n, .int .i64 q, .int .i64 r] w fun e w' => e = .returned (.bool true) ∧ Below w.heap.size w w' := by
  have O1 := Lib.hid (fun (w' : World) => ofC m w' hm1 hm2)
  have O2 := Lib.hid (fun (w' : World) => ofC n w' hn1 hn2)
  have LM := Lib.hid (len64 hm1 hm2)
  have LN := Lib.hid (len64 hn1 hn2)
  have HN := Lib.hid hn
  have HQR := Lib.hid (And.intro hq hr)
  have HQB := Lib.hid (And.intro (And.intro hq1 hq2) (And.intro hr1 hr2))
  have hqq : (q == q) = true := by simp
  have hrr : (r == r) = true := by simp
  clear hm1 hm2 hn1 hn2 hn hq hr hq1 hq2 hr1 hr2
  go_enter Tryz.func88, Tryz.ntmps88
  go_wp2_with fail
  with_reducible refine (O1.out _).mono ?_
  rintro e w1 ⟨a1, c1, rfl, h1, hb⟩
  have H1 := Lib.hid h1
  have KG := Lib.hid hb
  clear h1 hb O1
  go_wp2_with fail
  with_reducible refine (O2.out _).mono ?_
  rintro e w2 ⟨a2, c2, rfl, h2, hb⟩
  have H1 := Lib.hid (H1.out.below hb)
  have H2 := Lib.hid h2
  have KG := Lib.hid (KG.out.trans (hb.mono KG.out.size))
  clear h2 hb O2
  have DV := Lib.hid (divC H1.out LM.out H2.out LN.out HN.out)
  rw [HQR.out.1, HQR.out.2] at DV
  go_wp2_with fail
  with_reducible refine DV.out.mono ?_
  rintro e w3 ⟨aq, cq, ar, cr, rfl, hq, hr, hb⟩
  clear DV
  go_upto_region 2 with (fail)
  obtain ⟨V, hV⟩ : ∃ V, V = (w3.alloc (.cells #[.bool (decide (q < 0)), .slice aq (lenB q.natAbs) cq] 24)).alloc (.cells #[.bool (decide (r < 0)), .slice ar (lenB r.natAbs) cr] 24) := ⟨_, rfl⟩
  have hbV : Below w3.heap.size w3 V := by rw [hV]; exact ((Below.refl _ _).alloc (Nat.le_refl _) _).alloc (by go_size) _
  have HB1 := Lib.hid (show Bx V w3.heap.size 24 (.bool (decide (q < 0))) (.slice aq (lenB q.natAbs) cq) by rw [hV]; exact (Bx.new w3 _ _ _).alloc _)
  have HB2 := Lib.hid (show Bx V (w3.heap.size + 1) 24 (.bool (decide (r < 0))) (.slice ar (lenB r.natAbs) cr) by rw [hV]; exact Bx.new2 w3 _ _ _ _)
  have HQ := Lib.hid (hq.below hbV)
  have HR := Lib.hid (hr.below hbV)
  have KG := Lib.hid ((KG.out.trans (hb.mono KG.out.size)).trans (hbV.mono (Nat.le_trans KG.out.size hb.size)))
  rw [show (w3.alloc (.cells #[.bool (decide (q < 0)), .slice aq (lenB q.natAbs) cq] 24)).alloc (.cells #[.bool (decide (r < 0)), .slice ar (lenB r.natAbs) cr] 24) = V from hV.symm]
  obtain ⟨b, hb0⟩ : ∃ b, b = w3.heap.size := ⟨_, rfl⟩
  rw [← hb0] at HB1 HB2 ⊢
  clear hV hbV hb0 hq hr hb H1 H2
  have WQ := Lib.hid (wholeC HQ.out HQB.out.1.1 HQB.out.1.2)
  have WR := Lib.hid (fun (w' : World) (hb : Below V.heap.size V w') => wholeC (HR.out.below hb) HQB.out.2.1 HQB.out.2.2)
  obtain ⟨x0, x1, x2, x3⟩ := HB1.out.all
  go_wp2_with fail
  with_reducible refine WQ.out.mono ?_
  rintro e w4 ⟨rfl, hb⟩
  have WR := Lib.hid (WR.out w4 hb)
  have HB2 := Lib.hid (HB2.out.below hb HB2.out.lt)
  have KG := Lib.hid (KG.out.trans (hb.mono KG.out.size))
  clear hb WQ x0 x1 x2 x3 HB1
  obtain ⟨x0, x1, x2, x3⟩ := HB2.out.all
  go_wp2_with fail
  with_reducible refine WR.out.mono ?_
  rintro e w5 ⟨rfl, hb⟩
  have KG := Lib.hid (KG.out.trans (hb.mono KG.out.size))
  clear hb WR x0 x1 x2 x3 HB2
  go_wp2_with fail
  go_ret
  exact ⟨rfl, KG.out⟩
end Go.Proofs.YtefjjhfahebmeaaGreatDoor.Limb
namespace Go.Proofs.YtefjjhfahebmeaaGreatDoor.Limb
open Go.RowKit Go.Sort Go.Fresh
theorem lit_one (s : Bool) (x : Int) (h : 0 < x ∧ x < 1000000000) : okN s 1 (fun _ => x) ∧ valN s 1 (fun _ => x) = if s = true then -x else x := by
  have hk : okN s 1 (fun _ => x) := ⟨fun i hi => h.2, fun h => by omega, fun _ => by show x ≠ 0; omega⟩
  refine ⟨hk, ?_⟩
  unfold valN
  rw [if_pos hk, show sumB (fun _ => x) 1 = 0 + x * ((pw 0 : Nat) : Int) from rfl, pw_zero]
  simp
theorem lit_two (s : Bool) (x y : Int) (hx : 0 ≤ x ∧ x < 1000000000) (hy : 0 < y ∧ y < 1000000000) : okN s 2 (fun i => if i = 0 then x else y) ∧ valN s 2 (fun i => if i = 0 then x else y) = if s = true then -(x + y * 1000000000) else x + y * 1000000000 := by
  have hk : okN s 2 (fun i => if i = 0 then x else y) := ⟨fun i hi => by show (if i = 0 then x else y) < _; split <;> omega, fun h => by omega, fun _ => by show (if (2 - 1 : Nat) = 0 then x else y) ≠ 0; rw [if_neg (by omega)]; omega⟩
  refine ⟨hk, ?_⟩
  unfold valN
  rw [if_pos hk, show sumB (fun i => if i = 0 then x else y) 2 = 0 + x * ((pw 0 : Nat) : Int) + y * ((pw 1 : Nat) : Int) from rfl, pw_succ, pw_zero]
  simp
theorem rd_one (w : World) (x : Int) (h : 0 ≤ x ∧ x ≤ 4294967295) : Rd (w.alloc (.cells #[.int .u32 x] 54)) (some ⟨w.heap.size, 0, none⟩) 1 (fun _ => x) :=
  ⟨fun _ => ⟨w.heap.size, 0, rfl, fun i hi => by
    obtain rfl : i = 0 := by omega
    rw [cell_of_row _ _ _ _ _ _ (heap_alloc_new w (.cells #[.int .u32 x] 54))]; rfl⟩, fun i _ => h⟩
theorem rd_two (w : World) (x y : Int) (hx : 0 ≤ x ∧ x ≤ 4294967295) (hy : 0 ≤ y ∧ y ≤ 4294967295) : Rd (w.alloc (.cells #[.int .u32 x, .int .u32 y] 54)) (some ⟨w.heap.size, 0, none⟩) 2 (fun i => if i = 0 then x else y) :=
  ⟨fun _ => ⟨w.heap.size, 0, rfl, fun i hi => by
    rw [cell_of_row _ _ _ _ _ _ (heap_alloc_new w (.cells #[.int .u32 x, .int .u32 y] 54))]
    match i, hi with
    | 0, _ => rfl
    | 1, _ => rfl⟩, fun i _ => by show 0 ≤ (if i = 0 then x else y) ∧ _; split <;> omega⟩
theorem hand_one (w : World) (s : Bool) (x z : Int) (h : 0 < x ∧ x < 1000000000) (hz : z = if s = true then -x else x) : numV s (some ⟨w.heap.size, 0, none⟩) 1 1 = numC z (some ⟨w.heap.size, 0, none⟩) 1 ∧ NumR (w.alloc (.cells #[.int .u32 x] 54)) z (some ⟨w.heap.size, 0, none⟩) 1 := by
  obtain ⟨k, v⟩ := lit_one s x h
  have := NumR.of_raw (rd_one w x (by omega)) (Nat.le_refl 1) k
  rw [v, ← hz] at this
  exact ⟨this.1, this.2.1⟩
theorem itoa_lit : Lib.itoa (-1000000000) = [45, 49, 48, 48, 48, 48, 48, 48, 48, 48, 48] := by
  rw [show (-1000000000 : Int) = -((1000000000 : Nat) : Int) from rfl, Lib.itoa_neg _ (by omega)]
  iterate 9 rw [decD_big (by decide)]
  rw [Lib.decDigits_one (by decide)]
  rfl
theorem decV_lit : decV [49, 48, 48, 48, 48, 48, 48, 48, 48, 48] = 1000000000 := by decide
theorem len_lit {z : Int} (h : z.natAbs < 1000000000000000000) : lenB z.natAbs ≤ 10000000 := Nat.le_trans (lenB_le (n := 2) (Nat.lt_of_lt_of_eq h (by rw [pw_succ, pw_succ, pw_zero]))) (by omega)
theorem hand2 {w : World} {a : Option Addr} (s : Bool) (x y z : Int) (hr : Rd w a 2 (fun i => if i = 0 then x else y)) (hx : 0 ≤ x ∧ x < 1000000000) (hy : 0 < y ∧ y < 1000000000) (hz : z = if s = true then -(x + y * 1000000000) else x + y * 1000000000) : numV s a 2 2 = numC z a 2 ∧ NumR w z a 2 := by
  obtain ⟨k, v⟩ := lit_two s x y hx hy
  have := NumR.of_raw hr (Nat.le_refl 2) k
  rw [v, ← hz] at this
  exact ⟨this.1, this.2.1⟩
theorem numR_of {w : World} {z : Int} {x : Option Addr × Nat} (h : ∃ y : Option Addr × Nat, numC z x.1 x.2 = numC z y.1 y.2 ∧ NumR w z y.1 y.2) : NumR w z x.1 x.2 := by
  obtain ⟨y, e, h⟩ := h
  simp only [Value.agg.injEq, Array.mk.injEq, List.cons.injEq, Value.slice.injEq, true_and, and_true] at e
  rw [e.1, e.2]
  exact h
theorem rdB_of {w : World} {n b : Nat} {o : Nat → Int} (h : ∃ x : Nat, Value.slice (some ⟨b, 0, none⟩) n n = Value.slice (some ⟨x, 0, none⟩) n n ∧ Rd w (some ⟨x, 0, none⟩) n o) : Rd w (some ⟨b, 0, none⟩) n o := by
  obtain ⟨x, e, h⟩ := h
  cases e
  exact h
theorem rdV_of {w : World} {s : Bool} {n b : Nat} {o : Nat → Int} (h : ∃ x : Nat, numV s (some ⟨b, 0, none⟩) n n = numV s (some ⟨x, 0, none⟩) n n ∧ Rd w (some ⟨x, 0, none⟩) n o) : Rd w (some ⟨b, 0, none⟩) n o := by
  obtain ⟨x, e, h⟩ := h
  cases e
  exact h
theorem sameT {w : World} {z1 z2 : Int} {a1 a2 : Option Addr} {c1 c2 : Nat} (h1 : NumR w z1 a1 c1) (b1 : lenB z1.natAbs ≤ 10000000) (h2 : NumR w z2 a2 c2) (b2 : lenB z2.natAbs ≤ 10000000) (e : z1 = z2) :
    Calls Tryz.prog 18 #[numC z1 a1 c1, numC z2 a2 c2] w fun e w' => e = .returned (.bool true) ∧ Below w.heap.size w w' := by
  have h := sameC h1 b1 h2 b2
  rw [decide_eq_true e] at h
  exact h
open Classical in
set_option maxRecDepth 100000 in
set_option maxHeartbeats 8000000 in
theorem alive_true (w : World) (htab : Tab w) : Calls Tryz.prog 23 #[] w fun e w' => e = .returned (.bool true) ∧ Below w.heap.size w w' := by
  have HTAB := Lib.hid htab
  have KG := Lib.hid (Below.refl w.heap.size w)
  obtain ⟨n1, hn1⟩ : ∃ z : Int, z = 1 := ⟨_, rfl⟩
  have On1 := Lib.hid (show ∀ w', Calls Tryz.prog 13 #[.int .i64 1] w' (RetN w' n1) from fun w' => by rw [hn1]; exact ofC 1 w' (by decide) (by decide))
  have Hn1 := Lib.hid hn1
  have Bn1 := Lib.hid (show lenB n1.natAbs ≤ 10000000 from len_lit (by rw [hn1]; decide))
  clear hn1
  obtain ⟨n0, hn0⟩ : ∃ z : Int, z = 0 := ⟨_, rfl⟩
  have On0 := Lib.hid (show ∀ w', Calls Tryz.prog 13 #[.int .i64 0] w' (RetN w' n0) from fun w' => by rw [hn0]; exact ofC 0 w' (by decide) (by decide))
  have Hn0 := Lib.hid hn0
  have Bn0 := Lib.hid (show lenB n0.natAbs ≤ 10000000 from len_lit (by rw [hn0]; decide))
  clear hn0
  obtain ⟨n12, hn12⟩ : ∃ z : Int, z = 12 := ⟨_, rfl⟩
  have On12 := Lib.hid (show ∀ w', Calls Tryz.prog 13 #[.int .i64 12] w' (RetN w' n12) from fun w' => by rw [hn12]; exact ofC 12 w' (by decide) (by decide))
  have Hn12 := Lib.hid hn12
  have Bn12 := Lib.hid (show lenB n12.natAbs ≤ 10000000 from len_lit (by rw [hn12]; decide))
  clear hn12
  obtain ⟨n18, hn18⟩ : ∃ z : Int, z = (-18) := ⟨_, rfl⟩
  have On18 := Lib.hid (show ∀ w', Calls Tryz.prog 13 #[.int .i64 (-18)] w' (RetN w' n18) from fun w' => by rw [hn18]; exact ofC (-18) w' (by decide) (by decide))
  have Hn18 := Lib.hid hn18
  have Bn18 := Lib.hid (show lenB n18.natAbs ≤ 10000000 from len_lit (by rw [hn18]; decide))
  clear hn18
  obtain ⟨n5, hn5⟩ : ∃ z : Int, z = (-5) := ⟨_, rfl⟩
  have On5 := Lib.hid (show ∀ w', Calls Tryz.prog 13 #[.int .i64 (-5)] w' (RetN w' n5) from fun w' => by rw [hn5]; exact ofC (-5) w' (by decide) (by decide))
  have Hn5 := Lib.hid hn5
  have Bn5 := Lib.hid (show lenB n5.natAbs ≤ 10000000 from len_lit (by rw [hn5]; decide))
  clear hn5
  obtain ⟨z9, hz9⟩ : ∃ z : Int, z = 999999999 := ⟨_, rfl⟩
  have Hz9 := Lib.hid hz9
  have Bz9 := Lib.hid (show lenB z9.natAbs ≤ 10000000 from len_lit (by rw [hz9]; decide))
  clear hz9
  obtain ⟨zp, hzp⟩ : ∃ z : Int, z = -1000000000 := ⟨_, rfl⟩
  have Hzp := Lib.hid hzp
  have Bzp := Lib.hid (show lenB zp.natAbs ≤ 10000000 from len_lit (by rw [hzp]; decide))
  clear hzp
  obtain ⟨zs, hzs⟩ : ∃ z : Int, z = 1000000000 := ⟨_, rfl⟩
  have Hzs := Lib.hid hzs
  have Bzs := Lib.hid (show lenB zs.natAbs ≤ 10000000 from len_lit (by rw [hzs]; decide))
  clear hzs
  obtain ⟨zm, hzm⟩ : ∃ z : Int, z = 999999998000000001 := ⟨_, rfl⟩
  have Hzm := Lib.hid hzm
  have Bzm := Lib.hid (show lenB zm.natAbs ≤ 10000000 from len_lit (by rw [hzm]; decide))
  clear hzm
  obtain ⟨g6, hg6⟩ : ∃ z : Int, z = 6 := ⟨_, rfl⟩
  have Hg6 := Lib.hid hg6
  have Bg6 := Lib.hid (show lenB g6.natAbs ≤ 10000000 from len_lit (by rw [hg6]; decide))
  clear hg6
  obtain ⟨g5, hg5⟩ : ∃ z : Int, z = 5 := ⟨_, rfl⟩
  have Hg5 := Lib.hid hg5
  have Bg5 := Lib.hid (show lenB g5.natAbs ≤ 10000000 from len_lit (by rw [hg5]; decide))
  clear hg5
  clear htab
  go_enter Tryz.func23, Tryz.ntmps23
  go_upto_region 2 with (fail)
  obtain ⟨v1, hV⟩ : ∃ V, V = (w.alloc (.cells #[.int .u32 999999999] 54)).alloc (.cells #[.bool false, .slice (some ⟨w.heap.size, 0, none⟩) 1 1] 24) := ⟨_, rfl⟩
  have hbV : Below w.heap.size w v1 := by rw [hV]; exact (((Below.refl _ _).alloc (Nat.le_refl _) _).alloc (by go_size) _)
  have R9 := Lib.hid (show NumR v1 z9 (some ⟨w.heap.size, 0, none⟩) 1 by rw [hV]; exact (hand_one w false 999999999 z9 (by decide) (by rw [Hz9.out]; rfl)).2.below ((Below.refl _ _).alloc (Nat.le_refl _) _))
  have BX9 := Lib.hid (show Bx v1 (w.heap.size + 1) 24 (.bool false) (.slice (some ⟨w.heap.size, 0, none⟩) 1 1) by rw [hV]; exact Bx.new2 w _ _ _ _)
  rw [show (w.alloc (.cells #[.int .u32 999999999] 54)).alloc (.cells #[.bool false, .slice (some ⟨w.heap.size, 0, none⟩) 1 1] 24) = v1 from hV.symm]
  have KG := Lib.hid (KG.out.trans (hbV.mono KG.out.size))
  clear hV hbV
  have E9 := Lib.hid (hand_one w false 999999999 z9 (by decide) (by rw [Hz9.out]; rfl)).1
  go_wp2_with fail
  have CT := Lib.hid (On1.out v1)
  with_reducible refine CT.out.mono ?_
  rintro e w2 ⟨a1, c1, rfl, h1, hb⟩
  have R1 := Lib.hid h1
  clear h1
  clear CT
  have R9 := Lib.hid (R9.out.below hb)
  have BX9 := Lib.hid (BX9.out.below hb BX9.out.lt)
  have KG := Lib.hid (KG.out.trans (hb.mono KG.out.size))
  clear hb
  go_wp2_with fail
  have CT := Lib.hid (On0.out w2)
  with_reducible refine CT.out.mono ?_
  rintro e w3 ⟨a0, c0, rfl, h0, hb⟩
  have R0 := Lib.hid h0
  clear h0
  clear CT
  have R9 := Lib.hid (R9.out.below hb)
  have R1 := Lib.hid (R1.out.below hb)
  have BX9 := Lib.hid (BX9.out.below hb BX9.out.lt)
  have KG := Lib.hid (KG.out.trans (hb.mono KG.out.size))
  clear hb
  go_wp2_with fail
  have CT := Lib.hid (divC0 R1.out Bn1.out R0.out Bn0.out Hn0.out)
  with_reducible refine CT.out.mono ?_
  rintro e w4 ⟨rfl, hb⟩
  clear CT
  have R9 := Lib.hid (R9.out.below hb)
  have R1 := Lib.hid (R1.out.below hb)
  have R0 := Lib.hid (R0.out.below hb)
  have BX9 := Lib.hid (BX9.out.below hb BX9.out.lt)
  have KG := Lib.hid (KG.out.trans (hb.mono KG.out.size))
  clear hb
  clear R1 R0
  go_upto_region 3 with (fail)
  obtain ⟨v5, hV⟩ : ∃ V, V = (w4.alloc (.cells #[.bool false, .slice none 0 0] 24)).alloc (.cells #[.bool false, .slice none 0 0] 24) := ⟨_, rfl⟩
  have hbV : Below w4.heap.size w4 v5 := by rw [hV]; exact (((Below.refl _ _).alloc (Nat.le_refl _) _).alloc (by go_size) _)
  rw [show (w4.alloc (.cells #[.bool false, .slice none 0 0] 24)).alloc (.cells #[.bool false, .slice none 0 0] 24) = v5 from hV.symm]
  have R9 := Lib.hid (R9.out.below hbV)
  have BX9 := Lib.hid (BX9.out.below hbV BX9.out.lt)
  have KG := Lib.hid (KG.out.trans (hbV.mono KG.out.size))
  clear hV hbV
  go_wp2_with fail
  have CT := Lib.hid (parse_ok ⟨#[45, 49, 48, 48, 48, 48, 48, 48, 48, 48, 48]⟩ [49, 48, 48, 48, 48, 48, 48, 48, 48, 48] true v5 zp rfl rfl (by decide) (by decide) (by decide) (by decide) (Or.inl (by decide)) (by rw [Hzp.out, decV_lit]; rfl))
  with_reducible refine CT.out.mono ?_
  rintro e w7 ⟨ap, rfl, hp, hb⟩
  have hq : NumR w7 zp ap (lenB zp.natAbs) := ⟨hp.rd, Nat.le_refl _⟩
  clear hp
  have RP := Lib.hid hq
  clear hq
  clear CT
  have R9 := Lib.hid (R9.out.below hb)
  have BX9 := Lib.hid (BX9.out.below hb BX9.out.lt)
  have KG := Lib.hid (KG.out.trans (hb.mono KG.out.size))
  clear hb
  go_upto_region 4 with (fail)
  obtain ⟨v8, hV⟩ : ∃ V, V = w7.alloc (.cells #[.bool (decide (zp < 0)), .slice ap (lenB zp.natAbs) (lenB zp.natAbs)] 24) := ⟨_, rfl⟩
  have hbV : Below w7.heap.size w7 v8 := by rw [hV]; exact ((Below.refl _ _).alloc (Nat.le_refl _) _)
  have BXP := Lib.hid (show Bx v8 (w7.heap.size) 24 (.bool (decide (zp < 0))) (.slice ap (lenB zp.natAbs) (lenB zp.natAbs)) by rw [hV]; exact Bx.new w7 _ _ _)
  rw [show w7.alloc (.cells #[.bool (decide (zp < 0)), .slice ap (lenB zp.natAbs) (lenB zp.natAbs)] 24) = v8 from hV.symm]
  have R9 := Lib.hid (R9.out.below hbV)
  have RP := Lib.hid (RP.out.below hbV)
  have BX9 := Lib.hid (BX9.out.below hbV BX9.out.lt)
  have KG := Lib.hid (KG.out.trans (hbV.mono KG.out.size))
  clear hV hbV
  go_wp2_with fail
  have CT := Lib.hid (parse_nought ⟨#[45, 48]⟩ [48] [] true v8 rfl rfl (by decide) rfl (by decide) (Or.inl rfl))
  with_reducible refine CT.out.mono ?_
  rintro e w9 ⟨rfl, hb⟩
  clear CT
  have R9 := Lib.hid (R9.out.below hb)
  have RP := Lib.hid (RP.out.below hb)
  have BX9 := Lib.hid (BX9.out.below hb BX9.out.lt)
  have BXP := Lib.hid (BXP.out.below hb BXP.out.lt)
  have KG := Lib.hid (KG.out.trans (hb.mono KG.out.size))
  clear hb
  go_upto_region 5 with (fail)
  obtain ⟨v10, hV⟩ : ∃ V, V = w9.alloc (.cells #[.bool false, .slice none 0 0] 24) := ⟨_, rfl⟩
  have hbV : Below w9.heap.size w9 v10 := by rw [hV]; exact ((Below.refl _ _).alloc (Nat.le_refl _) _)
  rw [show w9.alloc (.cells #[.bool false, .slice none 0 0] 24) = v10 from hV.symm]
  have R9 := Lib.hid (R9.out.below hbV)
  have RP := Lib.hid (RP.out.below hbV)
  have BX9 := Lib.hid (BX9.out.below hbV BX9.out.lt)
  have BXP := Lib.hid (BXP.out.below hbV BXP.out.lt)
  have KG := Lib.hid (KG.out.trans (hbV.mono KG.out.size))
  clear hV hbV
  go_wp2_with fail
  have CT := Lib.hid (parse_nought ⟨#[48, 48, 55]⟩ [48, 48, 55] [48, 55] false v10 rfl rfl (by decide) rfl (by decide) (Or.inr (by decide)))
  with_reducible refine CT.out.mono ?_
  rintro e w11 ⟨rfl, hb⟩
  clear CT
  have R9 := Lib.hid (R9.out.below hb)
  have RP := Lib.hid (RP.out.below hb)
  have BX9 := Lib.hid (BX9.out.below hb BX9.out.lt)
  have BXP := Lib.hid (BXP.out.below hb BXP.out.lt)
  have KG := Lib.hid (KG.out.trans (hb.mono KG.out.size))
  clear hb
  go_upto_region 6 with (fail)
  obtain ⟨v12, hV⟩ : ∃ V, V = w11.alloc (.cells #[.bool false, .slice none 0 0] 24) := ⟨_, rfl⟩
  have hbV : Below w11.heap.size w11 v12 := by rw [hV]; exact ((Below.refl _ _).alloc (Nat.le_refl _) _)
  rw [show w11.alloc (.cells #[.bool false, .slice none 0 0] 24) = v12 from hV.symm]
  have R9 := Lib.hid (R9.out.below hbV)
  have RP := Lib.hid (RP.out.below hbV)
  have BX9 := Lib.hid (BX9.out.below hbV BX9.out.lt)
  have BXP := Lib.hid (BXP.out.below hbV BXP.out.lt)
  have KG := Lib.hid (KG.out.trans (hbV.mono KG.out.size))
  clear hV hbV
  have HIT := Lib.hid (show Lib.itoa zp = [45, 49, 48, 48, 48, 48, 48, 48, 48, 48, 48] by rw [Hzp.out]; exact itoa_lit)
  have HS := Lib.hid (show z9 + n1 = zs by rw [Hz9.out, Hn1.out, Hzs.out]; rfl)
  have HM := Lib.hid (show z9 * z9 = zm by rw [Hz9.out, Hzm.out]; rfl)
  have Hg6E := Lib.hid (show ((Int.gcd n12 n18 : Nat) : Int) = g6 by rw [Hn12.out, Hn18.out, Hg6.out]; rfl)
  have Hg5E := Lib.hid (show ((Int.gcd n0 n5 : Nat) : Int) = g5 by rw [Hn0.out, Hn5.out, Hg5.out]; rfl)
  refine wp_region_fresh 78 (spOf [(16, Sp.made (fun b : Nat => .slice (some ⟨b, 0, none⟩) 2 2) (fun b w' => Rd w' (some ⟨b, 0, none⟩) 2 (fun i => if i = 0 then (0 : Int) else 1))), (17, Sp.made (fun b : Nat => numV true (some ⟨b, 0, none⟩) 2 2) (fun b w' => Rd w' (some ⟨b, 0, none⟩) 2 (fun i => if i = 0 then (0 : Int) else 1))), (18, Sp.know (.bool true)), (22, Sp.know (.string ⟨#[45, 49, 48, 48, 48, 48, 48, 48, 48, 48, 48]⟩)), (27, Sp.made (fun x : Option Addr × Nat => numC n1 x.1 x.2) (fun x w' => NumR w' n1 x.1 x.2)), (28, Sp.made (fun x : Option Addr × Nat => numC zs x.1 x.2) (fun x w' => NumR w' zs x.1 x.2)), (29, Sp.made (fun b : Nat => .slice (some ⟨b, 0, none⟩) 2 2) (fun b w' => Rd w' (some ⟨b, 0, none⟩) 2 (fun i => if i = 0 then (0 : Int) else 1))), (30, Sp.made (fun b : Nat => numV false (some ⟨b, 0, none⟩) 2 2) (fun b w' => Rd w' (some ⟨b, 0, none⟩) 2 (fun i => if i = 0 then (0 : Int) else 1))), (31, Sp.know (.bool true)), (36, Sp.made (fun x : Option Addr × Nat => numC zm x.1 x.2) (fun x w' => NumR w' zm x.1 x.2)), (37, Sp.made (fun b : Nat => .slice (some ⟨b, 0, none⟩) 2 2) (fun b w' => Rd w' (some ⟨b, 0, none⟩) 2 (fun i => if i = 0 then (1 : Int) else 999999998))), (38, Sp.made (fun b : Nat => numV false (some ⟨b, 0, none⟩) 2 2) (fun b w' => Rd w' (some ⟨b, 0, none⟩) 2 (fun i => if i = 0 then (1 : Int) else 999999998))), (39, Sp.know (.bool true)), (42, Sp.know (.bool true)), (45, Sp.know (.bool true)), (48, Sp.know (.bool true)), (51, Sp.know (.bool true)), (54, Sp.made (fun x : Option Addr × Nat => numC n12 x.1 x.2) (fun x w' => NumR w' n12 x.1 x.2)), (55, Sp.made (fun x : Option Addr × Nat => numC n18 x.1 x.2) (fun x w' => NumR w' n18 x.1 x.2)), (56, Sp.made (fun x : Option Addr × Nat => numC g6 x.1 x.2) (fun x w' => NumR w' g6 x.1 x.2)), (57, Sp.know (.int .i64 6)), (61, Sp.made (fun x : Option Addr × Nat => numC n0 x.1 x.2) (fun x w' => NumR w' n0 x.1 x.2)), (62, Sp.made (fun x : Option Addr × Nat => numC n5 x.1 x.2) (fun x w' => NumR w' n5 x.1 x.2)), (63, Sp.made (fun x : Option Addr × Nat => numC g5 x.1 x.2) (fun x w' => NumR w' g5 x.1 x.2)), (64, Sp.know (.int .i64 5)), (68, Sp.made (fun b : Nat => .slice (some ⟨b, 0, none⟩) 1 1) (fun b w' => Rd w' (some ⟨b, 0, none⟩) 1 (fun _ => (1000000000 : Int)))), (69, Sp.made (fun b : Nat => numV false (some ⟨b, 0, none⟩) 1 1) (fun b w' => Rd w' (some ⟨b, 0, none⟩) 1 (fun _ => (1000000000 : Int)))), (70, Sp.know (.bool false)), (75, Sp.know (.bool false))])
    (fun w' => Below v12.heap.size v12 w') (by kernel_rfl) (by kernel_rfl)
    (spOf_cons (Sp.made_keeps fun x w w' h hb => h.below hb) (spOf_cons (Sp.made_keeps fun x w w' h hb => h.below hb) (spOf_cons (Sp.know_keeps _) (spOf_cons (Sp.know_keeps _) (spOf_cons (Sp.made_keeps fun x w w' h hb => h.below hb) (spOf_cons (Sp.made_keeps fun x w w' h hb => h.below hb) (spOf_cons (Sp.made_keeps fun x w w' h hb => h.below hb) (spOf_cons (Sp.made_keeps fun x w w' h hb => h.below hb) (spOf_cons (Sp.know_keeps _) (spOf_cons (Sp.made_keeps fun x w w' h hb => h.below hb) (spOf_cons (Sp.made_keeps fun x w w' h hb => h.below hb) (spOf_cons (Sp.made_keeps fun x w w' h hb => h.below hb) (spOf_cons (Sp.know_keeps _) (spOf_cons (Sp.know_keeps _) (spOf_cons (Sp.know_keeps _) (spOf_cons (Sp.know_keeps _) (spOf_cons (Sp.know_keeps _) (spOf_cons (Sp.made_keeps fun x w w' h hb => h.below hb) (spOf_cons (Sp.made_keeps fun x w w' h hb => h.below hb) (spOf_cons (Sp.made_keeps fun x w w' h hb => h.below hb) (spOf_cons (Sp.know_keeps _) (spOf_cons (Sp.made_keeps fun x w w' h hb => h.below hb) (spOf_cons (Sp.made_keeps fun x w w' h hb => h.below hb) (spOf_cons (Sp.made_keeps fun x w w' h hb => h.below hb) (spOf_cons (Sp.know_keeps _) (spOf_cons (Sp.made_keeps fun x w w' h hb => h.below hb) (spOf_cons (Sp.made_keeps fun x w w' h hb => h.below hb) (spOf_cons (Sp.know_keeps _) (spOf_cons (Sp.know_keeps _) (spOf_nil)))))))))))))))))))))))))))))) (fun _ _ h hb => h.trans (hb.mono h.size)) ((Below.refl _ _).drew) ?_
  simp only [List.append_eq, List.cons_append, List.nil_append, List.take_succ_cons, List.take_zero, List.drop_succ_cons, List.drop_zero]
  refine wpF_reads rfl rfl ?_ (fun w' hw' => ?_) ?_
  rotate_left
  · have hb' := hw'.world
    skip
    clear hw'
    go_simp
    try rfl
  conv => arg 9; simp only [Act.put, List.setIfInBounds_toArray, List.set_cons_succ, List.set_cons_zero]
  refine wpF_reads rfl rfl ?_ (fun w' hw' => ?_) ?_
  rotate_left
  · have hb' := hw'.world
    skip
    clear hw'
    go_simp
    try rfl
  conv => arg 9; simp only [Act.put, List.setIfInBounds_toArray, List.set_cons_succ, List.set_cons_zero]
  refine wpF_reads rfl rfl ?_ (fun w' hw' => ?_) ?_
  rotate_left
  · have hb' := hw'.world
    skip
    clear hw'
    go_simp
    try rfl
  conv => arg 9; simp only [Act.put, List.setIfInBounds_toArray, List.set_cons_succ, List.set_cons_zero]
  refine wpF_readsG (by rfl) rfl ?_ (fun w' hw' => ?_) ?_
  rotate_left
  · have hb' := hw'.world
    skip
    clear hw'
    go_simp
    try rfl
  conv => arg 9; simp only [Act.put, List.setIfInBounds_toArray, List.set_cons_succ, List.set_cons_zero]
  refine wpF_readsG (by rfl) rfl ?_ (fun w' hw' => ?_) ?_
  rotate_left
  · have hb' := hw'.world
    skip
    clear hw'
    go_simp
    try rfl
  conv => arg 9; simp only [Act.put, List.setIfInBounds_toArray, List.set_cons_succ, List.set_cons_zero]
  refine wpF_reads rfl rfl ?_ (fun w' hw' => ?_) ?_
  rotate_left
  · have hb' := hw'.world
    skip
    clear hw'
    go_simp
    try rfl
  conv => arg 9; simp only [Act.put, List.setIfInBounds_toArray, List.set_cons_succ, List.set_cons_zero]
  refine wpF_reads rfl rfl ?_ (fun w' hw' => ?_) ?_
  rotate_left
  · have hb' := hw'.world
    skip
    clear hw'
    go_simp
    try rfl
  conv => arg 9; simp only [Act.put, List.setIfInBounds_toArray, List.set_cons_succ, List.set_cons_zero]
  refine wpF_readsG (by rfl) rfl ?_ (fun w' hw' => ?_) ?_
  rotate_left
  · have hb' := hw'.world
    skip
    clear hw'
    go_simp
    try rfl
  conv => arg 9; simp only [Act.put, List.setIfInBounds_toArray, List.set_cons_succ, List.set_cons_zero]
  refine wpF_readsG (by rfl) rfl ?_ (fun w' hw' => ?_) ?_
  rotate_left
  · have hb' := hw'.world
    skip
    clear hw'
    go_simp
    try rfl
  conv => arg 9; simp only [Act.put, List.setIfInBounds_toArray, List.set_cons_succ, List.set_cons_zero]
  refine wpF_reads rfl rfl ?_ (fun w' hw' => ?_) ?_
  rotate_left
  · have hb' := hw'.world
    skip
    clear hw'
    go_simp
    try rfl
  conv => arg 9; simp only [Act.put, List.setIfInBounds_toArray, List.set_cons_succ, List.set_cons_zero]
  refine wpF_reads rfl rfl ?_ (fun w' hw' => ?_) ?_
  rotate_left
  · have hb' := hw'.world
    skip
    clear hw'
    go_simp
    try rfl
  conv => arg 9; simp only [Act.put, List.setIfInBounds_toArray, List.set_cons_succ, List.set_cons_zero]
  refine wpF_readsG (by rfl) rfl ?_ (fun w' hw' => ?_) ?_
  rotate_left
  · have hb' := hw'.world
    skip
    clear hw'
    go_simp
    try rfl
  conv => arg 9; simp only [Act.put, List.setIfInBounds_toArray, List.set_cons_succ, List.set_cons_zero]
  refine wpF_readsG (by rfl) rfl ?_ (fun w' hw' => ?_) ?_
  rotate_left
  · have hb' := hw'.world
    skip
    clear hw'
    go_simp
    try rfl
  conv => arg 9; simp only [Act.put, List.setIfInBounds_toArray, List.set_cons_succ, List.set_cons_zero]
  refine wpF_reads rfl rfl ?_ (fun w' hw' => ?_) ?_
  rotate_left
  · have hb' := hw'.world
    skip
    clear hw'
    go_simp
    try rfl
  conv => arg 9; simp only [Act.put, List.setIfInBounds_toArray, List.set_cons_succ, List.set_cons_zero]
  refine wpF_reads rfl rfl ?_ (fun w' hw' => ?_) ?_
  rotate_left
  · have hb' := hw'.world
    skip
    clear hw'
    go_simp
    try rfl
  conv => arg 9; simp only [Act.put, List.setIfInBounds_toArray, List.set_cons_succ, List.set_cons_zero]
  refine wpF_readsG (by rfl) rfl ?_ (fun w' hw' => ?_) ?_
  rotate_left
  · have hb' := hw'.world
    obtain ⟨k0, k1, k2, k3⟩ := (BXP.out.below hb' BXP.out.lt).all
    clear hw'
    go_simp
    try rfl
  conv => arg 9; simp only [Act.put, List.setIfInBounds_toArray, List.set_cons_succ, List.set_cons_zero]
  refine wpF_specG (by rfl) rfl (fun w' hw' => ?_) ?_
  · have hb' := hw'.world
    go_simp
    first | exact ⟨⟨⟨w'.heap.size, rfl⟩, ⟨w'.heap.size, rfl, rd_two w' 0 1 (by decide) (by decide)⟩⟩, (Below.refl _ _).alloc (Nat.le_refl _) _⟩ | exact ⟨rd_two w' 0 1 (by decide) (by decide), (Below.refl _ _).alloc (Nat.le_refl _) _⟩
  rintro _ ⟨y16, rfl⟩
  conv => arg 9; simp only [Act.put, List.setIfInBounds_toArray, List.set_cons_succ, List.set_cons_zero]
  refine wpF_specG (by rfl) rfl (fun w' hw' => ?_) ?_
  · have hb' := hw'.world
    go_simp
    have f16 := rdB_of (b := y16) (n := 2) (o := fun i => if i = 0 then (0 : Int) else 1) (hw'.fact 16 (by kernel_rfl))
    first | exact ⟨⟨⟨y16, rfl⟩, ⟨y16, rfl, f16⟩⟩, Below.refl _ _⟩ | exact ⟨f16, Below.refl _ _⟩
  rintro _ ⟨y17, rfl⟩
  conv => arg 9; simp only [Act.put, List.setIfInBounds_toArray, List.set_cons_succ, List.set_cons_zero]
  refine wpF_specG (by rfl) rfl (fun w' hw' => ?_) ?_
  · have hb' := hw'.world
    go_simp
    have f17 := rdV_of (s := true) (b := y17) (n := 2) (o := fun i => if i = 0 then (0 : Int) else 1) (hw'.fact 17 (by kernel_rfl))
    obtain ⟨e1, e2⟩ := hand2 true 0 1 zp f17 (by decide) (by decide) (by rw [Hzp.out]; rfl)
    have CT := sameT (RP.out.below hb') Bzp.out e2 Bzp.out rfl
    rw [← e1] at CT
    refine CT.mono ?_
    rintro e w'' ⟨rfl, hb⟩
    exact ⟨_, rfl, rfl, hb⟩
  rintro _ rfl
  conv => arg 9; simp only [Act.put, List.setIfInBounds_toArray, List.set_cons_succ, List.set_cons_zero]
  refine wpF_reads rfl rfl ?_ (fun w' hw' => ?_) ?_
  rotate_left
  · have hb' := hw'.world
    skip
    clear hw'
    go_simp
    try rfl
  conv => arg 9; simp only [Act.put, List.setIfInBounds_toArray, List.set_cons_succ, List.set_cons_zero]
  refine wpF_reads rfl rfl ?_ (fun w' hw' => ?_) ?_
  rotate_left
  · have hb' := hw'.world
    skip
    clear hw'
    go_simp
    try rfl
  conv => arg 9; simp only [Act.put, List.setIfInBounds_toArray, List.set_cons_succ, List.set_cons_zero]
  refine wpF_readsG (by rfl) rfl ?_ (fun w' hw' => ?_) ?_
  rotate_left
  · have hb' := hw'.world
    obtain ⟨k0, k1, k2, k3⟩ := (BXP.out.below hb' BXP.out.lt).all
    clear hw'
    go_simp
    try rfl
  conv => arg 9; simp only [Act.put, List.setIfInBounds_toArray, List.set_cons_succ, List.set_cons_zero]
  refine wpF_specG (by rfl) rfl (fun w' hw' => ?_) ?_
  · have hb' := hw'.world
    go_simp
    have CT := textC (RP.out.below hb') Bzp.out (HTAB.out.on (KG.out.trans (hb'.mono KG.out.size)))
    rw [HIT.out] at CT
    refine CT.mono ?_
    rintro e w'' ⟨rfl, hb⟩
    exact ⟨_, rfl, rfl, hb⟩
  rintro _ rfl
  conv => arg 9; simp only [Act.put, List.setIfInBounds_toArray, List.set_cons_succ, List.set_cons_zero]
  refine wpF_readsG (by rfl) rfl ?_ (fun w' hw' => ?_) ?_
  rotate_left
  · have hb' := hw'.world
    skip
    clear hw'
    go_simp
    try rfl
  conv => arg 9; simp only [Act.put, List.setIfInBounds_toArray, List.set_cons_succ, List.set_cons_zero]
  refine wpF_reads rfl rfl ?_ (fun w' hw' => ?_) ?_
  rotate_left
  · have hb' := hw'.world
    skip
    clear hw'
    go_simp
    try rfl
  conv => arg 9; simp only [Act.put, List.setIfInBounds_toArray, List.set_cons_succ, List.set_cons_zero]
  refine wpF_reads rfl rfl ?_ (fun w' hw' => ?_) ?_
  rotate_left
  · have hb' := hw'.world
    skip
    clear hw'
    go_simp
    try rfl
  conv => arg 9; simp only [Act.put, List.setIfInBounds_toArray, List.set_cons_succ, List.set_cons_zero]
  refine wpF_readsG (by rfl) rfl ?_ (fun w' hw' => ?_) ?_
  rotate_left
  · have hb' := hw'.world
    obtain ⟨k0, k1, k2, k3⟩ := (BX9.out.below hb' BX9.out.lt).all
    clear hw'
    go_simp
    try rfl
  conv => arg 9; simp only [Act.put, List.setIfInBounds_toArray, List.set_cons_succ, List.set_cons_zero]
  refine wpF_specG (by rfl) rfl (fun w' hw' => ?_) ?_
  · have hb' := hw'.world
    go_simp
    have CT := On1.out w'
    refine CT.mono ?_
    rintro e w'' ⟨za, zb, rfl, ho, hb⟩
    exact ⟨_, rfl, ⟨⟨za, zb, rfl⟩, ⟨za, zb, rfl, ho⟩⟩, hb⟩
  rintro _ ⟨y27, rfl⟩
  conv => arg 9; simp only [Act.put, List.setIfInBounds_toArray, List.set_cons_succ, List.set_cons_zero]
  refine wpF_specG (by rfl) rfl (fun w' hw' => ?_) ?_
  · have hb' := hw'.world
    go_simp
    have f27 := numR_of (x := y27) (z := n1) (hw'.fact 27 (by kernel_rfl))
    have CT := addC (R9.out.below hb') Bz9.out f27 Bn1.out
    rw [HS.out, ← E9.out] at CT
    refine CT.mono ?_
    rintro e w'' ⟨za, zb, rfl, ho, hb⟩
    exact ⟨_, rfl, ⟨⟨za, zb, rfl⟩, ⟨za, zb, rfl, ho⟩⟩, hb⟩
  rintro _ ⟨y28, rfl⟩
  conv => arg 9; simp only [Act.put, List.setIfInBounds_toArray, List.set_cons_succ, List.set_cons_zero]
  refine wpF_specG (by rfl) rfl (fun w' hw' => ?_) ?_
  · have hb' := hw'.world
    go_simp
    first | exact ⟨⟨⟨w'.heap.size, rfl⟩, ⟨w'.heap.size, rfl, rd_two w' 0 1 (by decide) (by decide)⟩⟩, (Below.refl _ _).alloc (Nat.le_refl _) _⟩ | exact ⟨rd_two w' 0 1 (by decide) (by decide), (Below.refl _ _).alloc (Nat.le_refl _) _⟩
  rintro _ ⟨y29, rfl⟩
  conv => arg 9; simp only [Act.put, List.setIfInBounds_toArray, List.set_cons_succ, List.set_cons_zero]
  refine wpF_specG (by rfl) rfl (fun w' hw' => ?_) ?_
  · have hb' := hw'.world
    go_simp
    have f29 := rdB_of (b := y29) (n := 2) (o := fun i => if i = 0 then (0 : Int) else 1) (hw'.fact 29 (by kernel_rfl))
    first | exact ⟨⟨⟨y29, rfl⟩, ⟨y29, rfl, f29⟩⟩, Below.refl _ _⟩ | exact ⟨f29, Below.refl _ _⟩
  rintro _ ⟨y30, rfl⟩
  conv => arg 9; simp only [Act.put, List.setIfInBounds_toArray, List.set_cons_succ, List.set_cons_zero]
  refine wpF_specG (by rfl) rfl (fun w' hw' => ?_) ?_
  · have hb' := hw'.world
    go_simp
    have f28 := numR_of (x := y28) (z := zs) (hw'.fact 28 (by kernel_rfl))
    have f30 := rdV_of (s := false) (b := y30) (n := 2) (o := fun i => if i = 0 then (0 : Int) else 1) (hw'.fact 30 (by kernel_rfl))
    obtain ⟨e1, e2⟩ := hand2 false 0 1 zs f30 (by decide) (by decide) (by rw [Hzs.out]; rfl)
    have CT := sameT f28 Bzs.out e2 Bzs.out rfl
    rw [← e1] at CT
    refine CT.mono ?_
    rintro e w'' ⟨rfl, hb⟩
    exact ⟨_, rfl, rfl, hb⟩
  rintro _ rfl
  conv => arg 9; simp only [Act.put, List.setIfInBounds_toArray, List.set_cons_succ, List.set_cons_zero]
  refine wpF_reads rfl rfl ?_ (fun w' hw' => ?_) ?_
  rotate_left
  · have hb' := hw'.world
    skip
    clear hw'
    go_simp
    try rfl
  conv => arg 9; simp only [Act.put, List.setIfInBounds_toArray, List.set_cons_succ, List.set_cons_zero]
  refine wpF_reads rfl rfl ?_ (fun w' hw' => ?_) ?_
  rotate_left
  · have hb' := hw'.world
    skip
    clear hw'
    go_simp
    try rfl
  conv => arg 9; simp only [Act.put, List.setIfInBounds_toArray, List.set_cons_succ, List.set_cons_zero]
  refine wpF_readsG (by rfl) rfl ?_ (fun w' hw' => ?_) ?_
  rotate_left
  · have hb' := hw'.world
    obtain ⟨k0, k1, k2, k3⟩ := (BX9.out.below hb' BX9.out.lt).all
    clear hw'
    go_simp
    try rfl
  conv => arg 9; simp only [Act.put, List.setIfInBounds_toArray, List.set_cons_succ, List.set_cons_zero]
  refine wpF_readsG (by rfl) rfl ?_ (fun w' hw' => ?_) ?_
  rotate_left
  · have hb' := hw'.world
    obtain ⟨k0, k1, k2, k3⟩ := (BX9.out.below hb' BX9.out.lt).all
    clear hw'
    go_simp
    try rfl
  conv => arg 9; simp only [Act.put, List.setIfInBounds_toArray, List.set_cons_succ, List.set_cons_zero]
  refine wpF_specG (by rfl) rfl (fun w' hw' => ?_) ?_
  · have hb' := hw'.world
    go_simp
    have CT := mulC (R9.out.below hb') Bz9.out (R9.out.below hb') Bz9.out
    rw [HM.out, ← E9.out] at CT
    refine CT.mono ?_
    rintro e w'' ⟨za, zb, rfl, ho, hb⟩
    exact ⟨_, rfl, ⟨⟨za, zb, rfl⟩, ⟨za, zb, rfl, ho⟩⟩, hb⟩
  rintro _ ⟨y36, rfl⟩
  conv => arg 9; simp only [Act.put, List.setIfInBounds_toArray, List.set_cons_succ, List.set_cons_zero]
  refine wpF_specG (by rfl) rfl (fun w' hw' => ?_) ?_
  · have hb' := hw'.world
    go_simp
    first | exact ⟨⟨⟨w'.heap.size, rfl⟩, ⟨w'.heap.size, rfl, rd_two w' 1 999999998 (by decide) (by decide)⟩⟩, (Below.refl _ _).alloc (Nat.le_refl _) _⟩ | exact ⟨rd_two w' 1 999999998 (by decide) (by decide), (Below.refl _ _).alloc (Nat.le_refl _) _⟩
  rintro _ ⟨y37, rfl⟩
  conv => arg 9; simp only [Act.put, List.setIfInBounds_toArray, List.set_cons_succ, List.set_cons_zero]
  refine wpF_specG (by rfl) rfl (fun w' hw' => ?_) ?_
  · have hb' := hw'.world
    go_simp
    have f37 := rdB_of (b := y37) (n := 2) (o := fun i => if i = 0 then (1 : Int) else 999999998) (hw'.fact 37 (by kernel_rfl))
    first | exact ⟨⟨⟨y37, rfl⟩, ⟨y37, rfl, f37⟩⟩, Below.refl _ _⟩ | exact ⟨f37, Below.refl _ _⟩
  rintro _ ⟨y38, rfl⟩
  conv => arg 9; simp only [Act.put, List.setIfInBounds_toArray, List.set_cons_succ, List.set_cons_zero]
  refine wpF_specG (by rfl) rfl (fun w' hw' => ?_) ?_
  · have hb' := hw'.world
    go_simp
    have f36 := numR_of (x := y36) (z := zm) (hw'.fact 36 (by kernel_rfl))
    have f38 := rdV_of (s := false) (b := y38) (n := 2) (o := fun i => if i = 0 then (1 : Int) else 999999998) (hw'.fact 38 (by kernel_rfl))
    obtain ⟨e1, e2⟩ := hand2 false 1 999999998 zm f38 (by decide) (by decide) (by rw [Hzm.out]; rfl)
    have CT := sameT f36 Bzm.out e2 Bzm.out rfl
    rw [← e1] at CT
    refine CT.mono ?_
    rintro e w'' ⟨rfl, hb⟩
    exact ⟨_, rfl, rfl, hb⟩
  rintro _ rfl
  conv => arg 9; simp only [Act.put, List.setIfInBounds_toArray, List.set_cons_succ, List.set_cons_zero]
  refine wpF_reads rfl rfl ?_ (fun w' hw' => ?_) ?_
  rotate_left
  · have hb' := hw'.world
    skip
    clear hw'
    go_simp
    try rfl
  conv => arg 9; simp only [Act.put, List.setIfInBounds_toArray, List.set_cons_succ, List.set_cons_zero]
  refine wpF_reads rfl rfl ?_ (fun w' hw' => ?_) ?_
  rotate_left
  · have hb' := hw'.world
    skip
    clear hw'
    go_simp
    try rfl
  conv => arg 9; simp only [Act.put, List.setIfInBounds_toArray, List.set_cons_succ, List.set_cons_zero]
  refine wpF_specG (by rfl) rfl (fun w' hw' => ?_) ?_
  · have hb' := hw'.world
    go_simp
    have CT := divsC 7 2 3 1 w' (by decide) (by decide) (by decide) (by decide) (by decide) (by decide) (by decide) (by decide) (by decide) (by decide) (by decide)
    refine CT.mono ?_
    rintro e w'' ⟨rfl, hb⟩
    exact ⟨_, rfl, rfl, hb⟩
  rintro _ rfl
  conv => arg 9; simp only [Act.put, List.setIfInBounds_toArray, List.set_cons_succ, List.set_cons_zero]
  refine wpF_reads rfl rfl ?_ (fun w' hw' => ?_) ?_
  rotate_left
  · have hb' := hw'.world
    skip
    clear hw'
    go_simp
    try rfl
  conv => arg 9; simp only [Act.put, List.setIfInBounds_toArray, List.set_cons_succ, List.set_cons_zero]
  refine wpF_reads rfl rfl ?_ (fun w' hw' => ?_) ?_
  rotate_left
  · have hb' := hw'.world
    skip
    clear hw'
    go_simp
    try rfl
  conv => arg 9; simp only [Act.put, List.setIfInBounds_toArray, List.set_cons_succ, List.set_cons_zero]
  refine wpF_specG (by rfl) rfl (fun w' hw' => ?_) ?_
  · have hb' := hw'.world
    go_simp
    have CT := divsC (-7) 2 (-4) 1 w' (by decide) (by decide) (by decide) (by decide) (by decide) (by decide) (by decide) (by decide) (by decide) (by decide) (by decide)
    refine CT.mono ?_
    rintro e w'' ⟨rfl, hb⟩
    exact ⟨_, rfl, rfl, hb⟩
  rintro _ rfl
  conv => arg 9; simp only [Act.put, List.setIfInBounds_toArray, List.set_cons_succ, List.set_cons_zero]
  refine wpF_reads rfl rfl ?_ (fun w' hw' => ?_) ?_
  rotate_left
  · have hb' := hw'.world
    skip
    clear hw'
    go_simp
    try rfl
  conv => arg 9; simp only [Act.put, List.setIfInBounds_toArray, List.set_cons_succ, List.set_cons_zero]
  refine wpF_reads rfl rfl ?_ (fun w' hw' => ?_) ?_
  rotate_left
  · have hb' := hw'.world
    skip
    clear hw'
    go_simp
    try rfl
  conv => arg 9; simp only [Act.put, List.setIfInBounds_toArray, List.set_cons_succ, List.set_cons_zero]
  refine wpF_specG (by rfl) rfl (fun w' hw' => ?_) ?_
  · have hb' := hw'.world
    go_simp
    have CT := divsC 7 (-2) (-3) 1 w' (by decide) (by decide) (by decide) (by decide) (by decide) (by decide) (by decide) (by decide) (by decide) (by decide) (by decide)
    refine CT.mono ?_
    rintro e w'' ⟨rfl, hb⟩
    exact ⟨_, rfl, rfl, hb⟩
  rintro _ rfl
  conv => arg 9; simp only [Act.put, List.setIfInBounds_toArray, List.set_cons_succ, List.set_cons_zero]
  refine wpF_reads rfl rfl ?_ (fun w' hw' => ?_) ?_
  rotate_left
  · have hb' := hw'.world
    skip
    clear hw'
    go_simp
    try rfl
  conv => arg 9; simp only [Act.put, List.setIfInBounds_toArray, List.set_cons_succ, List.set_cons_zero]
  refine wpF_reads rfl rfl ?_ (fun w' hw' => ?_) ?_
  rotate_left
  · have hb' := hw'.world
    skip
    clear hw'
    go_simp
    try rfl
  conv => arg 9; simp only [Act.put, List.setIfInBounds_toArray, List.set_cons_succ, List.set_cons_zero]
  refine wpF_specG (by rfl) rfl (fun w' hw' => ?_) ?_
  · have hb' := hw'.world
    go_simp
    have CT := divsC (-7) (-2) 4 1 w' (by decide) (by decide) (by decide) (by decide) (by decide) (by decide) (by decide) (by decide) (by decide) (by decide) (by decide)
    refine CT.mono ?_
    rintro e w'' ⟨rfl, hb⟩
    exact ⟨_, rfl, rfl, hb⟩
  rintro _ rfl
  conv => arg 9; simp only [Act.put, List.setIfInBounds_toArray, List.set_cons_succ, List.set_cons_zero]
  refine wpF_reads rfl rfl ?_ (fun w' hw' => ?_) ?_
  rotate_left
  · have hb' := hw'.world
    skip
    clear hw'
    go_simp
    try rfl
  conv => arg 9; simp only [Act.put, List.setIfInBounds_toArray, List.set_cons_succ, List.set_cons_zero]
  refine wpF_reads rfl rfl ?_ (fun w' hw' => ?_) ?_
  rotate_left
  · have hb' := hw'.world
    skip
    clear hw'
    go_simp
    try rfl
  conv => arg 9; simp only [Act.put, List.setIfInBounds_toArray, List.set_cons_succ, List.set_cons_zero]
  refine wpF_specG (by rfl) rfl (fun w' hw' => ?_) ?_
  · have hb' := hw'.world
    go_simp
    have CT := On12.out w'
    refine CT.mono ?_
    rintro e w'' ⟨za, zb, rfl, ho, hb⟩
    exact ⟨_, rfl, ⟨⟨za, zb, rfl⟩, ⟨za, zb, rfl, ho⟩⟩, hb⟩
  rintro _ ⟨y54, rfl⟩
  conv => arg 9; simp only [Act.put, List.setIfInBounds_toArray, List.set_cons_succ, List.set_cons_zero]
  refine wpF_specG (by rfl) rfl (fun w' hw' => ?_) ?_
  · have hb' := hw'.world
    go_simp
    have CT := On18.out w'
    refine CT.mono ?_
    rintro e w'' ⟨za, zb, rfl, ho, hb⟩
    exact ⟨_, rfl, ⟨⟨za, zb, rfl⟩, ⟨za, zb, rfl, ho⟩⟩, hb⟩
  rintro _ ⟨y55, rfl⟩
  conv => arg 9; simp only [Act.put, List.setIfInBounds_toArray, List.set_cons_succ, List.set_cons_zero]
  refine wpF_specG (by rfl) rfl (fun w' hw' => ?_) ?_
  · have hb' := hw'.world
    go_simp
    have f54 := numR_of (x := y54) (z := n12) (hw'.fact 54 (by kernel_rfl))
    have f55 := numR_of (x := y55) (z := n18) (hw'.fact 55 (by kernel_rfl))
    have CT := gcdC f54 Bn12.out f55 Bn18.out
    rw [Hg6E.out] at CT
    refine CT.mono ?_
    rintro e w'' ⟨za, zb, rfl, ho, hb⟩
    exact ⟨_, rfl, ⟨⟨za, zb, rfl⟩, ⟨za, zb, rfl, ho⟩⟩, hb⟩
  rintro _ ⟨y56, rfl⟩
  conv => arg 9; simp only [Act.put, List.setIfInBounds_toArray, List.set_cons_succ, List.set_cons_zero]
  refine wpF_specG (by rfl) rfl (fun w' hw' => ?_) ?_
  · have hb' := hw'.world
    go_simp
    have f56 := numR_of (x := y56) (z := g6) (hw'.fact 56 (by kernel_rfl))
    have CT := (wholeC f56 (by rw [Hg6.out]; decide) (by rw [Hg6.out]; decide)).mono (R' := fun e w'' => e = .returned (.int .i64 6) ∧ Below w'.heap.size w' w'') (fun e w'' h => ⟨h.1.trans (by rw [Hg6.out]), h.2⟩)
    refine CT.mono ?_
    rintro e w'' ⟨rfl, hb⟩
    exact ⟨_, rfl, rfl, hb⟩
  rintro _ rfl
  conv => arg 9; simp only [Act.put, List.setIfInBounds_toArray, List.set_cons_succ, List.set_cons_zero]
  refine wpF_readsG (by rfl) rfl ?_ (fun w' hw' => ?_) ?_
  rotate_left
  · have hb' := hw'.world
    skip
    clear hw'
    go_simp
    try rfl
  conv => arg 9; simp only [Act.put, List.setIfInBounds_toArray, List.set_cons_succ, List.set_cons_zero]
  refine wpF_reads rfl rfl ?_ (fun w' hw' => ?_) ?_
  rotate_left
  · have hb' := hw'.world
    skip
    clear hw'
    go_simp
    try rfl
  conv => arg 9; simp only [Act.put, List.setIfInBounds_toArray, List.set_cons_succ, List.set_cons_zero]
  refine wpF_reads rfl rfl ?_ (fun w' hw' => ?_) ?_
  rotate_left
  · have hb' := hw'.world
    skip
    clear hw'
    go_simp
    try rfl
  conv => arg 9; simp only [Act.put, List.setIfInBounds_toArray, List.set_cons_succ, List.set_cons_zero]
  refine wpF_specG (by rfl) rfl (fun w' hw' => ?_) ?_
  · have hb' := hw'.world
    go_simp
    have CT := On0.out w'
    refine CT.mono ?_
    rintro e w'' ⟨za, zb, rfl, ho, hb⟩
    exact ⟨_, rfl, ⟨⟨za, zb, rfl⟩, ⟨za, zb, rfl, ho⟩⟩, hb⟩
  rintro _ ⟨y61, rfl⟩
  conv => arg 9; simp only [Act.put, List.setIfInBounds_toArray, List.set_cons_succ, List.set_cons_zero]
  refine wpF_specG (by rfl) rfl (fun w' hw' => ?_) ?_
  · have hb' := hw'.world
    go_simp
    have CT := On5.out w'
    refine CT.mono ?_
    rintro e w'' ⟨za, zb, rfl, ho, hb⟩
    exact ⟨_, rfl, ⟨⟨za, zb, rfl⟩, ⟨za, zb, rfl, ho⟩⟩, hb⟩
  rintro _ ⟨y62, rfl⟩
  conv => arg 9; simp only [Act.put, List.setIfInBounds_toArray, List.set_cons_succ, List.set_cons_zero]
  refine wpF_specG (by rfl) rfl (fun w' hw' => ?_) ?_
  · have hb' := hw'.world
    go_simp
    have f61 := numR_of (x := y61) (z := n0) (hw'.fact 61 (by kernel_rfl))
    have f62 := numR_of (x := y62) (z := n5) (hw'.fact 62 (by kernel_rfl))
    have CT := gcdC f61 Bn0.out f62 Bn5.out
    rw [Hg5E.out] at CT
    refine CT.mono ?_
    rintro e w'' ⟨za, zb, rfl, ho, hb⟩
    exact ⟨_, rfl, ⟨⟨za, zb, rfl⟩, ⟨za, zb, rfl, ho⟩⟩, hb⟩
  rintro _ ⟨y63, rfl⟩
  conv => arg 9; simp only [Act.put, List.setIfInBounds_toArray, List.set_cons_succ, List.set_cons_zero]
  refine wpF_specG (by rfl) rfl (fun w' hw' => ?_) ?_
  · have hb' := hw'.world
    go_simp
    have f63 := numR_of (x := y63) (z := g5) (hw'.fact 63 (by kernel_rfl))
    have CT := (wholeC f63 (by rw [Hg5.out]; decide) (by rw [Hg5.out]; decide)).mono (R' := fun e w'' => e = .returned (.int .i64 5) ∧ Below w'.heap.size w' w'') (fun e w'' h => ⟨h.1.trans (by rw [Hg5.out]), h.2⟩)
    refine CT.mono ?_
    rintro e w'' ⟨rfl, hb⟩
    exact ⟨_, rfl, rfl, hb⟩
  rintro _ rfl
  conv => arg 9; simp only [Act.put, List.setIfInBounds_toArray, List.set_cons_succ, List.set_cons_zero]
  refine wpF_readsG (by rfl) rfl ?_ (fun w' hw' => ?_) ?_
  rotate_left
  · have hb' := hw'.world
    skip
    clear hw'
    go_simp
    try rfl
  conv => arg 9; simp only [Act.put, List.setIfInBounds_toArray, List.set_cons_succ, List.set_cons_zero]
  refine wpF_reads rfl rfl ?_ (fun w' hw' => ?_) ?_
  rotate_left
  · have hb' := hw'.world
    skip
    clear hw'
    go_simp
    try rfl
  conv => arg 9; simp only [Act.put, List.setIfInBounds_toArray, List.set_cons_succ, List.set_cons_zero]
  refine wpF_reads rfl rfl ?_ (fun w' hw' => ?_) ?_
  rotate_left
  · have hb' := hw'.world
    skip
    clear hw'
    go_simp
    try rfl
  conv => arg 9; simp only [Act.put, List.setIfInBounds_toArray, List.set_cons_succ, List.set_cons_zero]
  refine wpF_specG (by rfl) rfl (fun w' hw' => ?_) ?_
  · have hb' := hw'.world
    go_simp
    first | exact ⟨⟨⟨w'.heap.size, rfl⟩, ⟨w'.heap.size, rfl, rd_one w' 1000000000 (by decide)⟩⟩, (Below.refl _ _).alloc (Nat.le_refl _) _⟩ | exact ⟨rd_one w' 1000000000 (by decide), (Below.refl _ _).alloc (Nat.le_refl _) _⟩
  rintro _ ⟨y68, rfl⟩
  conv => arg 9; simp only [Act.put, List.setIfInBounds_toArray, List.set_cons_succ, List.set_cons_zero]
  refine wpF_specG (by rfl) rfl (fun w' hw' => ?_) ?_
  · have hb' := hw'.world
    go_simp
    have f68 := rdB_of (b := y68) (n := 1) (o := fun _ => (1000000000 : Int)) (hw'.fact 68 (by kernel_rfl))
    first | exact ⟨⟨⟨y68, rfl⟩, ⟨y68, rfl, f68⟩⟩, Below.refl _ _⟩ | exact ⟨f68, Below.refl _ _⟩
  rintro _ ⟨y69, rfl⟩
  conv => arg 9; simp only [Act.put, List.setIfInBounds_toArray, List.set_cons_succ, List.set_cons_zero]
  refine wpF_specG (by rfl) rfl (fun w' hw' => ?_) ?_
  · have hb' := hw'.world
    go_simp
    have f69 := rdV_of (s := false) (b := y69) (n := 1) (o := fun _ => (1000000000 : Int)) (hw'.fact 69 (by kernel_rfl))
    have CT := check_any false (some ⟨y69, 0, none⟩) 1 1 (fun _ => 1000000000) w' f69 (by decide)
    rw [decide_eq_false (fun h : okN false 1 (fun _ => 1000000000) => by have h1 : (1000000000 : Int) < 1000000000 := h.1 0 (by omega); omega)] at CT
    refine CT.mono ?_
    rintro e w'' ⟨rfl, hb⟩
    exact ⟨_, rfl, rfl, hb⟩
  rintro _ rfl
  conv => arg 9; simp only [Act.put, List.setIfInBounds_toArray, List.set_cons_succ, List.set_cons_zero]
  refine wpF_readsG (by rfl) rfl ?_ (fun w' hw' => ?_) ?_
  rotate_left
  · have hb' := hw'.world
    skip
    clear hw'
    go_simp
    try rfl
  conv => arg 9; simp only [Act.put, List.setIfInBounds_toArray, List.set_cons_succ, List.set_cons_zero]
  refine wpF_reads rfl rfl ?_ (fun w' hw' => ?_) ?_
  rotate_left
  · have hb' := hw'.world
    skip
    clear hw'
    go_simp
    try rfl
  conv => arg 9; simp only [Act.put, List.setIfInBounds_toArray, List.set_cons_succ, List.set_cons_zero]
  refine wpF_reads rfl rfl ?_ (fun w' hw' => ?_) ?_
  rotate_left
  · have hb' := hw'.world
    skip
    clear hw'
    go_simp
    try rfl
  conv => arg 9; simp only [Act.put, List.setIfInBounds_toArray, List.set_cons_succ, List.set_cons_zero]
  refine wpF_readsG (by rfl) rfl ?_ (fun w' hw' => ?_) ?_
  rotate_left
  · have hb' := hw'.world
    skip
    clear hw'
    go_simp
    try rfl
  conv => arg 9; simp only [Act.put, List.setIfInBounds_toArray, List.set_cons_succ, List.set_cons_zero]
  refine wpF_specG (by rfl) rfl (fun w' hw' => ?_) ?_
  · have hb' := hw'.world
    go_simp
    have CT := check_any true none 0 0 (fun _ => 0) w' (Rd.nil _ _ _) (by decide)
    rw [decide_eq_false (fun h : okN true 0 (fun _ => 0) => by have := h.2.1 rfl; cases this)] at CT
    refine CT.mono ?_
    rintro e w'' ⟨rfl, hb⟩
    exact ⟨_, rfl, rfl, hb⟩
  rintro _ rfl
  conv => arg 9; simp only [Act.put, List.setIfInBounds_toArray, List.set_cons_succ, List.set_cons_zero]
  refine wpF_readsG (by rfl) rfl ?_ (fun w' hw' => ?_) ?_
  rotate_left
  · have hb' := hw'.world
    skip
    clear hw'
    go_simp
    try rfl
  conv => arg 9; simp only [Act.put, List.setIfInBounds_toArray, List.set_cons_succ, List.set_cons_zero]
  refine wpF_reads rfl rfl ?_ (fun w' hw' => ?_) ?_
  rotate_left
  · have hb' := hw'.world
    skip
    clear hw'
    go_simp
    try rfl
  conv => arg 9; simp only [Act.put, List.setIfInBounds_toArray, List.set_cons_succ, List.set_cons_zero]
  refine wpF_nil (fun w5 hb5 hF5 => ?_)
  have KG := Lib.hid (KG.out.trans (hb5.mono KG.out.size))
  clear hF5 hb5
  go_wp2_with fail
  go_ret
  exact ⟨rfl, KG.out⟩
structure NumA (w : World) (s : Bool) (a : Option Addr) (n c : Nat) (z : Int) : Prop where
  ex : ∃ o, Rd w a n o ∧ valN s n o = z
  le : n ≤ c
theorem NumA.below {w w' : World} {s : Bool} {a : Option Addr} {n c : Nat} {z : Int} (h : NumA w s a n c z) (hb : Below w.heap.size w w') : NumA w' s a n c z := by
  obtain ⟨o, hr, hv⟩ := h.ex
  exact ⟨⟨o, hr.below hb, hv⟩, h.le⟩
theorem NumR.any {w : World} {z : Int} {a : Option Addr} {c : Nat} (h : NumR w z a c) : NumA w (decide (z < 0)) a (lenB z.natAbs) c z := ⟨⟨_, h.rd, canon_val z⟩, h.le⟩
structure NumO (w : World) (b : Nat) (z : Int) (a : Option Addr) (c : Nat) : Prop where
  own : Own 54 w b a (lenB z.natAbs) c (dgi z.natAbs)
theorem NumO.below {w w' : World} {b : Nat} {z : Int} {a : Option Addr} {c : Nat} (h : NumO w b z a c) (hb : Below w.heap.size w w') : NumO w' b z a c := ⟨h.own.below hb⟩
theorem NumO.mono {w : World} {b b' : Nat} {z : Int} {a : Option Addr} {c : Nat} (h : NumO w b z a c) (hb : b' ≤ b) : NumO w b' z a c := ⟨h.own.mono hb⟩
theorem NumO.r {w : World} {b : Nat} {z : Int} {a : Option Addr} {c : Nat} (h : NumO w b z a c) : NumR w z a c := ⟨h.own.rd, h.own.le⟩
theorem NumO.any {w : World} {b : Nat} {z : Int} {a : Option Addr} {c : Nat} (h : NumO w b z a c) : NumA w (decide (z < 0)) a (lenB z.natAbs) c z := h.r.any
theorem NumO.setBox {w : World} {b : Nat} {z : Int} {a : Option Addr} {c : Nat} (h : NumO w b z a c) {g : Nat} {t : TypeId} {x y : Value} (hb : Bx w g t x y) (ht : 54 ≠ t) (i : Nat) (v : Value) : NumO (w.setCell ⟨g, i, none⟩ v) b z a c := by
  refine ⟨⟨h.own.le, h.own.place.imp id fun ⟨p, cur, ha, hg, hc, hr⟩ => ⟨p, cur, ha, hg, ?_, hr⟩, h.own.rng⟩⟩
  rw [Below.heap_setCell _ _ _ _ ?_]
  · exact hc
  · intro e
    have e : p = g := e
    subst e
    have hb' : w.heap[p]? = some (.cells #[x, y] t (0, 0)) := hb
    rw [hc] at hb'
    cases hb'
    exact ht rfl
def RetO (w : World) (z : Int) (e : Ending) (w' : World) : Prop := ∃ a c, e = .returned (numC z a c) ∧ NumO w' w.heap.size z a c ∧ Below w.heap.size w w'
theorem ResN.retO {w : World} {z : Int} {e : Ending} {w' : World} (h : ResN w z e w') : RetO w z e w' := by
  obtain ⟨a, rfl, ho, -, hb⟩ := h
  exact ⟨a, _, rfl, ⟨ho⟩, hb⟩
def RetOD (w : World) (q r : Int) (e : Ending) (w' : World) : Prop := ∃ a c a' c', e = .returned (.tuple #[numC q a c, numC r a' c', .int .i64 0]) ∧ NumO w' w.heap.size q a c ∧ NumO w' w.heap.size r a' c' ∧ Below w.heap.size w w'
theorem mulA {w : World} {s1 s2 : Bool} {n1 n2 : Nat} {z1 z2 : Int} {a1 a2 : Option Addr} {c1 c2 : Nat} (h1 : NumA w s1 a1 n1 c1 z1) (b1 : n1 ≤ 10000000) (h2 : NumA w s2 a2 n2 c2 z2) (b2 : n2 ≤ 10000000) :
    Calls Tryz.prog 24 #[numV s1 a1 n1 c1, numV s2 a2 n2 c2] w (RetO w (z1 * z2)) := by
  obtain ⟨o1, r1, rfl⟩ := h1.ex
  obtain ⟨o2, r2, rfl⟩ := h2.ex
  exact (mul_any s1 a1 _ c1 _ s2 a2 _ c2 _ w r1 (by omega) h1.le r2 (by omega) h2.le).mono fun _ _ h => ResN.retO h
theorem textA {w : World} {s1 : Bool} {n1 : Nat} {z1 : Int} {a1 : Option Addr} {c1 : Nat} (h1 : NumA w s1 a1 n1 c1 z1) (b1 : n1 ≤ 10000000) (ht : Tab w) :
    Calls Tryz.prog 16 #[numV s1 a1 n1 c1] w fun e w' => e = .returned (.string ⟨(Lib.itoa z1).toArray⟩) ∧ Below w.heap.size w w' := by
  obtain ⟨o1, r1, rfl⟩ := h1.ex
  exact text_any s1 a1 _ c1 _ w r1 (by omega) h1.le ht
theorem divA {w : World} {z1 z2 : Int} {a1 a2 : Option Addr} {c1 c2 : Nat} (h1 : NumR w z1 a1 c1) (b1 : lenB z1.natAbs ≤ 10000000) (h2 : NumR w z2 a2 c2) (b2 : lenB z2.natAbs ≤ 10000000) (hz : z2 ≠ 0) :
    Calls Tryz.prog 25 #[numC z1 a1 c1, numC z2 a2 c2] w (RetOD w (z1 / z2) (z1 % z2)) := by
  refine (div_ok z1 z2 a1 a2 c1 c2 w h1.rd b1 h1.le h2.rd b2 h2.le hz).mono ?_
  rintro e w' ⟨a, a', rfl, h3, h4, -, -, -, hb⟩
  exact ⟨a, _, a', _, rfl, ⟨h3⟩, ⟨h4⟩, hb⟩
theorem lenZ_succ (m n k : Nat) (hm : lenB m ≤ k) (hn : lenB n ≤ k) : lenB (m + n) ≤ k + 1 := by
  refine lenB_le ?_
  have h1 := Nat.lt_of_lt_of_le (lt_pw_lenB m) (pw_le hm)
  have h2 := Nat.lt_of_lt_of_le (lt_pw_lenB n) (pw_le hn)
  rw [pw_succ]; omega
theorem lenZ_mul {a b : Int} {j k : Nat} (ha : lenB a.natAbs ≤ j) (hb : lenB b.natAbs ≤ k) : lenB (a * b).natAbs ≤ j + k := by
  rw [Int.natAbs_mul]
  refine lenB_le ?_
  rw [pw_add]
  have h1 := Nat.lt_of_lt_of_le (lt_pw_lenB a.natAbs) (pw_le ha)
  have h2 := Nat.lt_of_lt_of_le (lt_pw_lenB b.natAbs) (pw_le hb)
  by_cases h0 : b.natAbs = 0
  · rw [h0, Nat.mul_zero]; exact Nat.mul_pos (by omega) (by omega)
  · exact Nat.mul_lt_mul_of_lt_of_le h1 (Nat.le_of_lt h2) (by omega)
theorem lenZ_val (s : Bool) (n : Nat) (o : Nat → Int) (h : ∀ i, i < n → 0 ≤ o i ∧ o i ≤ 4294967295) : lenB (valN s n o).natAbs ≤ n := by
  by_cases hk : okN s n o
  · obtain ⟨f1, f2, f3⟩ := of_facts s n o hk h
    omega
  · rw [show valN s n o = 0 by unfold valN; rw [if_neg hk]]
    simp [lenB_zero]
theorem NumA.len {w : World} {s : Bool} {a : Option Addr} {n c : Nat} {z : Int} (h : NumA w s a n c z) : lenB z.natAbs ≤ n := by
  obtain ⟨o, hr, rfl⟩ := h.ex
  exact lenZ_val s n o hr.rng
end Go.Proofs.YtefjjhfahebmeaaGreatDoor.Limb
namespace Go.Proofs.YtefjjhfahebmeaaGreatDoor.Limb
end Go.Proofs.YtefjjhfahebmeaaGreatDoor.Limb
namespace Go.Proofs.YtefjjhfahebmeaaGreatDoor.Limb
open Go.RowKit Go.Sort Go.Fresh
open Classical in
theorem badC (s : Bool) (a : Option Addr) (n c : Nat) (o : Nat → Int) (w : World) (h : Rd w a n o) (hn : n ≤ 1000000000) (hk : ¬ okN s n o) :
    Calls Tryz.prog 14 #[numV s a n c] w fun e w' => e = .returned (.bool false) ∧ Below w.heap.size w w' := by
  have h := check_any s a n c o w h hn
  rw [decide_eq_false hk] at h
  exact h
end Go.Proofs.YtefjjhfahebmeaaGreatDoor.Limb
namespace Go.Proofs.YtefjjhfahebmeaaGreatDoor.Limb
open Go.RowKit Go.Sort
structure NV where
  s : Bool
  a : Option Addr
  n : Nat
  c : Nat
abbrev NV.v (x : NV) : Value := .agg #[.bool x.s, .slice x.a x.n x.c]
theorem NV.inj {x y : NV} (h : x.v = y.v) : x = y := by
  cases x; cases y
  simp only [Value.agg.injEq, Array.mk.injEq, List.cons.injEq, Value.bool.injEq, Value.slice.injEq, and_true] at h
  obtain ⟨rfl, rfl, rfl, rfl⟩ := h
  rfl
abbrev AN (w : World) (x : NV) (z : Int) : Prop := NumA w x.s x.a x.n x.c z
structure KN (w : World) (x : NV) (z : Int) : Prop where
  s : x.s = decide (z < 0)
  n : x.n = lenB z.natAbs
  rd : Rd w x.a x.n (dgi z.natAbs)
  le : x.n ≤ x.c
structure DN (w : World) (lo : Nat) (x : NV) (z : Int) : Prop where
  s : x.s = decide (z < 0)
  n : x.n = lenB z.natAbs
  own : Own 54 w lo x.a x.n x.c (dgi z.natAbs)
structure XN (w : World) (x : NV) : Prop where
  ex : ∃ o, Rd w x.a x.n o ∧ ¬ okN x.s x.n o
  le : x.n ≤ x.c
theorem KN.below {w w' : World} {x : NV} {z : Int} (h : KN w x z) (hb : Below w.heap.size w w') : KN w' x z := ⟨h.s, h.n, h.rd.below hb, h.le⟩
theorem DN.below {w w' : World} {lo : Nat} {x : NV} {z : Int} (h : DN w lo x z) (hb : Below w.heap.size w w') : DN w' lo x z := ⟨h.s, h.n, h.own.below hb⟩
theorem XN.below {w w' : World} {x : NV} (h : XN w x) (hb : Below w.heap.size w w') : XN w' x := by
  obtain ⟨o, hr, hk⟩ := h.ex
  exact ⟨⟨o, hr.below hb, hk⟩, h.le⟩
theorem DN.mono {w : World} {lo lo' : Nat} {x : NV} {z : Int} (h : DN w lo x z) (hl : lo' ≤ lo) : DN w lo' x z := ⟨h.s, h.n, h.own.mono hl⟩
theorem DN.k {w : World} {lo : Nat} {x : NV} {z : Int} (h : DN w lo x z) : KN w x z := ⟨h.s, h.n, h.own.rd, h.own.le⟩
theorem KN.r {w : World} {x : NV} {z : Int} (h : KN w x z) : x.v = numC z x.a x.c ∧ NumR w z x.a x.c := by
  refine ⟨?_, ⟨by rw [← h.n]; exact h.rd, by rw [← h.n]; exact h.le⟩⟩
  show Value.agg #[.bool x.s, .slice x.a x.n x.c] = _
  rw [h.s, h.n]
theorem KN.any {w : World} {x : NV} {z : Int} (h : KN w x z) : AN w x z := by
  have h2 := h.r.2.any
  rw [← h.s, ← h.n] at h2
  exact h2
theorem XN.any {w : World} {x : NV} (h : XN w x) : AN w x 0 := by
  obtain ⟨o, hr, hk⟩ := h.ex
  exact ⟨⟨o, hr, by unfold valN; rw [if_neg hk]⟩, h.le⟩
theorem KN.len {w : World} {x : NV} {z : Int} {k m : Nat} (h : KN w x z) (hz : lenB z.natAbs ≤ k) (hk : k ≤ m) : x.n ≤ m := by rw [h.n]; omega
theorem KN.raw {w : World} {s : Bool} {a : Option Addr} {n c : Nat} {o : Nat → Int} (h : Rd w a n o) (hc : n ≤ c) (hk : okN s n o) : KN w ⟨s, a, n, c⟩ (valN s n o) := by
  obtain ⟨f1, f2, f3⟩ := of_facts s n o hk h.rng
  exact ⟨f1.symm, f2.symm, h.congr f3, hc⟩
theorem XN.raw {w : World} {s : Bool} {a : Option Addr} {n c : Nat} {o : Nat → Int} (h : Rd w a n o) (hc : n ≤ c) (hk : ¬ okN s n o) : XN w ⟨s, a, n, c⟩ := ⟨⟨o, h, hk⟩, hc⟩
theorem AN.raw {w : World} {s : Bool} {a : Option Addr} {n c : Nat} {o : Nat → Int} (h : Rd w a n o) (hc : n ≤ c) : AN w ⟨s, a, n, c⟩ (valN s n o) := ⟨⟨o, h, rfl⟩, hc⟩
theorem KN.zero (w : World) (a : Option Addr) (c : Nat) : KN w ⟨false, a, 0, c⟩ 0 := by
  refine ⟨rfl, ?_, Rd.nil w a _, Nat.zero_le _⟩
  exact lenB_zero.symm
def RN (w : World) (z : Int) (e : Ending) (w' : World) : Prop := ∃ x : NV, e = .returned x.v ∧ DN w' w.heap.size x z ∧ Below w.heap.size w w'
theorem RetO.rn {w : World} {z : Int} {e : Ending} {w' : World} (h : RetO w z e w') : RN w z e w' := by
  obtain ⟨a, c, rfl, ho, hb⟩ := h
  exact ⟨⟨_, a, _, c⟩, rfl, ⟨rfl, rfl, ho.own⟩, hb⟩
def RNN (w : World) (q r c : Int) (e : Ending) (w' : World) : Prop := ∃ x y : NV, e = .returned (.tuple #[x.v, y.v, .int .i64 c]) ∧ DN w' w.heap.size x q ∧ DN w' w.heap.size y r ∧ Below w.heap.size w w'
theorem RNN.zero {w : World} {c : Int} {e : Ending} {w' : World} (h : e = .returned (.tuple #[numV false none 0 0, numV false none 0 0, .int .i64 c]) ∧ Below w.heap.size w w') : RNN w 0 0 c e w' := by
  obtain ⟨rfl, hb⟩ := h
  have h0 : DN w' w.heap.size ⟨false, none, 0, 0⟩ 0 := ⟨rfl, lenB_zero.symm, ⟨Nat.le_refl _, Or.inl ⟨rfl, rfl, rfl⟩, fun i h => absurd h (Nat.not_lt_zero i)⟩⟩
  exact ⟨_, _, rfl, h0, h0, hb⟩
theorem mulN {w : World} {x y : NV} {p q : Int} (h1 : AN w x p) (b1 : x.n ≤ 10000000) (h2 : AN w y q) (b2 : y.n ≤ 10000000) : Calls Tryz.prog 24 #[x.v, y.v] w (RN w (p * q)) := (mulA h1 b1 h2 b2).mono fun _ _ h => h.rn
theorem textN {w : World} {x : NV} {p : Int} (h1 : AN w x p) (b1 : x.n ≤ 10000000) (ht : Tab w) : Calls Tryz.prog 16 #[x.v] w fun e w' => e = .returned (.string ⟨(Lib.itoa p).toArray⟩) ∧ Below w.heap.size w w' := textA h1 b1 ht
theorem checkN {w : World} {x : NV} {p : Int} (h1 : KN w x p) (b1 : x.n ≤ 10000000) : Calls Tryz.prog 14 #[x.v] w fun e w' => e = .returned (.bool true) ∧ Below w.heap.size w w' := by
  have h := h1.r
  rw [h.1]
  exact checkC h.2 (by rw [← h1.n]; exact b1)
theorem checkBN {w : World} {x : NV} (h1 : XN w x) (b1 : x.n ≤ 10000000) : Calls Tryz.prog 14 #[x.v] w fun e w' => e = .returned (.bool false) ∧ Below w.heap.size w w' := by
  obtain ⟨o, hr, hk⟩ := h1.ex
  exact badC x.s x.a x.n x.c o w hr (by omega) hk
theorem divN {w : World} {x y : NV} {p q : Int} (h1 : KN w x p) (b1 : x.n ≤ 10000000) (h2 : KN w y q) (b2 : y.n ≤ 10000000) (hz : q ≠ 0) : Calls Tryz.prog 25 #[x.v, y.v] w (RNN w (p / q) (p % q) 0) := by
  have k1 := h1.r
  have k2 := h2.r
  rw [k1.1, k2.1]
  refine (divA k1.2 (by rw [← h1.n]; exact b1) k2.2 (by rw [← h2.n]; exact b2) hz).mono ?_
  rintro e w' ⟨a, c, a', c', rfl, ho, ho', hb⟩
  exact ⟨⟨_, a, _, c⟩, ⟨_, a', _, c'⟩, rfl, ⟨rfl, rfl, ho.own⟩, ⟨rfl, rfl, ho'.own⟩, hb⟩
open Classical in
theorem sameN {w : World} {x y : NV} {p q : Int} (h1 : KN w x p) (b1 : x.n ≤ 10000000) (h2 : KN w y q) (b2 : y.n ≤ 10000000) : Calls Tryz.prog 18 #[x.v, y.v] w fun e w' => e = .returned (.bool (decide (p = q))) ∧ Below w.heap.size w w' := by
  have k1 := h1.r
  have k2 := h2.r
  rw [k1.1, k2.1]
  exact sameC k1.2 (by rw [← h1.n]; exact b1) k2.2 (by rw [← h2.n]; exact b2)
theorem sameTN {w : World} {x y : NV} {p q : Int} (h1 : KN w x p) (b1 : x.n ≤ 10000000) (h2 : KN w y q) (b2 : y.n ≤ 10000000) (e : p = q) : Calls Tryz.prog 18 #[x.v, y.v] w fun e w' => e = .returned (.bool true) ∧ Below w.heap.size w w' := by
  have h := sameN h1 b1 h2 b2
  rw [decide_eq_true e] at h
  exact h
def NV.blk (x : NV) (b : Nat) : Prop := ∃ p : Addr, x.a = some p ∧ p.block = b
theorem Own.kept {w w' : World} {lo : Nat} {a : Option Addr} {n c : Nat} {o : Nat → Int} (h : Own 54 w lo a n c o) (hk : ∀ b, (∃ p : Addr, a = some p ∧ p.block = b) → w'.heap[b]? = w.heap[b]?) : Own 54 w' lo a n c o :=
  ⟨h.le, h.place.imp id fun ⟨g, cur, ha, hg, hc, hr⟩ => ⟨g, cur, ha, hg, (hk g ⟨_, ha, rfl⟩).trans hc, hr⟩, h.rng⟩
theorem DN.kept {w w' : World} {lo : Nat} {x : NV} {z : Int} (h : DN w lo x z) (hk : ∀ b, x.blk b → w'.heap[b]? = w.heap[b]?) : DN w' lo x z := ⟨h.s, h.n, h.own.kept hk⟩
structure NV2 where
  p : NV
  q : NV
abbrev NV2.v (c : Int) (x : NV2) : Value := .tuple #[x.p.v, x.q.v, .int .i64 c]
def NV2.blk (x : NV2) (b : Nat) : Prop := x.p.blk b ∨ x.q.blk b
theorem NV2.inj (c : Int) (x y : NV2) (h : x.v c = y.v c) : x = y := by
  simp only [Value.tuple.injEq, Array.mk.injEq, List.cons.injEq, and_true] at h
  cases x; cases y
  have h1 := NV.inj h.1
  have h2 := NV.inj h.2
  dsimp only at h1 h2
  rw [h1, h2]
theorem Shaped.trans {a b c : World} (h : Go.FreshS.Shaped a b) (k : Go.FreshS.Shaped b c) : Go.FreshS.Shaped a c := by
  refine ⟨Nat.le_trans h.size k.size, fun i x T hx => ?_⟩
  obtain ⟨y, hy, e⟩ := h.shape i x T hx
  obtain ⟨z, hz, f⟩ := k.shape i y T hy
  exact ⟨z, hz, f.trans e⟩
def notInt : Value → Bool
  | .int _ _ => false
  | _ => true
theorem q_le {x y : Int} (h : y ≠ 0) : (x / y).natAbs ≤ x.natAbs + 1 := by
  have e := Int.mul_ediv_add_emod x y
  have r0 := Int.emod_nonneg x h
  have r1 := Int.emod_lt x h
  have h2 : (y * (x / y)).natAbs = y.natAbs * (x / y).natAbs := Int.natAbs_mul ..
  by_cases hq : x / y = 0
  · rw [hq]; omega
  · have h3 : (y * (x / y)).natAbs ≤ x.natAbs + (x % y).natAbs := by omega
    have h4 : (x % y).natAbs ≤ y.natAbs - 1 := by omega
    have h5 : 1 ≤ (x / y).natAbs := by omega
    have h6 : 1 ≤ y.natAbs := by omega
    rw [h2] at h3
    have h7 : y.natAbs * (x / y).natAbs = y.natAbs + y.natAbs * ((x / y).natAbs - 1) := by
      rw [Nat.mul_sub, Nat.mul_one]
      have := Nat.le_mul_of_pos_right y.natAbs h5
      omega
    have h8 : (x / y).natAbs - 1 ≤ y.natAbs * ((x / y).natAbs - 1) := Nat.le_mul_of_pos_left _ h6
    omega
theorem len_ediv {x y : Int} {k : Nat} (hx : lenB x.natAbs ≤ k) (hk : 3 ≤ k) (h : y ≠ 0) : lenB (x / y).natAbs ≤ k + 1 :=
  Nat.le_trans (lenB_mono (q_le h)) (lenZ_succ _ 1 k hx (Nat.le_trans (len3 (by omega)) hk))
theorem len_emod {x y : Int} {k : Nat} (hy : lenB y.natAbs ≤ k) (h : y ≠ 0) : lenB (x % y).natAbs ≤ k := by
  refine Nat.le_trans (lenB_mono ?_) hy
  have r0 := Int.emod_nonneg x h
  have r1 := Int.emod_lt x h
  omega
def txtN (N i : Nat) : List UInt8 := if i < lenB N then padD (9 * i) N else if N = 0 then [] else Lib.decDigits N
theorem nDigN_le : ∀ (k n : Nat), n < 10 ^ (k + 1) → Lib.nDigits n ≤ k + 1
  | 0, n, h => by rw [Lib.nDigits_small (by simpa using h)]; omega
  | k + 1, n, h => by
    by_cases hn : n < 10
    · rw [Lib.nDigits_small hn]; omega
    · rw [Lib.nDigits_big hn]
      have := nDigN_le k (n / 10) (by rw [Nat.pow_succ] at h; omega)
      omega
theorem itoa_lenN {z : Int} {N K : Nat} (h : lenB N ≤ K) (hz : N = z.natAbs) : Lib.nDigits z.natAbs ≤ 9 * K + 1 := by
  rw [← hz]
  refine nDigN_le (9 * K) _ ?_
  have h2 := Nat.lt_of_lt_of_le (lt_pw_lenB N) (pw_le h)
  rw [pw_ten] at h2
  exact Nat.lt_of_lt_of_le h2 (Nat.pow_le_pow_right (by omega) (by omega))
def RNE (w : World) (z c : Int) (e : Ending) (w' : World) : Prop := ∃ x : NV, e = .returned (.tuple #[x.v, .int .i64 c]) ∧ DN w' w.heap.size x z ∧ Below w.heap.size w w'
end Go.Proofs.YtefjjhfahebmeaaGreatDoor.Limb
