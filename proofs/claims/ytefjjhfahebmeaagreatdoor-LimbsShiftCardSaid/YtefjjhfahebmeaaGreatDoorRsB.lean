/-
  The walks of the document's answer for limbs: Cmp, Sign, Add, Mul.
-/
import Derived.Test.YtefjjhfahebmeaaGreatDoorRsA
import Derived.Lib.ItoaMem
import Derived.Lib.SliceRun
import Derived.Deep.DeepCutAuto
import Derived.Deep.RegionHeld3
import Derived.Laws.OwnMore
set_option linter.unusedSimpArgs false
set_option linter.unusedVariables false
namespace Go.Proofs.YtefjjhfahebmeaaGreatDoor.Limb
open Go.RowKit Go.Sort
set_option maxHeartbeats 1000000 in
theorem amounts_any (x y : Nat) (a b : Option Addr) (ca cb : Nat) (w : World) (ha : Rd w a (lenB x) (dgi x)) (hb : Rd w b (lenB y) (dgi y)) (hx : lenB x ≤ 1000000000) (hy : lenB y ≤ 1000000000) :
    Calls Tryz.prog 91 #[.slice a (lenB x) ca, .slice b (lenB y) cb] w fun e w' => e = .returned (.int .i64 (cmpZ x y)) ∧ ∃ m, w' = w.drewN m := by
  rcases Nat.lt_trichotomy (lenB x) (lenB y) with h | h | h
  · have E := Lib.hid (show cmpZ x y = -1 from cmpZ_lt (by have := cmp_len h; omega))
    have E2 := Lib.hid (show cmpZ (lenB x : Int) (lenB y) = -1 from cmpZ_lt (by omega))
    go_enter Tryz.func91, Tryz.ntmps91
    go_wp2_with fail
    refine (cmp64_any _ _ _).mono ?_
    rintro e w' ⟨rfl, hw⟩
    subst w'
    rw [E2.out]
    go_wp2
    go_ret
    exact ⟨by rw [E.out]; rfl, 0, rfl⟩
  · obtain ⟨k0, hD⟩ := topDiff_any (dgi x) (dgi y) (lenB x)
    have hC := topDiff_cmp (dgi_Dig x _) (dgi_Dig y _) hD
    rw [sumB_dgi, show sumB (dgi y) (lenB x) = y by rw [h]; exact sumB_dgi y] at hC
    have E := Lib.hid hC
    have E2 := Lib.hid (show cmpZ (lenB x : Int) (lenB y) = 0 from cmpZ_eq (by omega))
    obtain ⟨hk0, heq, hne⟩ := hD
    have EQ := Lib.hid heq
    have NE := Lib.hid hne
    have HL := Lib.hid h
    clear hC heq hne h
    go_enter Tryz.func91, Tryz.ntmps91
    go_wp2_with fail
    refine (cmp64_any _ _ _).mono ?_
    rintro e w' ⟨rfl, hw⟩
    subst w'
    rw [E2.out]
    go_wp2_with fail
    go_loopw [6] (fun i wr => ∃ j : Nat, k0 ≤ j ∧ j ≤ lenB x ∧ i = .int .i64 ((j : Int) - 1) ∧ ∃ m, wr = w.drewN m) (fun i _ => (1 + intOf i).toNat)
    case atStart => exact ⟨lenB x, hk0, Nat.le_refl _, rfl, 0, rfl⟩
    case round =>
      obtain ⟨j, hj, hjn, rfl, m0, rfl⟩ := hrel
      by_cases hj0 : j = 0
      · subst hj0
        have Z := Lib.hid (show cmpZ x y = 0 by rw [E.out, if_pos (by omega)])
        rw [show (((0 : Nat) : Int) - 1) = -1 from rfl]
        go_wp2
        go_ret
        exact ⟨by rw [Z.out]; rfl, m0, rfl⟩
      · obtain ⟨q, rfl⟩ : ∃ q, j = q + 1 := ⟨j - 1, by omega⟩
        rw [show (((q + 1 : Nat) : Int) - 1) = (q : Int) by omega]
        obtain ⟨b1, o1, rfl, hc1⟩ := ha.cells (by omega)
        obtain ⟨b2, o2, rfl, hc2⟩ := hb.cells (by have := HL.out; omega)
        have c1 := hc1 q (by omega)
        have c2 := hc2 q (by have := HL.out; omega)
        have lx : q < lenB x := by omega
        have ly : q < lenB y := by have := HL.out; omega
        clear hc1 hc2 ha hb
        by_cases hlk : k0 ≤ q
        · have hne : (dgi x q != dgi y q) = false := by rw [EQ.out q hlk (by omega)]; simp
          go_wp2
          go_quiet (fail)
          go_wp2
          go_roundw
          case rel => exact ⟨q, hlk, by omega, rfl, _, rfl⟩
          case measure => simp [intOf]; omega
        · have hkq : k0 = q + 1 := by omega
          have hnn : dgi x q ≠ dgi y q := by have := NE.out (by omega); rw [hkq] at this; simpa using this
          have hne : (dgi x q != dgi y q) = true := by simpa using hnn
          have Z := Lib.hid (show cmpZ x y = cmpZ (dgi x q) (dgi y q) by rw [E.out, if_neg (by omega), hkq]; rfl)
          clear hkq hnn
          go_wp2
          go_quiet (fail)
          go_wp2
          go_quiet (exact (cmp32_any (dgi x q) (dgi y q) _).mono fun e w'' ⟨he, hw⟩ => ⟨he, _, hw⟩)
          go_wp2
          go_ret
          exact ⟨by rw [Z.out]; rfl, _, by rw [World.drewN_drewN, World.drewN_drewN]⟩
  · have E := Lib.hid (show cmpZ x y = 1 from cmpZ_gt (by have := cmp_len h; omega))
    have E2 := Lib.hid (show cmpZ (lenB x : Int) (lenB y) = 1 from cmpZ_gt (by omega))
    go_enter Tryz.func91, Tryz.ntmps91
    go_wp2_with fail
    refine (cmp64_any _ _ _).mono ?_
    rintro e w' ⟨rfl, hw⟩
    subst w'
    rw [E2.out]
    go_wp2
    go_ret
    exact ⟨by rw [E.out]; rfl, 0, rfl⟩
end Go.Proofs.YtefjjhfahebmeaaGreatDoor.Limb
namespace Go.Proofs.YtefjjhfahebmeaaGreatDoor.Limb
def splice (o : Nat → Int) (i m : Nat) (r : Nat → Int) : Nat → Int := fun k => if i ≤ k ∧ k < i + m then r (k - i) else o k
theorem splice_in {o r : Nat → Int} {i m k : Nat} (h : k < m) : splice o i m r (i + k) = r k := by
  unfold splice; rw [if_pos ⟨by omega, by omega⟩, Nat.add_sub_cancel_left]
theorem splice_out {o r : Nat → Int} {i m k : Nat} (h : k < i ∨ i + m ≤ k) : splice o i m r k = o k := by
  unfold splice; rw [if_neg (by omega)]
theorem splice_Dig {o r : Nat → Int} {i m L : Nat} (ho : Dig o L) (hr : Dig r m) : Dig (splice o i m r) L := by
  intro k hk
  by_cases h : i ≤ k ∧ k < i + m
  · obtain ⟨j, rfl⟩ : ∃ j, k = i + j := ⟨k - i, by omega⟩
    rw [splice_in (by omega)]; exact hr j (by omega)
  · rw [splice_out (by omega)]; exact ho k hk
structure DivI (X V : Int) (n L M i : Nat) (up qp : Nat → Int) : Prop where
  udig : Dig up L
  qdig : Dig qp M
  qz : ∀ k, k < i → qp k = 0
  bal : X = V * ((pw i : Int) * sumB (fun k => qp (i + k)) (M - i)) + sumB up L
  lt : sumB up L < V * (pw i : Int)
def headV (up : Nat → Int) (n i : Nat) : Int := sumB (fun k => up (i + k)) (n + 1)
theorem mul_lt_of {a b c : Int} (hc : 0 < c) (h : c * a < c * b) : a < b := Int.lt_of_mul_lt_mul_left h (by omega)
theorem DivI.head {X V : Int} {n L M i : Nat} {up qp : Nat → Int} (D : DivI X V n L M (i + 1) up qp) (hi : i < M) (hL : M + n = L) (hV : V < (pw n : Int)) (hV0 : 0 < V) :
    0 ≤ headV up n i ∧ headV up n i < V * 1000000000 ∧ sumB up L = sumB up i + (pw i : Int) * headV up n i ∧ sumB (fun k => up (i + (n + 1) + k)) (L - i - (n + 1)) = 0 := by
  have hpi : (0 : Int) < (pw i : Int) := by have := pw_pos i; omega
  have hpn : (0 : Int) < (pw (n + 1) : Int) := by have := pw_pos (n + 1); omega
  have e1 : sumB up L = sumB up i + (pw i : Int) * sumB (fun k => up (i + k)) (L - i) := by
    have h := sumB_add up i (L - i)
    rwa [show i + (L - i) = L by omega] at h
  have e2 : sumB (fun k => up (i + k)) (L - i) = headV up n i + (pw (n + 1) : Int) * sumB (fun k => up (i + (n + 1) + k)) (L - i - (n + 1)) := by
    have h := sumB_add (fun k => up (i + k)) (n + 1) (L - i - (n + 1))
    rw [show n + 1 + (L - i - (n + 1)) = L - i by omega] at h
    rw [h]
    have : (fun k => up (i + (n + 1 + k))) = fun k => up (i + (n + 1) + k) := by funext k; rw [← Nat.add_assoc]
    rw [this]; rfl
  have b1 := (sumB_bd (o := up) (n := i) fun k hk => D.udig k (by omega))
  have b2 := (sumB_bd (o := fun k => up (i + k)) (n := n + 1) fun k hk => D.udig (i + k) (by omega))
  have b3 := (sumB_bd (o := fun k => up (i + (n + 1) + k)) (n := L - i - (n + 1)) fun k hk => D.udig _ (by omega))
  have h0 : 0 ≤ headV up n i := b2.1
  generalize hs : sumB (fun k => up (i + (n + 1) + k)) (L - i - (n + 1)) = s at e2 b3
  generalize ht : sumB (fun k => up (i + k)) (L - i) = t at e1 e2
  have hlt := D.lt
  rw [e1, pw_succ, Int.natCast_mul] at hlt
  have ht2 : t < V * 1000000000 := by
    refine mul_lt_of hpi ?_
    have : V * ((pw i : Int) * ((1000000000 : Nat) : Int)) = (pw i : Int) * (V * 1000000000) := by rw [Int.mul_left_comm]; rfl
    omega
  have hpn1 : (pw (n + 1) : Int) = (pw n : Int) * 1000000000 := by rw [pw_succ, Int.natCast_mul]; rfl
  have hs0 : s = 0 := by
    have hsn : 0 ≤ s := b3.1
    rcases Int.lt_or_le 0 s with h | h
    · have h1 : (pw (n + 1) : Int) * 1 ≤ (pw (n + 1) : Int) * s := Int.mul_le_mul_of_nonneg_left (by omega) (by omega)
      omega
    · omega
  subst hs0
  rw [Int.mul_zero, Int.add_zero] at e2
  rw [e2] at e1 ht2
  exact ⟨h0, ht2, e1, rfl⟩
theorem sum_splice {up r : Nat → Int} {n i L : Nat} (hL : i + (n + 1) ≤ L) (hz : sumB (fun k => up (i + (n + 1) + k)) (L - i - (n + 1)) = 0) : sumB (splice up i (n + 1) r) L = sumB up i + (pw i : Int) * sumB r (n + 1) := by
  have h1 := sumB_add (splice up i (n + 1) r) i (L - i)
  rw [show i + (L - i) = L by omega] at h1
  have h2 := sumB_add (fun k => splice up i (n + 1) r (i + k)) (n + 1) (L - i - (n + 1))
  rw [show n + 1 + (L - i - (n + 1)) = L - i by omega] at h2
  rw [h1, h2]
  have e1 : sumB (splice up i (n + 1) r) i = sumB up i := sumB_congr fun k hk => splice_out (Or.inl hk)
  have e2 : sumB (fun k => splice up i (n + 1) r (i + k)) (n + 1) = sumB r (n + 1) := sumB_congr fun k hk => splice_in hk
  have e3 : sumB (fun k => splice up i (n + 1) r (i + (n + 1 + k))) (L - i - (n + 1)) = 0 := by
    rw [← hz]
    refine sumB_congr fun k hk => ?_
    rw [splice_out (Or.inr (by omega))]
    congr 1; omega
  rw [e1, e2, e3]; simp
theorem DivI.step {X V g : Int} {n L M i : Nat} {up qp r : Nat → Int} (D : DivI X V n L M (i + 1) up qp) (hi : i < M) (hL : M + n = L) (hV : V < (pw n : Int)) (hV0 : 0 < V)
    (hg : 0 ≤ g ∧ g < 1000000000) (hr : Dig r (n + 1)) (hs : sumB r (n + 1) = headV up n i - V * g) (hlt : headV up n i - V * g < V) : DivI X V n L M i (splice up i (n + 1) r) (upd qp i g) := by
  obtain ⟨h0, h1, h2, h3⟩ := D.head hi hL hV hV0
  have hS := sum_splice (r := r) (by omega) h3
  have hpi : (0 : Int) < (pw i : Int) := by have := pw_pos i; omega
  have b1 := (sumB_bd (o := up) (n := i) fun k hk => D.udig k (by omega))
  refine ⟨splice_Dig D.udig hr, upd_Dig D.qdig i hg, fun k hk => by rw [upd_ne _ _ (by omega)]; exact D.qz k (by omega), ?_, ?_⟩
  · rw [hS, hs]
    have hq : sumB (fun k => upd qp i g (i + k)) (M - i) = g + 1000000000 * sumB (fun k => qp (i + 1 + k)) (M - (i + 1)) := by
      rw [show M - i = (M - (i + 1)) + 1 by omega, sumB_shift]
      have e : (fun k => upd qp i g (i + (k + 1))) = fun k => qp (i + 1 + k) := by
        funext k
        rw [upd_ne _ _ (by omega), show i + (k + 1) = i + 1 + k by omega]
      rw [e, Nat.add_zero, upd_same]
    have hb := D.bal
    rw [h2, pw_succ, Int.natCast_mul] at hb
    rw [hq]
    generalize sumB (fun k => qp (i + 1 + k)) (M - (i + 1)) = Q at hb ⊢
    generalize headV up n i = h at hb ⊢
    generalize sumB up i = lo at hb ⊢
    generalize (pw i : Int) = P at hb ⊢
    rw [hb]
    have a1 : P * (V * g) = V * (P * g) := Int.mul_left_comm _ _ _
    have a2 : V * (P * ((1000000000 : Nat) : Int) * Q) = V * (P * (1000000000 * Q)) := by rw [Int.mul_assoc P]; rfl
    simp only [Int.mul_add, Int.mul_sub]
    rw [a1, a2]
    omega
  · rw [hS, hs]
    have : (pw i : Int) * (headV up n i - V * g) ≤ (pw i : Int) * (V - 1) := Int.mul_le_mul_of_nonneg_left (by omega) (by omega)
    rw [Int.mul_sub (pw i : Int) V 1, Int.mul_comm (pw i : Int) V] at this
    omega
theorem guess_ge {h V v1 two : Int} {B1 : Int} (hv1 : 0 < v1) (hB1 : 0 < B1) (hV : v1 * B1 ≤ V) (h0 : 0 ≤ h) (hh : h < (two + 1) * B1) (hlt : h < V * 1000000000) (hV0 : 0 < V) : h / V ≤ min (two / v1) 999999999 := by
  have hq0 : 0 ≤ h / V := Int.ediv_nonneg h0 (by omega)
  have hqV : h / V * V ≤ h := Int.ediv_mul_le h (by omega)
  have h1 : h / V < 1000000000 := Int.ediv_lt_of_lt_mul hV0 (by rw [Int.mul_comm]; exact hlt)
  have h2 : h / V ≤ two / v1 := by
    refine (Int.le_ediv_iff_mul_le hv1).2 ?_
    have a1 : h / V * (v1 * B1) ≤ h / V * V := Int.mul_le_mul_of_nonneg_left hV hq0
    have a2 : (h / V * v1) * B1 < (two + 1) * B1 := by rw [Int.mul_assoc]; omega
    have := Int.lt_of_mul_lt_mul_right a2 (by omega)
    omega
  omega
theorem guess_down {h V v1 v2 two h2 B2 g : Int} (hB2 : 0 < B2) (hV : (v1 * 1000000000 + v2) * B2 ≤ V) (hh : h < (two * 1000000000 + h2 + 1) * B2) (hg : 0 ≤ g) (hover : (two - g * v1) * 1000000000 + h2 < g * v2) (hge : h / V ≤ g) (hV0 : 0 < V) : h / V ≤ g - 1 := by
  rcases Int.lt_or_le (h / V) g with hlt | hle
  · omega
  · have e : h / V = g := by omega
    have h1 : g * V ≤ h := by rw [← e]; exact Int.ediv_mul_le h (by omega)
    have a1 : g * ((v1 * 1000000000 + v2) * B2) ≤ g * V := Int.mul_le_mul_of_nonneg_left hV hg
    have a2 : (g * (v1 * 1000000000 + v2)) * B2 < (two * 1000000000 + h2 + 1) * B2 := by rw [Int.mul_assoc]; omega
    have a3 := Int.lt_of_mul_lt_mul_right a2 (by omega)
    rw [Int.mul_add, ← Int.mul_assoc] at a3
    rw [Int.sub_mul] at hover
    omega
theorem guess_right {h V g : Int} (hV0 : 0 < V) (hge : h / V ≤ g) (hle : ¬ h < V * g) : g = h / V ∧ 0 ≤ h - V * g ∧ h - V * g < V := by
  have h1 : g ≤ h / V := (Int.le_ediv_iff_mul_le hV0).2 (by rw [Int.mul_comm]; omega)
  have e : g = h / V := by omega
  refine ⟨e, by omega, ?_⟩
  have h2 := Int.lt_ediv_add_one_mul_self h hV0
  rw [← e, Int.add_mul, Int.mul_comm g V] at h2
  omega
theorem guess_less {h V g : Int} (hV0 : 0 < V) (hge : h / V ≤ g) (hlt : h < V * g) : h / V ≤ g - 1 := by
  have h1 : h / V < g := Int.ediv_lt_of_lt_mul hV0 (by rw [Int.mul_comm]; exact hlt)
  omega
theorem top_two {f : Nat → Int} {m : Nat} (hd : Dig f (m + 1 + 1)) : sumB f (m + 1 + 1) < (f (m + 1) * 1000000000 + f m + 1) * (pw m : Int) ∧ (f (m + 1) * 1000000000 + f m) * (pw m : Int) ≤ sumB f (m + 1 + 1) := by
  have b := sumB_bd (o := f) (n := m) fun k hk => hd k (by omega)
  rw [sumB, sumB, pw_succ, Int.natCast_mul]
  have e : f (m + 1) * ((pw m : Int) * ((1000000000 : Nat) : Int)) = f (m + 1) * 1000000000 * (pw m : Int) := by rw [Int.mul_comm (pw m : Int), ← Int.mul_assoc]; rfl
  rw [e, Int.add_mul, Int.add_mul]
  omega
theorem top_three {f : Nat → Int} {m : Nat} (hd : Dig f (m + 1 + 1 + 1)) : sumB f (m + 1 + 1 + 1) < ((f (m + 1 + 1) * 1000000000 + f (m + 1)) * 1000000000 + f m + 1) * (pw m : Int) := by
  have b := top_two (f := f) (m := m) fun k hk => hd k (by omega)
  rw [sumB, pw_succ, pw_succ, Int.natCast_mul, Int.natCast_mul]
  have e : f (m + 1 + 1) * ((pw m : Int) * ((1000000000 : Nat) : Int) * ((1000000000 : Nat) : Int)) = f (m + 1 + 1) * 1000000000 * 1000000000 * (pw m : Int) := by
    rw [Int.mul_comm (pw m : Int), Int.mul_assoc, Int.mul_comm (pw m : Int), ← Int.mul_assoc, ← Int.mul_assoc]; rfl
  rw [e]
  have h1 : sumB f (m + 2) < (f (m + 1) * 1000000000 + f m + 1) * (pw m : Int) := b.1
  rw [Int.add_mul, Int.add_mul] at h1
  rw [Int.add_mul, Int.add_mul, Int.add_mul (f (m + 1 + 1) * 1000000000), Int.add_mul]
  omega
theorem sum_low {o : Nat → Int} {n L : Nat} (hd : Dig o L) (hn : n ≤ L) (h : sumB o L < (pw n : Int)) : sumB o n = sumB o L := by
  have e := sumB_add o n (L - n)
  rw [show n + (L - n) = L by omega] at e
  have b1 := (sumB_bd (o := o) (n := n) fun k hk => hd k (by omega))
  have b2 := (sumB_bd (o := fun k => o (n + k)) (n := L - n) fun k hk => hd (n + k) (by omega))
  have hp : (0 : Int) < (pw n : Int) := by have := pw_pos n; omega
  generalize sumB (fun k => o (n + k)) (L - n) = s at e b2
  rcases Int.lt_or_le 0 s with h1 | h1
  · have : (pw n : Int) * 1 ≤ (pw n : Int) * s := Int.mul_le_mul_of_nonneg_left (by omega) (by omega)
    omega
  · have h2 : s = 0 := by omega
    rw [h2, Int.mul_zero] at e
    omega
theorem div_end {A Bv sc Q R : Int} (hsc : 0 < sc) (h : A * sc = Bv * sc * Q + R) (h0 : 0 ≤ R) (hlt : R < Bv * sc) : Q = A / Bv ∧ R / sc = A % Bv := by
  have e : R = sc * (A - Bv * Q) := by
    rw [Int.mul_sub, Int.mul_comm sc A, ← Int.mul_assoc, Int.mul_comm sc Bv]
    omega
  have h1 : 0 ≤ A - Bv * Q := by
    rcases Int.lt_or_le (A - Bv * Q) 0 with h | h
    · have := Int.mul_neg_of_pos_of_neg hsc h
      omega
    · exact h
  have h2 : A - Bv * Q < Bv := by
    refine mul_lt_of hsc ?_
    rw [← e, Int.mul_comm sc Bv]; exact hlt
  have h3 := (Int.ediv_emod_unique (a := A) (b := Bv) (q := Q) (r := A - Bv * Q) (by omega)).2 ⟨by omega, h1, h2⟩
  refine ⟨h3.1.symm, ?_⟩
  rw [h3.2, e, Int.mul_ediv_cancel_left _ (by omega)]
theorem splice_self (up : Nat → Int) (i m : Nat) : splice up i m (fun k => up (i + k)) = up := by
  funext k
  by_cases h : i ≤ k ∧ k < i + m
  · obtain ⟨j, rfl⟩ : ∃ j, k = i + j := ⟨k - i, by omega⟩
    rw [splice_in (by omega)]
  · rw [splice_out (by omega)]
theorem DivI.skip {X V : Int} {n L M i : Nat} {up qp : Nat → Int} (D : DivI X V n L M (i + 1) up qp) (hi : i < M) (hL : M + n = L) (hV : V < (pw n : Int)) (hV0 : 0 < V) (hq : headV up n i / V ≤ 0) : DivI X V n L M i up qp := by
  have h0 := (D.head hi hL hV hV0).1
  have h1 : 0 ≤ headV up n i / V := Int.ediv_nonneg h0 (by omega)
  have h2 := Int.lt_ediv_add_one_mul_self (headV up n i) hV0
  rw [show headV up n i / V = 0 by omega] at h2
  have h := D.step (g := 0) (r := fun k => up (i + k)) hi hL hV hV0 ⟨by omega, by omega⟩ (fun k hk => D.udig (i + k) (by omega)) (by rw [Int.mul_zero, Int.sub_zero]; rfl) (by rw [Int.mul_zero]; omega)
  rw [splice_self] at h
  have e : upd qp i 0 = qp := by
    funext k
    by_cases hk : k = i
    · subst hk; rw [upd_same, D.qz k (by omega)]
    · rw [upd_ne _ _ hk]
  rwa [e] at h
end Go.Proofs.YtefjjhfahebmeaaGreatDoor.Limb
namespace Go.Proofs.YtefjjhfahebmeaaGreatDoor.Limb
open Go.RowKit Go.Sort Go.ChangeShapes Go.WideShapes Go.ChangeAt
theorem cellsPart : Tryz.prog.cellsOf 54 = 1 := by kernel_rfl
theorem open_list {H : Type} {enc : TypeId × Value → H} {W : World} {sp : Nat → Bool} {hd : Bool} {fuel : Nat} {v : Value} {x : DataW H × List MemPlace}
    (h : DataW.trod enc Tryz.prog W 0 sp hd fuel 22 [v] = some x) : ∃ a n c o, v = .slice a n c ∧ Rd W a n o ∧ n ≤ c := by
  rcases open_ints Tryz.underlying22 Tryz.underlying54 cellsPart h with ⟨e, _⟩ | ⟨a, len, cap, zs, e, _, hl, _, hz, _, hc, hw⟩
  · simp only [List.cons.injEq, and_true] at e
    exact ⟨none, 0, 0, fun _ => 0, e, Rd.nil _ _ _, Nat.le_refl _⟩
  · simp only [List.cons.injEq, and_true] at e
    have hlz : len ≤ zs.length := by rw [hz]; split <;> omega
    refine ⟨some a, len, cap, fun i => zs.getD i 0, e, ⟨fun hn => ?_, fun i hi => ?_⟩, hl⟩
    · obtain ⟨b, off, rfl, h3⟩ := ints_at hc (by omega)
      exact ⟨b, off, rfl, fun i hi => h3 i (by omega)⟩
    · have hmem : zs.getD i 0 ∈ zs := by
        rw [List.getD_eq_getElem?_getD, List.getElem?_eq_getElem (by omega)]
        exact List.getElem_mem _
      exact bounds_u32 (hw _ hmem)
end Go.Proofs.YtefjjhfahebmeaaGreatDoor.Limb
namespace Go.Proofs.YtefjjhfahebmeaaGreatDoor.Limb
open Go.RowKit Go.Sort
set_option maxHeartbeats 400000 in
theorem chk_fn (x : Int) (w : World) :
    Calls Tryz.prog 40 #[.int .u32 x] w fun e w' => e = .returned (.bool (decide (1000000000 ≤ x))) ∧ w' = w := by
  by_cases h : 1000000000 ≤ x
  · have E := Lib.hid (decide_eq_true h)
    go_enter Tryz.func40, Tryz.ntmps40
    go_wp2
    go_ret
    exact ⟨by rw [E.out]; rfl, rfl⟩
  · have E := Lib.hid (decide_eq_false h)
    go_enter Tryz.func40, Tryz.ntmps40
    go_wp2
    go_ret
    exact ⟨by rw [E.out]; rfl, rfl⟩
theorem cf_chk (args : Array Value) (w : World) : (callFunc 40 args).run Tryz.prog w = .ok (.enter 40 args) w := by kernel_rfl
set_option maxHeartbeats 1000000 in
theorem idx_any (a : Option Addr) (n cap k0 : Nat) (o : Nat → Int) (w : World) (h : Rd w a n o) (hn : n ≤ 1000000000) (hk0 : k0 ≤ n) (hf : ∀ i, i < k0 → o i < 1000000000) (hb : k0 < n → 1000000000 ≤ o k0) :
    Calls Tryz.prog 108 #[.slice a n cap, .func (.func 40) #[] #[]] w fun e w' => e = .returned (.int .i64 (if k0 < n then (k0 : Int) else -1)) ∧ ∃ m, w' = w.drewN m := by
  have HF := Lib.hid hf; clear hf
  have HB := Lib.hid hb; clear hb
  have hcf := cf_chk
  go_enter Tryz.func108, Tryz.ntmps108
  go_wp2
  go_loopw [8] (fun i wr => ∃ j : Nat, j ≤ k0 ∧ i = .int .i64 j ∧ ∃ m, wr = w.drewN m) (fun i _ => n - (intOf i).toNat)
  case atStart => exact ⟨0, by omega, rfl, 0, rfl⟩
  case round =>
    obtain ⟨j, hj, rfl, m0, rfl⟩ := hrel
    by_cases hjn : j < n
    · obtain ⟨b, off, rfl, hc⟩ := h.cells (by omega)
      have c1 := hc j hjn
      clear hc h
      by_cases hjk : j < k0
      · have D := HF.out j hjk
        have E : decide (1000000000 ≤ o j) = false := by simp; omega
        go_wp2_with fail
        refine (chk_fn (o j) _).mono ?_
        rintro e w' ⟨rfl, hw⟩
        subst w'
        rw [E]
        go_wp2
        go_roundw
        case rel => exact ⟨j + 1, by omega, by go_num, m0, rfl⟩
        case measure => simp [intOf]; omega
      · obtain rfl : j = k0 := by omega
        have D := HB.out hjn
        have E : decide (1000000000 ≤ o j) = true := by simp; omega
        go_wp2_with fail
        refine (chk_fn (o j) _).mono ?_
        rintro e w' ⟨rfl, hw⟩
        subst w'
        rw [E]
        go_wp2
        go_ret
        exact ⟨by first | rfl | (rw [if_pos hjn]; rfl), m0, rfl⟩
    · have hkn : ¬ k0 < n := by omega
      clear h
      go_wp2
      go_ret
      exact ⟨by first | rfl | (rw [if_neg hkn]; rfl), m0, rfl⟩
set_option maxHeartbeats 400000 in
theorem has_any (a : Option Addr) (n cap k0 : Nat) (o : Nat → Int) (w : World) (h : Rd w a n o) (hn : n ≤ 1000000000) (hk0 : k0 ≤ n) (hf : ∀ i, i < k0 → o i < 1000000000) (hb : k0 < n → 1000000000 ≤ o k0) :
    Calls Tryz.prog 39 #[.slice a n cap, .func (.func 40) #[] #[]] w fun e w' => e = .returned (.bool (decide (k0 < n))) ∧ ∃ m, w' = w.drewN m := by
  have C := Lib.hid (idx_any a n cap k0 o w h hn hk0 hf hb)
  clear h hf hb
  by_cases hk : k0 < n
  · have E := Lib.hid (decide_eq_true hk)
    rw [if_pos hk] at C
    go_enter Tryz.func39, Tryz.ntmps39
    go_wp2_with fail
    refine C.out.mono ?_
    rintro e w' ⟨rfl, m, rfl⟩
    go_wp2
    go_ret
    exact ⟨by rw [E.out]; rfl, m, rfl⟩
  · have E := Lib.hid (decide_eq_false hk)
    rw [if_neg hk] at C
    go_enter Tryz.func39, Tryz.ntmps39
    go_wp2_with fail
    refine C.out.mono ?_
    rintro e w' ⟨rfl, m, rfl⟩
    go_wp2
    go_ret
    exact ⟨by rw [E.out]; rfl, m, rfl⟩
theorem first_bad (o : Nat → Int) (n : Nat) : ∃ k, k ≤ n ∧ (∀ i, i < k → o i < 1000000000) ∧ (k < n → 1000000000 ≤ o k) := by
  induction n with
  | zero => exact ⟨0, by omega, fun i h => by omega, fun h => by omega⟩
  | succ n ih =>
    obtain ⟨k, h1, h2, h3⟩ := ih
    by_cases hk : k < n
    · exact ⟨k, by omega, h2, fun _ => h3 hk⟩
    · obtain rfl : k = n := by omega
      by_cases h : o k < 1000000000
      · exact ⟨k + 1, by omega, fun i hi => by
          by_cases e : i = k
          · rw [e]; exact h
          · exact h2 i (by omega), fun h => by omega⟩
      · exact ⟨k, by omega, h2, fun _ => by omega⟩
open Classical in
set_option maxHeartbeats 1000000 in
theorem check_any (s : Bool) (a : Option Addr) (n cap : Nat) (o : Nat → Int) (w : World) (h : Rd w a n o) (hn : n ≤ 1000000000) :
    Calls Tryz.prog 14 #[numV s a n cap] w fun e w' => e = .returned (.bool (decide (okN s n o))) ∧ Below w.heap.size w w' := by
  obtain ⟨k0, hk0, hf, hb⟩ := first_bad o n
  have C := Lib.hid (fun (w2 : World) (hw : Below w.heap.size w w2) => has_any a n cap k0 o w2 (h.below hw) hn hk0 hf hb)
  have hcf := cf_chk
  by_cases hk : k0 < n
  · have E := Lib.hid (show decide (okN s n o) = false from decide_eq_false fun hh => by have := hh.1 k0 hk; have := hb hk; omega)
    have D : decide (k0 < n) = true := decide_eq_true hk
    clear hf hb h
    go_enter Tryz.func14, Tryz.ntmps14
    go_wp2_with fail
    refine (C.out _ ?_).mono ?_
    · (repeat' (first | (with_reducible exact Below.refl _ _) | (with_reducible assumption) | (with_reducible refine Below.alloc ?_ ?_ _) | (with_reducible refine Below.drew ?_) | (with_reducible refine bdrewN ?_ _) | (with_reducible refine Below.setCell ?_ ?_ _) | (with_reducible refine Below.frame ?_ _) | go_size))
    rintro e w' ⟨rfl, m, rfl⟩
    rw [D]
    go_wp2
    go_ret
    exact ⟨by rw [E.out]; rfl, by (repeat' (first | (with_reducible exact Below.refl _ _) | (with_reducible assumption) | (with_reducible refine Below.alloc ?_ ?_ _) | (with_reducible refine Below.drew ?_) | (with_reducible refine bdrewN ?_ _) | (with_reducible refine Below.setCell ?_ ?_ _) | (with_reducible refine Below.frame ?_ _) | go_size))⟩
  · have D : decide (k0 < n) = false := decide_eq_false hk
    have hfi : ∀ i, i < n → o i < 1000000000 := fun i hi => hf i (by omega)
    clear hb
    by_cases h0 : n = 0
    · subst h0
      have E := Lib.hid (show decide (okN s 0 o) = !s by
        cases s with
        | false => exact decide_eq_true ⟨hfi, fun _ => rfl, fun h => by omega⟩
        | true => exact decide_eq_false fun hh => by have := hh.2.1 rfl; contradiction)
      clear hf h hfi
      go_enter Tryz.func14, Tryz.ntmps14
      go_wp2_with fail
      refine (C.out _ ?_).mono ?_
      · (repeat' (first | (with_reducible exact Below.refl _ _) | (with_reducible assumption) | (with_reducible refine Below.alloc ?_ ?_ _) | (with_reducible refine Below.drew ?_) | (with_reducible refine bdrewN ?_ _) | (with_reducible refine Below.setCell ?_ ?_ _) | (with_reducible refine Below.frame ?_ _) | go_size))
      rintro e w' ⟨rfl, m, rfl⟩
      rw [D]
      cases s with
      | false =>
        go_wp2
        go_ret
        exact ⟨by rw [E.out]; rfl, by (repeat' (first | (with_reducible exact Below.refl _ _) | (with_reducible assumption) | (with_reducible refine Below.alloc ?_ ?_ _) | (with_reducible refine Below.drew ?_) | (with_reducible refine bdrewN ?_ _) | (with_reducible refine Below.setCell ?_ ?_ _) | (with_reducible refine Below.frame ?_ _) | go_size))⟩
      | true =>
        go_wp2
        go_ret
        exact ⟨by rw [E.out]; rfl, by (repeat' (first | (with_reducible exact Below.refl _ _) | (with_reducible assumption) | (with_reducible refine Below.alloc ?_ ?_ _) | (with_reducible refine Below.drew ?_) | (with_reducible refine bdrewN ?_ _) | (with_reducible refine Below.setCell ?_ ?_ _) | (with_reducible refine Below.frame ?_ _) | go_size))⟩
    · obtain ⟨b, off, rfl, hc⟩ := h.cells (by omega)
      have c1 := hc (n - 1) (by omega)
      have E := Lib.hid (show decide (okN s n o) = (o (n - 1) != 0) by
        by_cases hz : o (n - 1) = 0
        · rw [hz]; exact decide_eq_false fun hh => hh.2.2 (by omega) hz
        · rw [show (o (n - 1) != 0) = true by simpa using hz]
          exact decide_eq_true ⟨hfi, fun h => by omega, fun _ => hz⟩)
      have hlt : b < w.heap.size := block_lt_of_cell c1
      obtain ⟨q, rfl⟩ : ∃ q, n = q + 1 := ⟨n - 1, by omega⟩
      rw [Nat.add_sub_cancel] at c1 E
      have ex : ((q + 1 : Nat) : Int) - 1 = (q : Int) := by omega
      have ez : (decide (((q + 1 : Nat) : Int) = 0)) = false := by simp; omega
      clear hf h hfi hc
      go_enter Tryz.func14, Tryz.ntmps14
      go_wp2_with fail
      refine (C.out _ ?_).mono ?_
      · (repeat' (first | (with_reducible exact Below.refl _ _) | (with_reducible assumption) | (with_reducible refine Below.alloc ?_ ?_ _) | (with_reducible refine Below.drew ?_) | (with_reducible refine bdrewN ?_ _) | (with_reducible refine Below.setCell ?_ ?_ _) | (with_reducible refine Below.frame ?_ _) | go_size))
      rintro e w' ⟨rfl, m, rfl⟩
      rw [D]
      go_wp2
      go_ret
      exact ⟨by rw [E.out]; rfl, by (repeat' (first | (with_reducible exact Below.refl _ _) | (with_reducible assumption) | (with_reducible refine Below.alloc ?_ ?_ _) | (with_reducible refine Below.drew ?_) | (with_reducible refine bdrewN ?_ _) | (with_reducible refine Below.setCell ?_ ?_ _) | (with_reducible refine Below.frame ?_ _) | go_size))⟩
end Go.Proofs.YtefjjhfahebmeaaGreatDoor.Limb
namespace Go.Proofs.YtefjjhfahebmeaaGreatDoor.Limb
def q0 (x y : Int) : Int := if decide (x < 0) = decide (y < 0) then ((x.natAbs / y.natAbs : Nat) : Int) else -((x.natAbs / y.natAbs : Nat) : Int)
def r0 (x y : Int) : Int := if x < 0 then -((x.natAbs % y.natAbs : Nat) : Int) else ((x.natAbs % y.natAbs : Nat) : Int)
theorem q0_abs (x y : Int) : (q0 x y).natAbs = x.natAbs / y.natAbs := by unfold q0; generalize x.natAbs / y.natAbs = Q; split <;> omega
theorem r0_abs (x y : Int) : (r0 x y).natAbs = x.natAbs % y.natAbs := by unfold r0; generalize x.natAbs % y.natAbs = R; split <;> omega
theorem pos_of_len {m : Nat} : (0 < lenB m) ↔ 0 < m := by
  have := lenB_eq_zero (m := m)
  omega
theorem q0_sign (x y : Int) : ((!(decide (x < 0) == decide (y < 0))) && decide (0 < lenB (x.natAbs / y.natAbs))) = decide (q0 x y < 0) := by
  have e := pos_of_len (m := x.natAbs / y.natAbs)
  unfold q0
  generalize x.natAbs / y.natAbs = Q at *
  by_cases h : decide (x < 0) = decide (y < 0)
  · rw [if_pos h, h]
    simp
  · rw [if_neg h]
    have h1 : (decide (x < 0) == decide (y < 0)) = false := by simpa using h
    rw [h1, Bool.not_false, Bool.true_and]
    exact decide_eq_decide.2 (e.trans (by omega))
theorem r0_sign (x y : Int) : (decide (x < 0) && decide (0 < lenB (x.natAbs % y.natAbs))) = decide (r0 x y < 0) := by
  have e := pos_of_len (m := x.natAbs % y.natAbs)
  unfold r0
  generalize x.natAbs % y.natAbs = R at *
  by_cases h : x < 0
  · rw [if_pos h, decide_eq_true h, Bool.true_and]
    exact decide_eq_decide.2 (e.trans (by omega))
  · rw [if_neg h, decide_eq_false h, Bool.false_and]
    exact (decide_eq_false (by omega)).symm
theorem div_pos {x y q r : Int} (hy : 0 < y) (e : x = y * q + r) (h0 : 0 ≤ r) (h1 : r < y) : x / y = q ∧ x % y = r := by
  have := (Int.ediv_emod_unique hy (a := x) (r := r) (q := q)).2 ⟨by omega, h0, h1⟩
  exact this
theorem nat_div (A B : Nat) : (A : Int) = (B : Int) * ((A / B : Nat) : Int) + ((A % B : Nat) : Int) := by
  rw [← Int.natCast_mul, ← Int.natCast_add, Nat.div_add_mod]
theorem div_plain {x y : Int} (hy : y ≠ 0) (h : ¬ r0 x y < 0) : x / y = q0 x y ∧ x % y = r0 x y := by
  have e := nat_div x.natAbs y.natAbs
  have hr : x.natAbs % y.natAbs < y.natAbs := Nat.mod_lt _ (by omega)
  unfold q0 r0 at *
  generalize x.natAbs % y.natAbs = R at *
  generalize x.natAbs / y.natAbs = Q at *
  have hx : x < 0 → R = 0 := fun hx => by rw [if_pos hx] at h; omega
  have key : ∀ B : Nat, 0 < B → R < B → ((x.natAbs : Int) = (B : Int) * (Q : Int) + (R : Int)) → x / (B : Int) = (if x < 0 then -(Q : Int) else (Q : Int)) ∧ x % (B : Int) = (if x < 0 then -(R : Int) else (R : Int)) := by
    intro B hB hRB hE
    by_cases hn : x < 0
    · rw [if_pos hn, if_pos hn]
      have := hx hn
      refine div_pos (by omega) ?_ (by omega) (by omega)
      rw [Int.mul_neg]; omega
    · rw [if_neg hn, if_neg hn]
      exact div_pos (by omega) (by omega) (by omega) (by omega)
  rcases Int.lt_or_gt_of_ne hy with h1 | h1
  · obtain ⟨k1, k2⟩ := key y.natAbs (by omega) hr e
    have ey : y = -((y.natAbs : Nat) : Int) := by omega
    have e1 : x / y = -(x / ((y.natAbs : Nat) : Int)) := by conv => lhs; rw [ey, Int.ediv_neg]
    have e2 : x % y = x % ((y.natAbs : Nat) : Int) := by conv => lhs; rw [ey, Int.emod_neg]
    rw [e1, e2, k1, k2]
    refine ⟨?_, rfl⟩
    by_cases hn : x < 0
    · rw [if_pos hn, if_pos (by simp [hn, h1])]; omega
    · rw [if_neg hn, if_neg (by simp [hn, h1])]
  · obtain ⟨k1, k2⟩ := key y.natAbs (by omega) hr e
    have ey : y = ((y.natAbs : Nat) : Int) := by omega
    have hy2 : ¬ y < 0 := by omega
    rw [← ey] at k1 k2
    rw [k1, k2]
    refine ⟨?_, rfl⟩
    by_cases hn : x < 0
    · rw [if_pos hn, if_neg (by simp [hn, hy2])]
    · rw [if_neg hn, if_pos (by simp [hn, hy2])]
theorem div_down {x y : Int} (hy : y ≠ 0) (h : r0 x y < 0) : x / y = q0 x y + (if y < 0 then 1 else -1) ∧ x % y = r0 x y + (y.natAbs : Int) := by
  have e := nat_div x.natAbs y.natAbs
  have hr : x.natAbs % y.natAbs < y.natAbs := Nat.mod_lt _ (by omega)
  unfold q0 r0 at *
  generalize x.natAbs % y.natAbs = R at *
  generalize x.natAbs / y.natAbs = Q at *
  have hx : x < 0 := by
    rcases Int.lt_or_le x 0 with h1 | h1
    · exact h1
    · rw [if_neg (by omega)] at h; omega
  rw [if_pos hx] at h ⊢
  have key : x / ((y.natAbs : Nat) : Int) = -(Q : Int) - 1 ∧ x % ((y.natAbs : Nat) : Int) = -(R : Int) + ((y.natAbs : Nat) : Int) := by
    refine div_pos (by omega) ?_ (by omega) (by omega)
    rw [Int.mul_sub, Int.mul_neg]; omega
  rcases Int.lt_or_gt_of_ne hy with h1 | h1
  · have ey : y = -((y.natAbs : Nat) : Int) := by omega
    have e1 : x / y = -(x / ((y.natAbs : Nat) : Int)) := by conv => lhs; rw [ey, Int.ediv_neg]
    have e2 : x % y = x % ((y.natAbs : Nat) : Int) := by conv => lhs; rw [ey, Int.emod_neg]
    rw [e1, e2, key.1, key.2]
    refine ⟨?_, rfl⟩
    rw [if_pos h1, if_pos (by simp [hx, h1])]; omega
  · have ey : y = ((y.natAbs : Nat) : Int) := by omega
    have k1 := key.1; have k2 := key.2
    have hy2 : ¬ y < 0 := by omega
    rw [← ey] at k1 k2
    rw [k1, k2]
    refine ⟨?_, by omega⟩
    rw [if_neg hy2, if_neg (by simp [hx, hy2])]; omega
end Go.Proofs.YtefjjhfahebmeaaGreatDoor.Limb
namespace Go.Proofs.YtefjjhfahebmeaaGreatDoor.Limb
def okF (s1 : Bool) (n1 : Nat) (o1 : Nat → Int) (s2 : Bool) (n2 : Nat) (o2 : Nat → Int) : Prop :=
  okN s1 n1 o1 ∧ okN s2 n2 o2 ∧ 0 < valN s2 n2 o2 ∧ Int.gcd (valN s1 n1 o1) (valN s2 n2 o2) = 1
open Classical in
noncomputable def valF (s1 : Bool) (n1 : Nat) (o1 : Nat → Int) (s2 : Bool) (n2 : Nat) (o2 : Nat → Int) : Rat := if okF s1 n1 o1 s2 n2 o2 then Rat.divInt (valN s1 n1 o1) (valN s2 n2 o2) else 0
end Go.Proofs.YtefjjhfahebmeaaGreatDoor.Limb
namespace Go.Proofs.YtefjjhfahebmeaaGreatDoor.Limb
open Go.RowKit Go.Sort
def Bx (w : World) (b : Nat) (t : TypeId) (x y : Value) : Prop := w.heap[b]? = some (.cells #[x, y] t (0, 0))
def bxf (x y : Value) (i : Nat) : Value := if i = 0 then x else y
theorem Bx.row {w : World} {b : Nat} {t : TypeId} {x y : Value} (h : Bx w b t x y) : w.rowIs b t 2 (bxf x y) :=
  ⟨#[x, y], h, rfl, fun i hi => by
    match i, hi with
    | 0, _ => rfl
    | 1, _ => rfl⟩
theorem Bx.of_row {w : World} {b : Nat} {t : TypeId} {f : Nat → Value} (h : w.rowIs b t 2 f) : Bx w b t (f 0) (f 1) := by
  obtain ⟨c, hb, hn, hc⟩ := h
  show w.heap[b]? = _
  rw [hb]
  have e : c = #[f 0, f 1] := by
    apply Array.ext
    · simpa using hn
    · intro i h1 h2
      have h3 := hc i (by omega)
      rw [Array.getElem?_eq_getElem h1] at h3
      have h4 : i < 2 := by omega
      have h5 : #[f 0, f 1][i]? = some (f i) := by
        match i, h4 with
        | 0, _ => rfl
        | 1, _ => rfl
      rw [Array.getElem?_eq_getElem h2] at h5
      simp only [Option.some.injEq] at h3 h5
      rw [h3, h5]
  rw [e]
theorem Bx.c0 {w : World} {b : Nat} {t : TypeId} {x y : Value} (h : Bx w b t x y) : w.cell? ⟨b, 0, none⟩ = some x := cell_of_row _ _ _ _ _ _ h
theorem Bx.c1 {w : World} {b : Nat} {t : TypeId} {x y : Value} (h : Bx w b t x y) : w.cell? ⟨b, 1, none⟩ = some y := cell_of_row _ _ _ _ _ _ h
theorem Bx.fz {w : World} {b : Nat} {t : TypeId} {x y : Value} (h : Bx w b t x y) (i : Nat) : w.frozen? ⟨b, i, none⟩ = false := h.row.frozen i
theorem Bx.lt {w : World} {b : Nat} {t : TypeId} {x y : Value} (h : Bx w b t x y) : b < w.heap.size := h.row.lt
theorem Bx.of {w w' : World} {b : Nat} {t : TypeId} {x y : Value} (h : Bx w b t x y) (e : w'.heap[b]? = w.heap[b]?) : Bx w' b t x y := e.trans h
theorem Bx.below {W w : World} {b B : Nat} {t : TypeId} {x y : Value} (h : Bx W b t x y) (hb : Below B W w) (hlt : b < B) : Bx w b t x y := h.of (hb.block _ hlt)
theorem Bx.alloc {w : World} {b : Nat} {t : TypeId} {x y : Value} (h : Bx w b t x y) (o : Obj) : Bx (w.alloc o) b t x y := h.of (Below.heap_alloc _ _ _ h.lt)
theorem Bx.other {w : World} {b : Nat} {t : TypeId} {x y : Value} (h : Bx w b t x y) {a : Addr} (ha : b ≠ a.block) (v : Value) : Bx (w.setCell a v) b t x y := h.of (Below.heap_setCell _ _ _ _ ha)
theorem Bx.new (w : World) (t : TypeId) (x y : Value) : Bx (w.alloc (.cells #[x, y] t)) w.heap.size t x y := by show (w.heap.push _)[w.heap.size]? = _; simp
theorem Bx.new2 (w : World) (p : Obj) (t : TypeId) (x y : Value) : Bx ((w.alloc p).alloc (.cells #[x, y] t)) (w.heap.size + 1) t x y := by have h := Bx.new (w.alloc p) t x y; rw [World.size_alloc] at h; exact h
theorem Bx.new3 (w : World) (p q : Obj) (t : TypeId) (x y : Value) : Bx (((w.alloc p).alloc q).alloc (.cells #[x, y] t)) (w.heap.size + 1 + 1) t x y := by have h := Bx.new2 (w.alloc p) q t x y; rw [World.size_alloc] at h; exact h
theorem Bx.drewN {w : World} {b : Nat} {t : TypeId} {x y : Value} (h : Bx w b t x y) (m : Nat) : Bx (w.drewN m) b t x y := h
theorem Bx.set0 {w : World} {b : Nat} {t : TypeId} {x y : Value} (h : Bx w b t x y) (v : Value) : Bx (w.setCell ⟨b, 0, none⟩ v) b t v y := Bx.of_row (h.row.set 0 v)
theorem Bx.set1 {w : World} {b : Nat} {t : TypeId} {x y : Value} (h : Bx w b t x y) (v : Value) : Bx (w.setCell ⟨b, 1, none⟩ v) b t x v := Bx.of_row (h.row.set 1 v)
theorem Bx.set {w : World} {b : Nat} {t : TypeId} {x y : Value} (h : Bx w b t x y) (u v : Value) : Bx ((w.setCell ⟨b, 0, none⟩ u).setCell ⟨b, 1, none⟩ v) b t u v := (h.set0 u).set1 v
theorem Bx.all {w : World} {b : Nat} {t : TypeId} {x y : Value} (h : Bx w b t x y) : w.cell? ⟨b, 0, none⟩ = some x ∧ w.cell? ⟨b, 1, none⟩ = some y ∧ (∀ i, w.frozen? ⟨b, i, none⟩ = false) ∧ b < w.heap.size := ⟨h.c0, h.c1, h.fz, h.lt⟩
end Go.Proofs.YtefjjhfahebmeaaGreatDoor.Limb
namespace Go.Proofs.YtefjjhfahebmeaaGreatDoor.Limb
open Go
def padD : Nat → Nat → List UInt8
  | 0, _ => []
  | k + 1, r => padD k (r / 10) ++ [UInt8.ofNat (48 + r % 10)]
theorem padD_length (k r : Nat) : (padD k r).length = k := by
  induction k generalizing r with
  | zero => rfl
  | succ k ih => simp [padD, ih]
theorem padD_zero (k : Nat) : padD k 0 = List.replicate k 48 := by
  induction k with
  | zero => rfl
  | succ k ih => rw [padD, Nat.zero_div, ih, List.replicate_succ']; rfl
theorem decD_big {u : Nat} (h : ¬ u < 10) : Lib.decDigits u = Lib.decDigits (u / 10) ++ [UInt8.ofNat (48 + u % 10)] := by rw [Lib.decDigits, dif_neg h]
theorem decD_pad (k q r : Nat) (hq : 0 < q) (hr : r < 10 ^ k) : Lib.decDigits (q * 10 ^ k + r) = Lib.decDigits q ++ padD k r := by
  induction k generalizing r with
  | zero =>
    have : r = 0 := by simpa using hr
    subst this
    simp [padD]
  | succ k ih =>
    have hp : 0 < 10 ^ k := Nat.pow_pos (by omega)
    have h1 : 1 * 10 ^ k ≤ q * 10 ^ k := Nat.mul_le_mul_right _ hq
    have e1 : q * 10 ^ (k + 1) = 10 * (q * 10 ^ k) := by rw [Nat.pow_succ, ← Nat.mul_assoc, Nat.mul_comm]
    have hr' : r < 10 * 10 ^ k := by rw [Nat.pow_succ, Nat.mul_comm] at hr; exact hr
    rw [e1, decD_big (by omega), show (10 * (q * 10 ^ k) + r) / 10 = q * 10 ^ k + r / 10 by omega, show (10 * (q * 10 ^ k) + r) % 10 = r % 10 by omega, ih (r / 10) (by omega), List.append_assoc]
    rfl
theorem pad_dec (k r : Nat) (hr : r < 10 ^ (k + 1)) : padD (k + 1) r = List.replicate (k + 1 - Lib.nDigits r) 48 ++ Lib.decDigits r := by
  induction k generalizing r with
  | zero =>
    have h : r < 10 := by simpa using hr
    rw [Lib.nDigits_small h, Lib.decDigits_one h]
    show [] ++ [UInt8.ofNat (48 + r % 10)] = _
    rw [Nat.mod_eq_of_lt h]; rfl
  | succ k ih =>
    by_cases h : r < 10
    · rw [Lib.nDigits_small h, Lib.decDigits_one h, padD, show r / 10 = 0 by omega, padD_zero, show r % 10 = r by omega]; rfl
    · have hr' : r / 10 < 10 ^ (k + 1) := by rw [Nat.pow_succ] at hr; omega
      rw [padD, ih _ hr', Lib.nDigits_big h, decD_big h, List.append_assoc, show k + 1 + 1 - (Lib.nDigits (r / 10) + 1) = k + 1 - Lib.nDigits (r / 10) by omega]
theorem pw_ten (i : Nat) : pw i = 10 ^ (9 * i) := by
  induction i with
  | zero => rw [pw_zero]
  | succ i ih => rw [pw_succ, ih, show 9 * (i + 1) = 9 * i + 9 by omega, Nat.pow_add]
def isDig (c : UInt8) : Bool := decide (48 ≤ c.toNat) && decide (c.toNat ≤ 57)
def decV (l : List UInt8) : Nat := l.foldl (fun a c => 10 * a + (c.toNat - 48)) 0
theorem decV_foldl (l : List UInt8) (a : Nat) : l.foldl (fun a c => 10 * a + (c.toNat - 48)) a = a * 10 ^ l.length + decV l := by
  induction l generalizing a with
  | nil => simp [decV]
  | cons c r ih =>
    have e : decV (c :: r) = (10 * 0 + (c.toNat - 48)) * 10 ^ r.length + decV r := ih _
    rw [List.foldl_cons, ih, e, List.length_cons, Nat.pow_succ]
    have : (10 * a + (c.toNat - 48)) * 10 ^ r.length = a * (10 ^ r.length * 10) + (c.toNat - 48) * 10 ^ r.length := by rw [Nat.add_mul]; congr 1; rw [Nat.mul_comm 10 a, Nat.mul_assoc, Nat.mul_comm 10]
    rw [this]
    simp only [Nat.mul_zero, Nat.zero_add]
    omega
theorem decV_append (l r : List UInt8) : decV (l ++ r) = decV l * 10 ^ r.length + decV r := by
  rw [decV, List.foldl_append, decV_foldl]; rfl
theorem decV_lt (l : List UInt8) (h : ∀ c ∈ l, isDig c = true) : decV l < 10 ^ l.length := by
  induction l with
  | nil => simp [decV]
  | cons c r ih =>
    have h1 := ih fun x hx => h x (List.mem_cons_of_mem _ hx)
    have h2 := h c (List.mem_cons_self ..)
    unfold isDig at h2
    simp only [Bool.and_eq_true, decide_eq_true_eq] at h2
    rw [decV, List.foldl_cons, decV_foldl, List.length_cons, Nat.pow_succ]
    have : (10 * 0 + (c.toNat - 48)) * 10 ^ r.length ≤ 9 * 10 ^ r.length := Nat.mul_le_mul_right _ (by omega)
    omega
end Go.Proofs.YtefjjhfahebmeaaGreatDoor.Limb
namespace Go.Proofs.YtefjjhfahebmeaaGreatDoor.Limb
open Go.RowKit Go.Sort
theorem of_facts (s : Bool) (n : Nat) (o : Nat → Int) (h : okN s n o) (h0 : ∀ i, i < n → 0 ≤ o i ∧ o i ≤ 4294967295) :
    decide (valN s n o < 0) = s ∧ lenB (valN s n o).natAbs = n ∧ ∀ i, i < n → o i = dgi (valN s n o).natAbs i :=
  have h1 : ∀ i, i < n → 0 ≤ o i := fun i hi => (h0 i hi).1
  ⟨valN_neg h h1, valN_len h h1, fun i hi => (valN_dg h h1 i hi).symm⟩
open Classical in
set_option maxHeartbeats 1000000 in
theorem of_any (s : Bool) (a : Option Addr) (n cap : Nat) (o : Nat → Int) (w : World) (h : Rd w a n o) (hn : n ≤ 1000000000) (hcap : n ≤ cap) :
    ∃ a' cap', Rd w a' (lenB (valN s n o).natAbs) (dgi (valN s n o).natAbs) ∧ lenB (valN s n o).natAbs ≤ n ∧ lenB (valN s n o).natAbs ≤ cap' ∧
      ∀ w1, Below w.heap.size w w1 → Calls Tryz.prog 41 #[numV s a n cap] w1 fun e w' => e = .returned (numV (decide (valN s n o < 0)) a' (lenB (valN s n o).natAbs) cap') ∧ Below w1.heap.size w1 w' := by
  by_cases hk : okN s n o
  · obtain ⟨f1, f2, f3⟩ := of_facts s n o hk h.rng
    rw [f1, f2]
    refine ⟨a, cap, h.congr f3, Nat.le_refl _, hcap, fun w1 hb1 => ?_⟩
    have C := Lib.hid (fun (w2 : World) (hw : Below w1.heap.size w1 w2) => check_any s a n cap o w2 (h.below (hb1.trans (hw.mono hb1.size))) hn)
    rw [decide_eq_true hk] at C
    clear h f1 f2 f3 hk hb1
    go_enter Tryz.func41, Tryz.ntmps41
    go_wp2_with fail
    refine (C.out _ ?_).mono ?_
    · (repeat' (first | (with_reducible exact Below.refl _ _) | (with_reducible assumption) | (with_reducible refine Below.alloc ?_ ?_ _) | (with_reducible refine Below.drew ?_) | (with_reducible refine bdrewN ?_ _) | (with_reducible refine Below.setCell ?_ ?_ _) | (with_reducible refine Below.frame ?_ _) | go_size))
    rintro e w2 ⟨rfl, hb2⟩
    have B1 := ((Bx.new w1 24 (.bool s) (.slice a n cap)).alloc (.cells #[.bool false, .slice none 0 0] 24)).below hb2 (by simp; omega)
    have B2 := (Bx.new2 w1 (.cells #[.bool s, .slice a n cap] 24) 24 (.bool false) (.slice none 0 0)).below hb2 (by simp)
    have hb0 : Below w1.heap.size w1 w2 := ((Below.refl _ _).alloc (Nat.le_refl _) _ |>.alloc (by go_size) _).trans (hb2.mono (by go_size))
    obtain ⟨b10, b11, b12, b13⟩ := B1.all
    obtain ⟨b20, b21, b22, b23⟩ := B2.all
    have HB := Lib.hid B2
    clear hb2 B1 B2
    go_wp2
    refine bodyPost_ret (results_cell rfl _ _ _ _ _ _ _ rfl (HB.out.set _ _) Tryz.underlying24 rfl (by kernel_rfl)) rfl ⟨rfl, ?_⟩
    (repeat' (first | (with_reducible exact Below.refl _ _) | (with_reducible assumption) | (with_reducible refine Below.alloc ?_ ?_ _) | (with_reducible refine Below.drew ?_) | (with_reducible refine bdrewN ?_ _) | (with_reducible refine Below.setCell ?_ ?_ _) | (with_reducible refine Below.frame ?_ _) | go_size))
  · rw [show valN s n o = 0 from valN_not hk]
    rw [show (Int.natAbs 0) = 0 from rfl, lenB_zero, show decide ((0 : Int) < 0) = false from rfl]
    refine ⟨none, 0, Rd.nil _ _ _, Nat.zero_le _, Nat.le_refl _, fun w1 hb1 => ?_⟩
    have C := Lib.hid (fun (w2 : World) (hw : Below w1.heap.size w1 w2) => check_any s a n cap o w2 (h.below (hb1.trans (hw.mono hb1.size))) hn)
    rw [decide_eq_false hk] at C
    clear h hk hb1
    go_enter Tryz.func41, Tryz.ntmps41
    go_wp2_with fail
    refine (C.out _ ?_).mono ?_
    · (repeat' (first | (with_reducible exact Below.refl _ _) | (with_reducible assumption) | (with_reducible refine Below.alloc ?_ ?_ _) | (with_reducible refine Below.drew ?_) | (with_reducible refine bdrewN ?_ _) | (with_reducible refine Below.setCell ?_ ?_ _) | (with_reducible refine Below.frame ?_ _) | go_size))
    rintro e w2 ⟨rfl, hb2⟩
    have B2 := (Bx.new2 w1 (.cells #[.bool s, .slice a n cap] 24) 24 (.bool false) (.slice none 0 0)).below hb2 (by simp)
    have hb0 : Below w1.heap.size w1 w2 := ((Below.refl _ _).alloc (Nat.le_refl _) _ |>.alloc (by go_size) _).trans (hb2.mono (by go_size))
    obtain ⟨b20, b21, b22, b23⟩ := B2.all
    have HB := Lib.hid B2
    clear hb2 B2
    go_wp2
    refine bodyPost_ret (results_cell rfl _ _ _ _ _ _ _ rfl (HB.out.set _ _) Tryz.underlying24 rfl (by kernel_rfl)) rfl ⟨rfl, ?_⟩
    (repeat' (first | (with_reducible exact Below.refl _ _) | (with_reducible assumption) | (with_reducible refine Below.alloc ?_ ?_ _) | (with_reducible refine Below.drew ?_) | (with_reducible refine bdrewN ?_ _) | (with_reducible refine Below.setCell ?_ ?_ _) | (with_reducible refine Below.frame ?_ _) | go_size))
theorem lenB_le_of {o : Nat → Int} {n : Nat} (h : Dig o n) : lenB (sumB o n).toNat ≤ n := lenB_le (by have := sumB_bd h; omega)
theorem cut_zero {o : Nat → Int} {n i : Nat} (h : Dig o n) (h1 : lenB (sumB o n).toNat ≤ i) (h2 : i < n) : o i = 0 := by
  rw [← dg_sumB h i h2, dg_out h1]; rfl
theorem cut_last {o : Nat → Int} {n : Nat} (h : Dig o n) (h1 : 0 < lenB (sumB o n).toNat) : o (lenB (sumB o n).toNat - 1) ≠ 0 := by
  have h2 := lenB_le_of h
  rw [← dg_sumB h _ (by omega)]
  have := dg_last (m := (sumB o n).toNat) (fun e => by rw [e, lenB_zero] at h1; omega)
  omega
set_option maxHeartbeats 1000000 in
theorem cut_any (s : Bool) (a : Option Addr) (n cap : Nat) (o : Nat → Int) (w : World) (h : Rd w a n o) (hd : Dig o n) (hn : n ≤ 1000000000) (hcap : n ≤ cap) (ha : a = none → cap = 0) :
    Calls Tryz.prog 36 #[.bool s, .slice a n cap] w fun e w' => e = .returned (numV (s && decide (0 < lenB (sumB o n).toNat)) a (lenB (sumB o n).toNat) (lenB (sumB o n).toNat)) ∧ Below w.heap.size w w' := by
  have HL := Lib.hid (lenB_le_of hd)
  have HZ := Lib.hid (fun i => cut_zero (i := i) hd)
  have HT := Lib.hid (cut_last hd)
  generalize lenB (sumB o n).toNat = L at HL HZ HT ⊢
  clear hd
  have hsz := h.rng
  have B0 := Lib.hid (Bx.new w 24 (.bool false) (.slice none 0 0))
  go_enter Tryz.func36, Tryz.ntmps36
  go_wp2
  go_loopw [5] (fun i wr => ∃ j : Nat, L ≤ j ∧ j ≤ n ∧ i = .int .i64 j ∧ ∃ m, wr = (w.alloc (.cells #[.bool false, .slice none 0 0] 24)).drewN m) (fun i _ => (intOf i).toNat)
  case atStart => exact ⟨n, HL.out, Nat.le_refl _, rfl, 0, rfl⟩
  case round =>
    obtain ⟨j, hj, hjn, rfl, m0, rfl⟩ := hrel
    by_cases hj0 : j = 0
    · obtain rfl : L = 0 := by omega
      subst hj0
      have B1 := B0.out.drewN m0
      obtain ⟨b10, b11, b12, b13⟩ := B1.all
      have HB := Lib.hid B1
      clear B1
      cases s with
      | false =>
        go_wp2
        all_goals
          refine bodyPost_ret (results_cell rfl _ _ _ _ _ _ _ rfl (HB.out.set _ _) Tryz.underlying24 rfl (by kernel_rfl)) rfl ⟨rfl, ?_⟩
          (repeat' (first | (with_reducible exact Below.refl _ _) | (with_reducible assumption) | (with_reducible refine Below.alloc ?_ ?_ _) | (with_reducible refine Below.drew ?_) | (with_reducible refine bdrewN ?_ _) | (with_reducible refine Below.setCell ?_ ?_ _) | (with_reducible refine Below.frame ?_ _) | go_size))
      | true =>
        go_wp2
        all_goals
          refine bodyPost_ret (results_cell rfl _ _ _ _ _ _ _ rfl (HB.out.set _ _) Tryz.underlying24 rfl (by kernel_rfl)) rfl ⟨rfl, ?_⟩
          (repeat' (first | (with_reducible exact Below.refl _ _) | (with_reducible assumption) | (with_reducible refine Below.alloc ?_ ?_ _) | (with_reducible refine Below.drew ?_) | (with_reducible refine bdrewN ?_ _) | (with_reducible refine Below.setCell ?_ ?_ _) | (with_reducible refine Below.frame ?_ _) | go_size))
    · obtain ⟨q, rfl⟩ : ∃ q, j = q + 1 := ⟨j - 1, by omega⟩
      obtain ⟨b, off, rfl, hc⟩ := h.cells (by omega)
      have c1 := hc q (by omega)
      have hb : b < w.heap.size := block_lt_of_cell c1
      have ex : ((q + 1 : Nat) : Int) - 1 = (q : Int) := by omega
      by_cases hjL : q + 1 = L
      · subst hjL
        have hz : o q ≠ 0 := HT.out (by omega)
        have hzb : (o q == 0) = false := by simpa using hz
        have hq : ((q + 1 : Nat) : Int) > 0 := by omega
        have D := Lib.hid (show decide (0 < q + 1) = true by simp)
        have B1 := B0.out.drewN m0
        obtain ⟨b10, b11, b12, b13⟩ := B1.all
        have HB := Lib.hid B1
        clear B1
        cases s with
        | false =>
          go_wp2
          all_goals
            refine bodyPost_ret (results_cell rfl _ _ _ _ _ _ _ rfl (HB.out.set _ _) Tryz.underlying24 rfl (by kernel_rfl)) rfl ⟨rfl, ?_⟩
            (repeat' (first | (with_reducible exact Below.refl _ _) | (with_reducible assumption) | (with_reducible refine Below.alloc ?_ ?_ _) | (with_reducible refine Below.drew ?_) | (with_reducible refine bdrewN ?_ _) | (with_reducible refine Below.setCell ?_ ?_ _) | (with_reducible refine Below.frame ?_ _) | go_size))
        | true =>
          go_wp2
          all_goals
            refine bodyPost_ret (results_cell rfl _ _ _ _ _ _ _ rfl (HB.out.set _ _) Tryz.underlying24 rfl (by kernel_rfl)) rfl ⟨by rw [D.out]; rfl, ?_⟩
            (repeat' (first | (with_reducible exact Below.refl _ _) | (with_reducible assumption) | (with_reducible refine Below.alloc ?_ ?_ _) | (with_reducible refine Below.drew ?_) | (with_reducible refine bdrewN ?_ _) | (with_reducible refine Below.setCell ?_ ?_ _) | (with_reducible refine Below.frame ?_ _) | go_size))
      · have hz := HZ.out q (by omega) (by omega)
        go_wp2
        go_roundw
        case rel => exact ⟨q, by omega, by omega, rfl, m0, rfl⟩
        case measure => simp [intOf]
abbrev T32 : TypeId := 54
theorem info32 : (Tryz.prog.info? 54).map (fun i => (i.zero, i.size, i.bytes)) = some (some (.int .u32 0), 1, 4) := by kernel_rfl
def ucs (o : Nat → Int) (n : Nat) : List Value := (List.range n).map (uc o)
theorem ucs_len (o : Nat → Int) (n : Nat) : (ucs o n).length = n := by simp [ucs]
theorem ucs_get (o : Nat → Int) (n i : Nat) (h : i < n) : (ucs o n)[i]? = some (uc o i) := by simp [ucs, h]
theorem ucs_get' {o : Nat → Int} {n j : Nat} {u : Value} (h : (ucs o n)[j]? = some u) : j < n ∧ u = uc o j := by
  have hj : j < n := by
    rcases Nat.lt_or_ge j n with h1 | h1
    · exact h1
    · rw [List.getElem?_eq_none (by rw [ucs_len]; exact h1)] at h; cases h
  rw [ucs_get o n j hj] at h
  exact ⟨hj, by cases h; rfl⟩
theorem ucs_succ (o : Nat → Int) (n : Nat) : ucs o (n + 1) = ucs o n ++ [uc o n] := by simp [ucs, List.range_succ]
theorem ucs_one {o : Nat → Int} {n : Nat} : ∀ u ∈ ucs o n, u.oneCell' = true := by
  intro u hu
  obtain ⟨i, _, rfl⟩ := List.mem_map.1 hu
  rfl
theorem Own.of_row {w : World} {base : Nat} {v : Value} {n : Nat} {o : Nat → Int} (h : w.ownsRow base 54 1 v n (ucs o n)) (hr : ∀ i, i < n → 0 ≤ o i ∧ o i ≤ 4294967295) :
    ∃ a cap, v = .slice a n cap ∧ Own 54 w base a n cap o ∧ (a = none → cap = 0) := by
  rcases h.2 with ⟨rfl, rfl⟩ | ⟨g, cap, cur, rfl, hb, hg, hnc, _, hsz, hx⟩
  · exact ⟨none, 0, rfl, ⟨Nat.le_refl _, Or.inl ⟨rfl, rfl, rfl⟩, hr⟩, fun _ => rfl⟩
  · refine ⟨_, cap, rfl, ⟨hnc, Or.inr ⟨g, cur, rfl, hb, hg, by omega, fun i hi => ?_⟩, hr⟩, fun h => by cases h⟩
    have h1 := ucs_get o n i hi
    rw [← hx, List.getElem?_take, if_pos (by omega), Array.getElem?_toList] at h1
    exact h1
theorem Own.row_nil (w : World) (base : Nat) (o : Nat → Int) : w.ownsRow base 54 1 (.slice none 0 0) 0 (ucs o 0) := ⟨rfl, Or.inl ⟨rfl, rfl⟩⟩
theorem q22 (w : World) (a : Option Addr) (n c n' c' : Nat) : (binOp .eql 22 (.slice a n c) (.slice none n' c')).run Tryz.prog w = .ok (.bool a.isNone) w := Lib.run_eql_slice_nil w _ _ a n c n' c' Tryz.underlying22
set_option maxRecDepth 100000 in
set_option maxHeartbeats 1000000 in
theorem clone_any (a : Option Addr) (n cap : Nat) (o : Nat → Int) (w : World) (h : Rd w a n o) (hn : n ≤ 1000000000) :
    Calls Tryz.prog 92 #[.slice a n cap] w fun e w' => ∃ a' cap', e = .returned (.slice a' n cap') ∧ Own 54 w' w.heap.size a' n cap' o ∧ (a' = none → cap' = 0) ∧ Below w.heap.size w w' := by
  have q := q22
  cases a with
  | none =>
    obtain rfl : n = 0 := by
      rcases Nat.eq_zero_or_pos n with h0 | h0
      · exact h0
      · obtain ⟨b, off, e, _⟩ := h.cells h0; cases e
    clear h
    go_enter Tryz.func92, Tryz.ntmps92
    go_wp2
    go_ret
    exact ⟨none, 0, rfl, ⟨Nat.le_refl _, Or.inl ⟨rfl, rfl, rfl⟩, fun i hi => by omega⟩, fun _ => rfl, Below.refl _ _⟩
  | some p =>
    obtain ⟨b, off, pt⟩ := p
    obtain ⟨i0, hi, hz0, hz1, hz2⟩ := info_parts info32
    have u22 : ∀ w, Sem.run Tryz.prog (underlying 22) w = .ok (TypeDesc.slice 54) w := run_underlying Tryz.underlying22
    have HC := Lib.hid h; clear h
    go_enter Tryz.func92, Tryz.ntmps92
    go_wp2_with (at_builtin; refine wpList_append_own _ rfl _ _ 22 rfl w.heap.size 54 i0 (.int .u32 0) 1 4 Tryz.underlying22 hi hz0 hz1 hz2 rfl (by decide) _ _ _ rfl (World.ownsRow_made w #[] 0 (Nat.le_refl _) (Nat.zero_le _) rfl) ⟨b, off, pt⟩ n cap (ucs o n) rfl ?qc1 ?qc2 ?qc3 ?qc4 ?qc5 ?qc6 ?_)
    case qc1 => rw [ucs_len]; omega
    case qc2 =>
      intro j u hj
      obtain ⟨hjn, rfl⟩ := ucs_get' hj
      obtain ⟨b', off', e, hc⟩ := HC.out.cells (by omega)
      cases e
      rw [Addr.add_lit]
      exact Lib.cell?_alloc_some _ (hc j hjn)
    case qc3 => exact ucs_one
    case qc4 => unfold maxLen; omega
    case qc5 => omega
    case qc6 => simp
    intro v' w1 hown hgrow hnil
    have hown : w1.ownsRow w.heap.size 54 1 v' n (ucs o n) := by simpa using hown
    obtain ⟨a', cap', rfl, hO, hN⟩ := Own.of_row hown HC.out.rng
    have hg2 := ((Below.refl _ w).alloc (Nat.le_refl _) _).grown hgrow (by simp) (by intro k hk; simp [Value.ownBlock] at hk; omega)
    clear hown hgrow hnil
    go_wp2
    go_ret
    exact ⟨a', cap', rfl, hO, hN, hg2⟩
theorem Own.of_rowIs {w : World} {g base n : Nat} {o : Nat → Int} (h : w.rowIs g 54 n (uc o)) (hb : base ≤ g) (hr : ∀ i, i < n → 0 ≤ o i ∧ o i ≤ 4294967295) : Own 54 w base (some ⟨g, 0, none⟩) n n o := by
  obtain ⟨c, hg, hn, hc⟩ := h
  exact ⟨Nat.le_refl _, Or.inr ⟨g, c, rfl, hb, hg, by omega, hc⟩, hr⟩
def upto (o : Nat → Int) (k i : Nat) : Value := if i < k then uc o i else .int .u32 0
theorem row_step {w : World} {g n k : Nat} {o : Nat → Int} (h : w.rowIs g 54 n (upto o k)) : (w.setCell ⟨g, k, none⟩ (uc o k)).rowIs g 54 n (upto o (k + 1)) :=
  (h.set k (uc o k)).congr fun i hi => by
    unfold upto
    by_cases e : i = k
    · subst e; rw [if_pos rfl, if_pos (by omega)]
    · rw [if_neg e]
      by_cases e2 : i < k
      · rw [if_pos e2, if_pos (by omega)]
      · rw [if_neg e2, if_neg (by omega)]
theorem tdiv_facts (x : Int) : ∃ Q R : Int, x.tdiv 1000000000 = Q ∧ x.tmod 1000000000 = R ∧ x = 1000000000 * Q + R ∧ ((0 ≤ x ∧ 0 ≤ R ∧ R < 1000000000) ∨ (x < 0 ∧ -1000000000 < R ∧ R ≤ 0)) := by
  rcases Int.lt_or_le x 0 with h | h
  · obtain ⟨y, rfl⟩ : ∃ y, x = -y := ⟨-x, by omega⟩
    refine ⟨_, _, rfl, rfl, ?_, Or.inr ⟨h, ?_, ?_⟩⟩
    · rw [Int.neg_tdiv, Int.neg_tmod, Int.tdiv_eq_ediv_of_nonneg (by omega), Int.tmod_eq_emod_of_nonneg (by omega)]; omega
    · rw [Int.neg_tmod, Int.tmod_eq_emod_of_nonneg (by omega)]; omega
    · rw [Int.neg_tmod, Int.tmod_eq_emod_of_nonneg (by omega)]; omega
  · refine ⟨_, _, rfl, rfl, ?_, Or.inl ⟨h, ?_, ?_⟩⟩
    · rw [Int.tdiv_eq_ediv_of_nonneg h, Int.tmod_eq_emod_of_nonneg h]; omega
    · rw [Int.tmod_eq_emod_of_nonneg h]; omega
    · rw [Int.tmod_eq_emod_of_nonneg h]; omega
theorem carry_step (f : Nat → Int) (k : Nat) : ∃ Q R : Int, (f k + cS f k).tdiv 1000000000 = Q ∧ (f k + cS f k).tmod 1000000000 = R ∧ -1000000000 < R ∧ R < 1000000000 ∧
    (R < 0 → cS f (k + 1) = Q - 1 ∧ cD f k = R + 1000000000) ∧ (0 ≤ R → cS f (k + 1) = Q ∧ cD f k = R) := by
  obtain ⟨Q, R, h1, h2, h3, h4⟩ := tdiv_facts (f k + cS f k)
  refine ⟨Q, R, h1, h2, by omega, by omega, fun h => ?_, fun h => ?_⟩
  · unfold cD; rw [cS]; omega
  · unfold cD; rw [cS]; omega
set_option maxHeartbeats 1000000 in
theorem carry_any (G : Nat) (cs : Array Value) (n : Nat) (f : Nat → Int) (lo hi : Int) (w : World) (hn : n ≤ 1000000000)
    (hcf : ∀ (args : Array Value) (w : World), (callFunc G args).run Tryz.prog w = .ok (.enter G args) w)
    (hF : ∀ k, k < n → ∀ w1, Below w.heap.size w w1 → Calls Tryz.prog G (#[.int .i64 k] ++ cs) w1 fun e w' => e = .returned (.int .i64 (f k)) ∧ Below w1.heap.size w1 w')
    (hf : ∀ k, k < n → lo * 999999999 ≤ f k ∧ f k ≤ hi * 999999999) (hl : -2000000000 ≤ lo) (hl0 : lo ≤ 0) (hh : hi ≤ 2000000000) (hh0 : 0 ≤ hi) :
    Calls Tryz.prog 139 #[.int .i64 n, .func (.func G) #[] cs] w fun e w' => e = .returned (.slice (some ⟨w.heap.size, 0, none⟩) n n) ∧ Own 54 w' w.heap.size (some ⟨w.heap.size, 0, none⟩) n n (cD f) ∧ Below w.heap.size w w' := by
  have HF := Lib.hid hF; clear hF
  have HB := Lib.hid hf; clear hf
  have hmk := run_make_row' (P := Tryz.prog) 22 54 (.int .u32 0) 4 Tryz.underlying22 info32 rfl .i64 .i64 n (by omega) (by omega)
  go_enter Tryz.func139, Tryz.ntmps139
  go_wp2
  go_loopw [6, 13] (fun on i wr => ∃ k : Nat, k ≤ n ∧ on = .int .i64 (cS f k) ∧ i = .int .i64 k ∧ wr.rowIs w.heap.size 54 n (upto (cD f) k) ∧ Below w.heap.size w wr) (fun _ i _ => n - (intOf i).toNat)
  case atStart => exact ⟨0, by omega, rfl, rfl, (World.rowIs_made w (.int .u32 0) n 54).congr (fun i _ => by unfold upto; rw [if_neg (by omega)]), by (repeat' (first | (with_reducible exact Below.refl _ _) | (with_reducible assumption) | (with_reducible refine Below.alloc ?_ ?_ _) | (with_reducible refine Below.drew ?_) | (with_reducible refine bdrewN ?_ _) | (with_reducible refine Below.setCell ?_ ?_ _) | (with_reducible refine Below.frame ?_ _) | go_size))⟩
  case round =>
    obtain ⟨k, hk, rfl, rfl, R, hb⟩ := hrel
    have HR := Lib.hid R
    have HW := Lib.hid hb
    clear R hb
    by_cases hkn : k < n
    · obtain ⟨Q, M, e1, e2, h3, h4, h5, h6⟩ := carry_step f k
      have b1 := HB.out k hkn
      have b2 := cS_bd hl0 hh0 (n := k) fun i hi => HB.out i (by omega)
      have b3 := cS_bd hl0 hh0 (n := k + 1) fun i hi => HB.out i (by omega)
      have C1 := HF.out k hkn wr HW.out
      clear hmk
      go_wp2_with fail
      refine C1.mono ?_
      rintro e w2 ⟨rfl, hb2⟩
      have R2 := Lib.hid (HR.out.of_block (hb2.block _ HR.out.lt))
      have W2 := Lib.hid (HW.out.trans (hb2.mono HW.out.size))
      obtain ⟨vo, hco⟩ : ∃ v, w2.cell? ⟨w.heap.size, k, none⟩ = some v := ⟨_, R2.out.cell hkn⟩
      have hfz := R2.out.frozen k
      have ea := IntWalk.i64_in (f k + cS f k) (by omega)
      clear hb2 C1 HR HW
      by_cases hM : M < 0
      · obtain ⟨h7, h8⟩ := h5 hM
        rw [h7] at b3
        have H7 := Lib.hid h7
        have H8 := Lib.hid h8
        have eu := IntWalk.u32_in (M + 1000000000) (by omega)
        clear h5 h6 h7 h8 b1 b2
        go_wp2
        go_roundw
        case rel => exact ⟨k + 1, by omega, by rw [H7.out], by go_num, by have h := row_step R2.out; rw [show uc (cD f) k = .int .u32 (M + 1000000000) by show Value.int .u32 (cD f k) = _; rw [H8.out]] at h; exact h, by have := W2.out; (repeat' (first | (with_reducible exact Below.refl _ _) | (with_reducible assumption) | (with_reducible refine Below.alloc ?_ ?_ _) | (with_reducible refine Below.drew ?_) | (with_reducible refine bdrewN ?_ _) | (with_reducible refine Below.setCell ?_ ?_ _) | (with_reducible refine Below.frame ?_ _) | go_size))⟩
        case measure => simp [intOf]; omega
      · obtain ⟨h7, h8⟩ := h6 (by omega)
        rw [h7] at b3
        have H7 := Lib.hid h7
        have H8 := Lib.hid h8
        have eu := IntWalk.u32_in M (by omega)
        clear h5 h6 h7 h8 b1 b2
        go_wp2
        go_roundw
        case rel => exact ⟨k + 1, by omega, by rw [H7.out], by go_num, by have h := row_step R2.out; rw [show uc (cD f) k = .int .u32 M by show Value.int .u32 (cD f k) = _; rw [H8.out]] at h; exact h, by have := W2.out; (repeat' (first | (with_reducible exact Below.refl _ _) | (with_reducible assumption) | (with_reducible refine Below.alloc ?_ ?_ _) | (with_reducible refine Below.drew ?_) | (with_reducible refine bdrewN ?_ _) | (with_reducible refine Below.setCell ?_ ?_ _) | (with_reducible refine Below.frame ?_ _) | go_size))⟩
        case measure => simp [intOf]; omega
    · obtain rfl : k = n := by omega
      clear hmk
      go_wp2
      go_ret
      exact ⟨rfl, Own.of_rowIs (HR.out.congr fun i hi => by unfold upto; rw [if_pos hi]) (Nat.le_refl _) (fun i hi => by have := cD_Dig f k i hi; omega), HW.out⟩
end Go.Proofs.YtefjjhfahebmeaaGreatDoor.Limb
namespace Go.Proofs.YtefjjhfahebmeaaGreatDoor.Limb
open Go.RowKit Go.Sort Go.Fresh
theorem cf_add (args : Array Value) (w : World) : (callFunc 140 args).run Tryz.prog w = .ok (.enter 140 args) w := by kernel_rfl
theorem add_plain (zp zq sg : Int) (h : zq.natAbs ≤ zp.natAbs) (hsg : sg = if decide (zp < 0) = decide (zq < 0) then 1 else -1) :
    0 ≤ (zp.natAbs : Int) + sg * (zq.natAbs : Int) ∧ ((zp.natAbs : Int) + sg * (zq.natAbs : Int)).toNat = (zp + zq).natAbs ∧
    (decide (zp < 0) && decide (0 < lenB (zp + zq).natAbs)) = decide (zp + zq < 0) := by
  have e0 : 0 < lenB (zp + zq).natAbs ↔ zp + zq ≠ 0 := by
    constructor
    · intro h1 h2; rw [h2, show Int.natAbs 0 = 0 from rfl, lenB_zero] at h1; omega
    · intro h1
      rcases Nat.eq_zero_or_pos (lenB (zp + zq).natAbs) with h2 | h2
      · have := lenB_eq_zero.1 h2; omega
      · exact h2
  by_cases h1 : zp < 0 <;> by_cases h2 : zq < 0 <;> simp only [h1, h2, decide_true, decide_false, if_true, reduceCtorEq, if_false] at hsg <;> subst hsg <;>
    refine ⟨by omega, by omega, ?_⟩ <;> simp only [h1, decide_true, decide_false, Bool.true_and, Bool.false_and]
  · exact decide_eq_decide.2 (e0.trans (by omega))
  · exact decide_eq_decide.2 (e0.trans (by omega))
  · exact (decide_eq_false (by omega)).symm
  · exact (decide_eq_false (by omega)).symm
def addF (x nx y ny : Nat) (sg : Int) (i : Nat) : Int := part (dgi x) nx i + sg * part (dgi y) ny i
theorem part_rng (x n i : Nat) : 0 ≤ part (dgi x) n i ∧ part (dgi x) n i ≤ 999999999 := by
  unfold part
  split
  · have := dgi_Dig x (i + 1) i (by omega); omega
  · omega
theorem addF_bd (x nx y ny : Nat) (sg : Int) (hsg : sg = 1 ∨ sg = -1) (i : Nat) : -1 * 999999999 ≤ addF x nx y ny sg i ∧ addF x nx y ny sg i ≤ 2 * 999999999 := by
  have h1 := part_rng x nx i
  have h2 := part_rng y ny i
  unfold addF
  rcases hsg with rfl | rfl <;> omega
theorem addF_sum (x y : Nat) (sg : Int) (h : lenB y ≤ lenB x + 1) : sumB (addF x (lenB x) y (lenB y) sg) (lenB x + 1) = x + sg * y := by
  have e : addF x (lenB x) y (lenB y) sg = fun i => part (dgi x) (lenB x) i + part (dgi y) (lenB y) i * sg := by funext i; unfold addF; rw [Int.mul_comm]
  rw [e, sumB_plus, sumB_times, sumB_part _ (by omega), sumB_part _ h, sumB_dgi, sumB_dgi, Int.mul_comm]
theorem add_lt (x y : Nat) (sg : Int) (hsg : sg = 1 ∨ sg = -1) (h : y ≤ x) : (x : Int) + sg * y < (pw (lenB x + 1) : Int) := by
  have h1 := lt_pw_lenB x
  rw [pw_succ]
  rcases hsg with rfl | rfl <;> omega
theorem quietOf {P : Program} {f : FuncId} {args : Array Value} {w : World} {n : Nat} {v : Value}
    (h : Calls P f args (w.drewN n) fun e w' => e = .returned v ∧ w' = w.drewN n) : Calls P f args (w.drewN n) fun e w'' => e = .returned v ∧ ∃ m, w'' = w.drewN m :=
  h.mono fun _ _ ⟨he, hm⟩ => ⟨he, n, hm⟩
set_option maxHeartbeats 1000000 in
theorem addFn (w : World) (b1 b2 b3 : Nat) (s1 s2 : Value) (T : TypeId) (p q : Option Addr) (f g : Nat → Int) (nx ny d e : Nat) (sg : Int) (k : Nat)
    (B1 : Bx w b1 T s1 (.slice p nx d)) (B2 : Bx w b2 T s2 (.slice q ny e)) (h3 : w.cell? ⟨b3, 0, none⟩ = some (.int .i64 sg)) (hp : Rd w p nx f) (hq : Rd w q ny g)
    (hx : nx ≤ 1000000000) (hy : ny ≤ 1000000000) (hk : k ≤ 1000000000) (hsg : sg = 1 ∨ sg = -1) (r1 : 0 ≤ part f nx k ∧ part f nx k ≤ 999999999) (r2 : 0 ≤ part g ny k ∧ part g ny k ≤ 999999999) :
    Calls Tryz.prog 140 #[.int .i64 k, .pointer (some ⟨b1, 0, none⟩), .pointer (some ⟨b3, 0, none⟩), .pointer (some ⟨b2, 0, none⟩)] w fun e w' => e = .returned (.int .i64 (part f nx k + sg * part g ny k)) ∧ Below w.heap.size w w' := by
  have P := Lib.hid (fun (w1 : World) (h : ∃ m, w1 = w.drewN m) => part_any p nx d f k w1 (by obtain ⟨m, rfl⟩ := h; exact hp.drewN m) hx hk)
  have Q := Lib.hid (fun (w1 : World) (h : ∃ m, w1 = w.drewN m) => part_any q ny e g k w1 (by obtain ⟨m, rfl⟩ := h; exact hq.drewN m) hy hk)
  have e1 := IntWalk.i64_in (sg * part g ny k) (by rcases hsg with rfl | rfl <;> omega)
  have e2 := IntWalk.i64_in (part f nx k + sg * part g ny k) (by rcases hsg with rfl | rfl <;> omega)
  generalize part f nx k = u at *
  generalize part g ny k = v at *
  have c1 := B1.c1
  have c2 := B2.c1
  clear B1 B2 hp hq
  go_enter Tryz.func140, Tryz.ntmps140
  go_wp2_with fail
  go_quiet (first | with_reducible exact quietOf (P.out _ ⟨_, rfl⟩) | with_reducible exact quietOf (Q.out _ ⟨_, rfl⟩))
  go_wp2
  go_ret
  exact ⟨rfl, bdrewN (Below.refl _ _) _⟩
theorem Own.cut {T : Nat} {w : World} {base : Nat} {a : Option Addr} {n cap L : Nat} {o o' : Nat → Int} (h : Own T w base a n cap o) (hL : L ≤ n) (e : ∀ i, i < L → o i = o' i) : Own T w base a L L o' := by
  refine ⟨Nat.le_refl _, ?_, fun i hi => by rw [← e i hi]; exact h.rng i (by omega)⟩
  rcases h.place with ⟨e0, h0, h1⟩ | ⟨g, cur, ha, hbg, hg, hcap, hc⟩
  · exact Or.inl ⟨e0, by omega, by omega⟩
  · exact Or.inr ⟨g, cur, ha, hbg, hg, by have := h.le; omega, fun i hi => by rw [hc i (by omega)]; show some (Value.int .u32 (o i)) = _; rw [e i hi]⟩
theorem Own.other {T : Nat} {w : World} {base : Nat} {a : Option Addr} {n cap : Nat} {o : Nat → Int} (h : Own T w base a n cap o) {p : Addr} (hp : p.block < base) (v : Value) : Own T (w.setCell p v) base a n cap o := by
  refine ⟨h.le, ?_, h.rng⟩
  rcases h.place with h0 | ⟨g, cur, ha, hbg, hg, hcap, hc⟩
  · exact Or.inl h0
  · exact Or.inr ⟨g, cur, ha, hbg, (Below.heap_setCell _ _ _ _ (by omega)).trans hg, hcap, hc⟩
theorem own_of {T g N b : Nat} {o : Nat → Int} {w : World} (h : ∃ x : Nat, Value.slice (some ⟨g, 0, none⟩) N N = .slice (some ⟨x, 0, none⟩) N N ∧ Own T w b (some ⟨x, 0, none⟩) N N o) : Own T w b (some ⟨g, 0, none⟩) N N o := by
  obtain ⟨x, e, h⟩ := h
  cases e
  exact h
theorem own_num {T L b : Nat} {s : Bool} {a : Option Addr} {o : Nat → Int} {w : World} {p : Option Addr → Prop} (h : ∃ x : Option Addr, numV s a L L = numV s x L L ∧ Own T w b x L L o ∧ p x) : Own T w b a L L o ∧ p a := by
  obtain ⟨x, e, h⟩ := h
  cases e
  exact h
set_option maxHeartbeats 400000 in
theorem add_any (s1 : Bool) (a1 : Option Addr) (n1 c1 : Nat) (o1 : Nat → Int) (s2 : Bool) (a2 : Option Addr) (n2 c2 : Nat) (o2 : Nat → Int) (w : World)
    (h1 : Rd w a1 n1 o1) (hn1 : n1 ≤ 100000000) (hc1 : n1 ≤ c1) (h2 : Rd w a2 n2 o2) (hn2 : n2 ≤ 100000000) (hc2 : n2 ≤ c2) :
    Calls Tryz.prog 87 #[numV s1 a1 n1 c1, numV s2 a2 n2 c2] w fun e w' => ∃ a, e = .returned (numV (decide (valN s1 n1 o1 + valN s2 n2 o2 < 0)) a (lenB (valN s1 n1 o1 + valN s2 n2 o2).natAbs) (lenB (valN s1 n1 o1 + valN s2 n2 o2).natAbs)) ∧
      Own 54 w' w.heap.size a (lenB (valN s1 n1 o1 + valN s2 n2 o2).natAbs) (lenB (valN s1 n1 o1 + valN s2 n2 o2).natAbs) (dgi (valN s1 n1 o1 + valN s2 n2 o2).natAbs) ∧ (a = none → lenB (valN s1 n1 o1 + valN s2 n2 o2).natAbs = 0) ∧ Below w.heap.size w w' := by
  obtain ⟨x1, d1, r1, l1, m1, O1⟩ := of_any s1 a1 n1 c1 o1 w h1 (by omega) hc1
  obtain ⟨x2, d2, r2, l2, m2, O2⟩ := of_any s2 a2 n2 c2 o2 w h2 (by omega) hc2
  generalize valN s1 n1 o1 = z1 at r1 l1 m1 O1 ⊢
  have HO1 := Lib.hid O1; clear O1
  generalize valN s2 n2 o2 = z2 at r2 l2 m2 O2 ⊢
  have HO2 := Lib.hid O2; clear O2
  have B1 := (((Bx.new w 24 (.bool s1) (.slice a1 n1 c1)).alloc (.cells #[.bool s2, .slice a2 n2 c2] 24)).alloc (.cells #[.bool false, .slice none 0 0] 24))
  have B2 := ((Bx.new2 w (.cells #[.bool s1, .slice a1 n1 c1] 24) 24 (.bool s2) (.slice a2 n2 c2)).alloc (.cells #[.bool false, .slice none 0 0] 24))
  have B3 := (Bx.new3 w (.cells #[.bool s1, .slice a1 n1 c1] 24) (.cells #[.bool s2, .slice a2 n2 c2] 24) 24 (.bool false) (.slice none 0 0))
  go_enter Tryz.func87, Tryz.ntmps87
  go_upto_region 1 with (fail)
  obtain ⟨W, hW⟩ : ∃ W, W = (((w.alloc (.cells #[.bool s1, .slice a1 n1 c1] 24)).alloc (.cells #[.bool s2, .slice a2 n2 c2] 24)).alloc (.cells #[.bool false, .slice none 0 0] 24)) := ⟨_, rfl⟩
  have G1 := Lib.hid (((Below.refl _ _).alloc (by go_size) _ |>.alloc (by go_size) _ |>.alloc (by go_size) _) : Below w.heap.size w (((w.alloc (.cells #[.bool s1, .slice a1 n1 c1] 24)).alloc (.cells #[.bool s2, .slice a2 n2 c2] 24)).alloc (.cells #[.bool false, .slice none 0 0] 24)))
  rw [← hW] at B1 B2 B3 G1
  rw [show (((w.alloc (.cells #[.bool s1, .slice a1 n1 c1] 24)).alloc (.cells #[.bool s2, .slice a2 n2 c2] 24)).alloc (.cells #[.bool false, .slice none 0 0] 24)) = W from hW.symm]
  clear hW
  go_cut [] (fun wx => Bx wx w.heap.size 24 (.bool (decide (z1 < 0))) (.slice x1 (lenB z1.natAbs) d1) ∧ Bx wx (w.heap.size + 1) 24 (.bool (decide (z2 < 0))) (.slice x2 (lenB z2.natAbs) d2) ∧
    Bx wx (w.heap.size + 1 + 1) 24 (.bool false) (.slice none 0 0) ∧ Below w.heap.size w wx)
  case first =>
    have HS1 := Lib.hid (fun (w' : World) (hb : Below W.heap.size W w') => And.intro (B1.below hb B1.lt).c0 (B1.below hb B1.lt).c1)
    have HS2 := Lib.hid (fun (w' : World) (hb : Below W.heap.size W w') => And.intro (B2.below hb B2.lt).c0 (B2.below hb B2.lt).c1)
    have HB1 := Lib.hid B1; have HB2 := Lib.hid B2; have HB3 := Lib.hid B3
    clear B1 B2 B3
    refine wp_region_fresh 4 (spOf [(1, Sp.know (numV (decide (z1 < 0)) x1 (lenB z1.natAbs) d1)), (3, Sp.know (numV (decide (z2 < 0)) x2 (lenB z2.natAbs) d2))]) (fun w' => Below W.heap.size W w') (by kernel_rfl) (by kernel_rfl)
      (spOf_cons (Sp.know_keeps _) (spOf_cons (Sp.know_keeps _) spOf_nil)) (fun _ _ h hb => h.trans (hb.mono h.size)) ((Below.refl _ _).drew) ?_
    simp only [List.take_succ_cons, List.take_zero, List.drop_succ_cons, List.drop_zero]
    (refine wpF_reads rfl rfl ?_ (fun w' hw' => ?_) ?_; rotate_left; · (have hb' := Has.world hw'; (have hs := HS1.out _ hb'); clear hw'; go_simp; try rfl))
    (refine wpF_spec rfl rfl (fun w' hw' => ?_) ?_; · (have hb' := Has.world hw'; go_simp; ((refine (HO1.out w' (G1.out.trans (hb'.mono G1.out.size))).mono ?_; rintro e w'' ⟨rfl, hb⟩; exact ⟨_, rfl, rfl, hb⟩))))
    rintro _ rfl
    (refine wpF_reads rfl rfl ?_ (fun w' hw' => ?_) ?_; rotate_left; · (have hb' := Has.world hw'; (have hs := HS2.out _ hb'); clear hw'; go_simp; try rfl))
    (refine wpF_spec rfl rfl (fun w' hw' => ?_) ?_; · (have hb' := Has.world hw'; go_simp; ((refine (HO2.out w' (G1.out.trans (hb'.mono G1.out.size))).mono ?_; rintro e w'' ⟨rfl, hb⟩; exact ⟨_, rfl, rfl, hb⟩))))
    rintro _ rfl
    refine wpF_nil (fun w1 hb1 hF => ?_)
    clear hF
    have C1 := HB1.out.below hb1 HB1.out.lt
    have C2 := HB2.out.below hb1 HB2.out.lt
    have C3 := HB3.out.below hb1 HB3.out.lt
    have G2 := G1.out.trans (hb1.mono G1.out.size)
    have K1 := Lib.hid C1; have K2 := Lib.hid C2; have K3 := Lib.hid C3
    obtain ⟨b10, b11, b12, b13⟩ := C1.all
    obtain ⟨b20, b21, b22, b23⟩ := C2.all
    have KG := Lib.hid G2
    clear C1 C2 C3 hb1 HS1 HS2 G2
    go_wp2_with fail
    go_meet
    case rel =>
      exact ⟨((K1.out.set _ _).other (by dsimp only; omega) _).other (by dsimp only; omega) _, ((K2.out.other (by dsimp only; omega) _).other (by dsimp only; omega) _).set _ _, (((K3.out.other (by dsimp only; omega) _).other (by dsimp only; omega) _).other (by dsimp only; omega) _).other (by dsimp only; omega) _,
        (((KG.out.setCell (by simp) _).setCell (by simp) _).setCell (by simp) _).setCell (by simp) _⟩
  case rest =>
    obtain ⟨B1, B2, B3, G1⟩ := hcut
    obtain ⟨w1, rfl⟩ : ∃ w1, w1 = wc := ⟨_, rfl⟩
    have R1 := r1.below G1
    have R2 := r2.below G1
    have AM := Lib.hid (amounts_any z1.natAbs z2.natAbs x1 x2 d1 d2 w1 R1 R2 (by omega) (by omega))
    have K1 := Lib.hid B1; have K2 := Lib.hid B2; have K3 := Lib.hid B3
    have KG := Lib.hid G1
    have HR := Lib.hid (And.intro r1 r2)
    obtain ⟨b10, b11, b12, b13⟩ := B1.all
    obtain ⟨b20, b21, b22, b23⟩ := B2.all
    clear B1 B2 B3 G1 R1 R2 r1 r2 h1 h2 HO1 HO2
    go_upto_if 15 with (first
      | (go_at_call 91; refine AM.out.mono ?_; rintro e w2 ⟨rfl, m, rfl⟩))
    go_cut [] (fun wx => ∃ (zp zq : Int) (xp xq : Option Addr) (dp dq : Nat), zp + zq = z1 + z2 ∧ zq.natAbs ≤ zp.natAbs ∧ lenB zp.natAbs ≤ 100000000 ∧ Rd w xp (lenB zp.natAbs) (dgi zp.natAbs) ∧ Rd w xq (lenB zq.natAbs) (dgi zq.natAbs) ∧
      Bx wx w.heap.size 24 (.bool (decide (zp < 0))) (.slice xp (lenB zp.natAbs) dp) ∧ Bx wx (w.heap.size + 1) 24 (.bool (decide (zq < 0))) (.slice xq (lenB zq.natAbs) dq) ∧
      Bx wx (w.heap.size + 1 + 1) 24 (.bool false) (.slice none 0 0) ∧ Below w.heap.size w wx)
    case first =>
      by_cases hlt : z1.natAbs < z2.natAbs
      · rw [show cmpZ (z1.natAbs : Int) (z2.natAbs : Int) = -1 from cmpZ_lt (by omega)]
        go_wp2_with fail
        go_meet
        case rel =>
          exact ⟨z2, z1, x2, x1, d2, d1, by omega, by omega, by omega, HR.out.2, HR.out.1,
            ((K1.out.drewN m |>.set _ _).other (by dsimp only; omega) _).other (by dsimp only; omega) _, ((K2.out.drewN m |>.other (by dsimp only; omega) _).other (by dsimp only; omega) _).set _ _,
            (((K3.out.drewN m |>.other (by dsimp only; omega) _).other (by dsimp only; omega) _).other (by dsimp only; omega) _).other (by dsimp only; omega) _,
            ((((bdrewN KG.out m).setCell (by simp) _).setCell (by simp) _).setCell (by simp) _).setCell (by simp) _⟩
      · have hc : decide (cmpZ (z1.natAbs : Int) (z2.natAbs : Int) < 0) = false := by
          refine decide_eq_false ?_
          rcases Nat.lt_or_ge z2.natAbs z1.natAbs with h | h
          · rw [cmpZ_gt (by omega)]; omega
          · rw [cmpZ_eq (by omega)]; omega
        rw [hc]
        clear hc
        go_wp2_with fail
        go_meet
        case rel => exact ⟨z1, z2, x1, x2, d1, d2, by omega, by omega, by omega, HR.out.1, HR.out.2, K1.out.drewN m, K2.out.drewN m, K3.out.drewN m, bdrewN KG.out m⟩
    case rest =>
      obtain ⟨zp, zq, xp, xq, dp, dq, ez, hle, hlp, rp, rq, B1, B2, B3, G1⟩ := hcut
      obtain ⟨w3, rfl⟩ : ∃ w3, w3 = wc := ⟨_, rfl⟩
      have K1 := Lib.hid B1; have K2 := Lib.hid B2; have K3 := Lib.hid B3
      have KG := Lib.hid G1
      have HP := Lib.hid rp; have HQ := Lib.hid rq
      have HE := Lib.hid ez; have HL := Lib.hid hle; have HLP := Lib.hid hlp
      have hsz : w.heap.size + 1 + 1 < w3.heap.size := B3.lt
      obtain ⟨b10, b11, b12, b13⟩ := B1.all
      obtain ⟨b20, b21, b22, b23⟩ := B2.all
      obtain ⟨sg, hsg⟩ : ∃ sg : Int, sg = if decide (zp < 0) = decide (zq < 0) then 1 else -1 := ⟨_, rfl⟩
      have HS := Lib.hid hsg
      clear B1 B2 B3 G1 rp rq ez hle hlp HR AM hsg
      go_upto_if 22 with (fail)
      go_cut [] (fun wx => Bx wx w.heap.size 24 (.bool (decide (zp < 0))) (.slice xp (lenB zp.natAbs) dp) ∧ Bx wx (w.heap.size + 1) 24 (.bool (decide (zq < 0))) (.slice xq (lenB zq.natAbs) dq) ∧
        Bx wx (w.heap.size + 1 + 1) 24 (.bool false) (.slice none 0 0) ∧ wx.rowIs w3.heap.size 2 1 (fun _ => .int .i64 sg) ∧ Below w.heap.size w wx)
      case first =>
        by_cases hs : decide (zp < 0) = decide (zq < 0)
        · have e0 : (!(decide (zp < 0) == decide (zq < 0))) = false := by rw [hs]; simp
          have S := Lib.hid (HS.out.trans (if_pos hs))
          rw [e0]
          clear e0 hs
          go_wp2_with fail
          go_meet
          case rel =>
            exact ⟨K1.out.alloc _, K2.out.alloc _, K3.out.alloc _, by
              have h := World.rowIs_alloc w3 #[.int .i64 1] 2 (fun _ => .int .i64 sg) (fun i hi => by
                match i, hi with
                | 0, _ => rw [S.out]; rfl)
              exact h, KG.out.alloc KG.out.size _⟩
        · have e0 : (!(decide (zp < 0) == decide (zq < 0))) = true := by simpa using hs
          have S := Lib.hid (HS.out.trans (if_neg hs))
          rw [e0]
          clear e0 hs
          go_wp2_with fail
          go_meet
          case rel =>
            exact ⟨K1.out.alloc _, K2.out.alloc _, K3.out.alloc _, by
              have h := World.rowIs_alloc w3 #[.int .i64 (-1)] 2 (fun _ => .int .i64 sg) (fun i hi => by
                match i, hi with
                | 0, _ => rw [S.out]; rfl)
              exact h, KG.out.alloc KG.out.size _⟩
      case rest =>
        obtain ⟨B1, B2, B3, BS, G1⟩ := hcut
        obtain ⟨w4, rfl⟩ : ∃ w4, w4 = wc := ⟨_, rfl⟩
        have HB1 := Lib.hid B1; have HB2 := Lib.hid B2; have HB3 := Lib.hid B3; have HBS := Lib.hid BS; have HG := Lib.hid G1
        clear K1 K2 K3 KG b10 b11 b12 b13 b20 b21 b22 b23 B1 B2 B3 BS G1
        have hcf := Lib.hid cf_add
        obtain ⟨F, hF⟩ : ∃ F : Nat → Int, F = fun k => part (dgi zp.natAbs) (lenB zp.natAbs) k + sg * part (dgi zq.natAbs) (lenB zq.natAbs) k := ⟨_, rfl⟩
        have hs1 : sg = 1 ∨ sg = -1 := by rw [HS.out]; split <;> simp
        have hlq : lenB zq.natAbs ≤ lenB zp.natAbs := lenB_mono HL.out
        have hlp : lenB zp.natAbs ≤ 100000000 := HLP.out
        have hsum : sumB F (lenB zp.natAbs + 1) = (zp.natAbs : Int) + sg * (zq.natAbs : Int) := by rw [hF]; exact addF_sum _ _ _ (by omega)
        obtain ⟨p1, p2, p3⟩ := add_plain zp zq sg HL.out HS.out
        have hcs := cS_fits (f := F) (n := lenB zp.natAbs + 1) (by rw [hsum]; exact p1) (by rw [hsum]; exact add_lt _ _ _ hs1 HL.out)
        have hcut : sumB (cD F) (lenB zp.natAbs + 1) = (zp.natAbs : Int) + sg * (zq.natAbs : Int) := hcs.2.trans hsum
        rw [HE.out] at p2 p3
        have CARRY := Lib.hid (fun (w' : World) (hb : Below w4.heap.size w4 w') => carry_any 140 #[.pointer (some ⟨w.heap.size, 0, none⟩), .pointer (some ⟨w3.heap.size, 0, none⟩), .pointer (some ⟨w.heap.size + 1, 0, none⟩)] (lenB zp.natAbs + 1) F (-1) 2 w' (by omega) cf_add
          (fun k hk w1 hb1 => by
            have hbb : Below w4.heap.size w4 w1 := hb.trans (hb1.mono hb.size)
            have := addFn w1 w.heap.size (w.heap.size + 1) w3.heap.size _ _ _ xp xq (dgi zp.natAbs) (dgi zq.natAbs) (lenB zp.natAbs) (lenB zq.natAbs) dp dq sg k (HB1.out.below hbb HB1.out.lt) (HB2.out.below hbb HB2.out.lt)
              ((hbb.cell (p := ⟨w3.heap.size, 0, none⟩) HBS.out.lt).trans (HBS.out.cell (i := 0) (by omega)))
              (HP.out.below (HG.out.trans (hbb.mono HG.out.size))) (HQ.out.below (HG.out.trans (hbb.mono HG.out.size))) (by omega) (by omega) (by omega) hs1 (part_rng _ _ _) (part_rng _ _ _)
            rw [hF]
            exact this) (fun k _ => by rw [hF]; exact addF_bd _ _ _ _ _ hs1 k) (by omega) (by omega) (by omega) (by omega))
        have HF := Lib.hid hF; clear hF
        have HC := Lib.hid hcut; clear hcut
        have HS1 := Lib.hid (fun (w' : World) (hb : Below w4.heap.size w4 w') => And.intro (HB1.out.below hb HB1.out.lt).c0 (HB1.out.below hb HB1.out.lt).c1)
        have HP2 := Lib.hid p2; have HP3 := Lib.hid p3
        clear hsum p1 p2 p3 hcs HE HS HL
        obtain ⟨N, hN⟩ : ∃ N, N = lenB zp.natAbs + 1 := ⟨_, rfl⟩
        have HN := Lib.hid hN
        rw [← hN] at CARRY HC
        have hNb : N ≤ 100000001 := by omega
        have ew : IntKind.i64.wrap ((lenB zp.natAbs : Int) + 1) = (N : Int) := by rw [IntWalk.i64_in _ (by omega)]; omega
        have HD := Lib.hid (show lenB (z1 + z2).natAbs ≤ N ∧ ∀ i, i < lenB (z1 + z2).natAbs → cD F i = dgi (z1 + z2).natAbs i by
          have h1 := lenB_le_of (cD_Dig F N)
          rw [HC.out, HP2.out] at h1
          refine ⟨h1, fun i hi => ?_⟩
          have h2 := dg_sumB (cD_Dig F N) i (by omega)
          rw [HC.out, HP2.out] at h2
          exact h2.symm)
        have CUT := Lib.hid (fun (w' : World) (g : Nat) (ho : Own 54 w' w4.heap.size (some ⟨g, 0, none⟩) N N (cD F)) => cut_any (decide (zp < 0)) (some ⟨g, 0, none⟩) N N (cD F) w' ho.rd (cD_Dig F N) (by omega) (Nat.le_refl _) (fun h => by cases h))
        rw [HC.out, HP2.out, HP3.out] at CUT
        clear hN
        go_upto_region 7 with (fail)
        refine wp_region_fresh 9 (spOf [(7, Sp.made (fun g : Nat => .slice (some ⟨g, 0, none⟩) N N) (fun g w' => Own 54 w' w4.heap.size (some ⟨g, 0, none⟩) N N (cD F))),
            (8, Sp.made (fun a : Option Addr => numV (decide (z1 + z2 < 0)) a (lenB (z1 + z2).natAbs) (lenB (z1 + z2).natAbs)) (fun a w' => Own 54 w' w4.heap.size a (lenB (z1 + z2).natAbs) (lenB (z1 + z2).natAbs) (dgi (z1 + z2).natAbs) ∧ (a = none → lenB (z1 + z2).natAbs = 0)))])
          (fun w' => Below w4.heap.size w4 w') (by kernel_rfl) (by kernel_rfl)
          (spOf_cons (Sp.made_keeps fun x w w' h hb => h.below hb) (spOf_cons (Sp.made_keeps fun x w w' h hb => ⟨h.1.below hb, h.2⟩) spOf_nil)) (fun _ _ h hb => h.trans (hb.mono h.size)) ((Below.refl _ _).drew) ?_
        simp only [List.take_succ_cons, List.take_zero, List.drop_succ_cons, List.drop_zero]
        (refine wpF_reads rfl rfl ?_ (fun w' hw' => ?_) ?_; rotate_left; · (have hb' := Has.world hw'; (skip); clear hw'; go_simp; try rfl))
        (refine wpF_reads rfl rfl ?_ (fun w' hw' => ?_) ?_; rotate_left; · (have hb' := Has.world hw'; (have hs := HS1.out _ hb'); clear hw'; go_simp; try rfl))
        (refine wpF_reads rfl rfl ?_ (fun w' hw' => ?_) ?_; rotate_left; · (have hb' := Has.world hw'; (skip); clear hw'; go_simp; try rfl))
        (refine wpF_reads rfl rfl ?_ (fun w' hw' => ?_) ?_; rotate_left; · (have hb' := Has.world hw'; (have hs := HS1.out _ hb'); clear hw'; go_simp; try rfl))
        (refine wpF_reads rfl rfl ?_ (fun w' hw' => ?_) ?_; rotate_left; · (have hb' := Has.world hw'; (skip); clear hw'; go_simp; try rfl))
        (refine wpF_reads rfl rfl ?_ (fun w' hw' => ?_) ?_; rotate_left; · (have hb' := Has.world hw'; (skip); clear hw'; go_simp; try rfl))
        (refine wpF_reads rfl rfl ?_ (fun w' hw' => ?_) ?_; rotate_left; · (have hb' := Has.world hw'; (skip); clear hw'; go_simp; try rfl))
        (refine wpF_spec rfl rfl (fun w' hw' => ?_) ?_; · (have hb' := Has.world hw'; go_simp; ((refine (CARRY.out w' hb').mono ?_; rintro e w'' ⟨rfl, ho, hb⟩; exact ⟨_, rfl, ⟨⟨_, rfl⟩, ⟨_, rfl, ho.mono hb'.size⟩⟩, hb⟩))))
        rintro _ ⟨g, rfl⟩
        (refine wpF_spec rfl rfl (fun w' hw' => ?_) ?_; · (have hb' := Has.world hw'; go_simp; ((have h7 := own_of (g := g) (N := N) (T := 54) (o := cD F) (b := w4.heap.size) (hw'.fact 7 (by kernel_rfl)); refine (CUT.out w' g h7).mono ?_; rintro e w'' ⟨rfl, hb⟩; exact ⟨_, rfl, ⟨⟨_, rfl⟩, ⟨_, rfl, (h7.below hb).cut HD.out.1 HD.out.2, fun h => by cases h⟩⟩, hb⟩))))
        rintro _ ⟨a, rfl⟩
        refine wpF_nil (fun w5 hb5 hF5 => ?_)
        have OA := own_num (T := 54) (b := w4.heap.size) (s := decide (z1 + z2 < 0)) (L := lenB (z1 + z2).natAbs) (o := dgi (z1 + z2).natAbs) (a := a) (p := fun x => x = none → lenB (z1 + z2).natAbs = 0) (hF5 8)
        have HO := Lib.hid OA
        have B3 := HB3.out.below hb5 HB3.out.lt
        have HB5 := Lib.hid B3
        obtain ⟨b30, b31, b32, b33⟩ := B3.all
        have HG5 := Lib.hid (HG.out.trans (hb5.mono HG.out.size))
        have hz4 := HB3.out.lt
        have hz5 := HG.out.size
        clear hF5 OA B3 hb5 HS1 CARRY CUT HD
        go_wp2_with fail
        refine bodyPost_ret (results_cell rfl _ _ _ _ _ _ _ rfl (HB5.out.set _ _) Tryz.underlying24 rfl (by kernel_rfl)) rfl ⟨a, rfl, ?_, HO.out.2, ?_⟩
        · exact ((HO.out.1.other (by dsimp only; omega) _).other (by dsimp only; omega) _).mono hz5
        · exact (HG5.out.setCell (by dsimp only; omega) _).setCell (by dsimp only; omega) _
def ResN (w : World) (z : Int) (e : Ending) (w' : World) : Prop :=
  ∃ a, e = .returned (numV (decide (z < 0)) a (lenB z.natAbs) (lenB z.natAbs)) ∧ Own 54 w' w.heap.size a (lenB z.natAbs) (lenB z.natAbs) (dgi z.natAbs) ∧ (a = none → lenB z.natAbs = 0) ∧ Below w.heap.size w w'
theorem add_res (s1 : Bool) (a1 : Option Addr) (n1 c1 : Nat) (o1 : Nat → Int) (s2 : Bool) (a2 : Option Addr) (n2 c2 : Nat) (o2 : Nat → Int) (w : World)
    (h1 : Rd w a1 n1 o1) (hn1 : n1 ≤ 100000000) (hc1 : n1 ≤ c1) (h2 : Rd w a2 n2 o2) (hn2 : n2 ≤ 100000000) (hc2 : n2 ≤ c2) :
    Calls Tryz.prog 87 #[numV s1 a1 n1 c1, numV s2 a2 n2 c2] w (ResN w (valN s1 n1 o1 + valN s2 n2 o2)) := add_any s1 a1 n1 c1 o1 s2 a2 n2 c2 o2 w h1 hn1 hc1 h2 hn2 hc2
theorem canon_ok (z : Int) : okN (decide (z < 0)) (lenB z.natAbs) (dgi z.natAbs) := by
  refine ⟨fun i hi => (dgi_Dig _ _ i hi).2, fun h => ?_, fun h => ?_⟩
  · have := lenB_eq_zero.1 h
    exact decide_eq_false (by omega)
  · have h1 := dg_last (m := z.natAbs) (fun e => by rw [e, lenB_zero] at h; omega)
    show ((dg z.natAbs (lenB z.natAbs - 1) : Nat) : Int) ≠ 0
    omega
theorem canon_val (z : Int) : valN (decide (z < 0)) (lenB z.natAbs) (dgi z.natAbs) = z := by
  unfold valN
  rw [if_pos (canon_ok z), sumB_dgi]
  by_cases h : z < 0
  · rw [if_pos (decide_eq_true h)]; omega
  · rw [if_neg (by simpa using h)]; omega
theorem pos_len {z : Int} : 0 < lenB z.natAbs ↔ z ≠ 0 := by
  constructor
  · intro h1 h2; rw [h2, show Int.natAbs 0 = 0 from rfl, lenB_zero] at h1; omega
  · intro h1
    rcases Nat.eq_zero_or_pos (lenB z.natAbs) with h2 | h2
    · have := lenB_eq_zero.1 h2; omega
    · exact h2
theorem cmpZ_amounts (x y : Int) : cmpZ x y = if x < 0 then (if y < 0 then cmpZ (y.natAbs : Int) (x.natAbs : Int) else -1) else if y < 0 then 1 else cmpZ (x.natAbs : Int) (y.natAbs : Int) := by
  by_cases h1 : x < 0 <;> by_cases h2 : y < 0
  · rw [if_pos h1, if_pos h2]; exact cmpZ_congr (by omega) (by omega)
  · rw [if_pos h1, if_neg h2]; exact cmpZ_lt (by omega)
  · rw [if_neg h1, if_pos h2]; exact cmpZ_gt (by omega)
  · rw [if_neg h1, if_neg h2]; exact cmpZ_congr (by omega) (by omega)
set_option maxHeartbeats 1000000 in
theorem cmp_any (s1 : Bool) (a1 : Option Addr) (n1 c1 : Nat) (o1 : Nat → Int) (s2 : Bool) (a2 : Option Addr) (n2 c2 : Nat) (o2 : Nat → Int) (w : World)
    (h1 : Rd w a1 n1 o1) (hn1 : n1 ≤ 100000000) (hc1 : n1 ≤ c1) (h2 : Rd w a2 n2 o2) (hn2 : n2 ≤ 100000000) (hc2 : n2 ≤ c2) :
    Calls Tryz.prog 30 #[numV s1 a1 n1 c1, numV s2 a2 n2 c2] w fun e w' => e = .returned (.int .i64 (cmpZ (valN s1 n1 o1) (valN s2 n2 o2))) ∧ Below w.heap.size w w' := by
  obtain ⟨x1, d1, r1, l1, m1, O1⟩ := of_any s1 a1 n1 c1 o1 w h1 (by omega) hc1
  obtain ⟨x2, d2, r2, l2, m2, O2⟩ := of_any s2 a2 n2 c2 o2 w h2 (by omega) hc2
  generalize valN s1 n1 o1 = z1 at r1 l1 m1 O1 ⊢
  have HO1 := Lib.hid O1; clear O1
  generalize valN s2 n2 o2 = z2 at r2 l2 m2 O2 ⊢
  have HO2 := Lib.hid O2; clear O2
  have B1 := ((Bx.new w 24 (.bool s1) (.slice a1 n1 c1)).alloc (.cells #[.bool s2, .slice a2 n2 c2] 24))
  have B2 := (Bx.new2 w (.cells #[.bool s1, .slice a1 n1 c1] 24) 24 (.bool s2) (.slice a2 n2 c2))
  go_enter Tryz.func30, Tryz.ntmps30
  go_upto_region 1 with (fail)
  obtain ⟨W, hW⟩ : ∃ W, W = ((w.alloc (.cells #[.bool s1, .slice a1 n1 c1] 24)).alloc (.cells #[.bool s2, .slice a2 n2 c2] 24)) := ⟨_, rfl⟩
  have G1 := Lib.hid (((Below.refl _ _).alloc (by go_size) _ |>.alloc (by go_size) _) : Below w.heap.size w ((w.alloc (.cells #[.bool s1, .slice a1 n1 c1] 24)).alloc (.cells #[.bool s2, .slice a2 n2 c2] 24)))
  rw [← hW] at B1 B2 G1
  rw [show ((w.alloc (.cells #[.bool s1, .slice a1 n1 c1] 24)).alloc (.cells #[.bool s2, .slice a2 n2 c2] 24)) = W from hW.symm]
  clear hW
  go_cut [] (fun wx => Bx wx w.heap.size 24 (.bool (decide (z1 < 0))) (.slice x1 (lenB z1.natAbs) d1) ∧ Bx wx (w.heap.size + 1) 24 (.bool (decide (z2 < 0))) (.slice x2 (lenB z2.natAbs) d2) ∧ Below w.heap.size w wx)
  case first =>
    have HS1 := Lib.hid (fun (w' : World) (hb : Below W.heap.size W w') => And.intro (B1.below hb B1.lt).c0 (B1.below hb B1.lt).c1)
    have HS2 := Lib.hid (fun (w' : World) (hb : Below W.heap.size W w') => And.intro (B2.below hb B2.lt).c0 (B2.below hb B2.lt).c1)
    have HB1 := Lib.hid B1; have HB2 := Lib.hid B2
    clear B1 B2
    refine wp_region_fresh 4 (spOf [(1, Sp.know (numV (decide (z1 < 0)) x1 (lenB z1.natAbs) d1)), (3, Sp.know (numV (decide (z2 < 0)) x2 (lenB z2.natAbs) d2))]) (fun w' => Below W.heap.size W w') (by kernel_rfl) (by kernel_rfl)
      (spOf_cons (Sp.know_keeps _) (spOf_cons (Sp.know_keeps _) spOf_nil)) (fun _ _ h hb => h.trans (hb.mono h.size)) ((Below.refl _ _).drew) ?_
    simp only [List.take_succ_cons, List.take_zero, List.drop_succ_cons, List.drop_zero]
    (refine wpF_reads rfl rfl ?_ (fun w' hw' => ?_) ?_; rotate_left; · (have hb' := Has.world hw'; (have hs := HS1.out _ hb'); clear hw'; go_simp; try rfl))
    (refine wpF_spec rfl rfl (fun w' hw' => ?_) ?_; · (have hb' := Has.world hw'; go_simp; ((refine (HO1.out w' (G1.out.trans (hb'.mono G1.out.size))).mono ?_; rintro e w'' ⟨rfl, hb⟩; exact ⟨_, rfl, rfl, hb⟩))))
    rintro _ rfl
    (refine wpF_reads rfl rfl ?_ (fun w' hw' => ?_) ?_; rotate_left; · (have hb' := Has.world hw'; (have hs := HS2.out _ hb'); clear hw'; go_simp; try rfl))
    (refine wpF_spec rfl rfl (fun w' hw' => ?_) ?_; · (have hb' := Has.world hw'; go_simp; ((refine (HO2.out w' (G1.out.trans (hb'.mono G1.out.size))).mono ?_; rintro e w'' ⟨rfl, hb⟩; exact ⟨_, rfl, rfl, hb⟩))))
    rintro _ rfl
    refine wpF_nil (fun w1 hb1 hF => ?_)
    clear hF
    have C1 := HB1.out.below hb1 HB1.out.lt
    have C2 := HB2.out.below hb1 HB2.out.lt
    have G2 := G1.out.trans (hb1.mono G1.out.size)
    have K1 := Lib.hid C1; have K2 := Lib.hid C2
    obtain ⟨b10, b11, b12, b13⟩ := C1.all
    obtain ⟨b20, b21, b22, b23⟩ := C2.all
    have KG := Lib.hid G2
    clear C1 C2 hb1 HS1 HS2 G2
    go_wp2_with fail
    go_meet
    case rel =>
      exact ⟨((K1.out.set _ _).other (by dsimp only; omega) _).other (by dsimp only; omega) _, ((K2.out.other (by dsimp only; omega) _).other (by dsimp only; omega) _).set _ _  ,
        (((KG.out.setCell (by simp) _).setCell (by simp) _).setCell (by simp) _).setCell (by simp) _⟩
  case rest =>
    obtain ⟨B1, B2, G1⟩ := hcut
    obtain ⟨w1, rfl⟩ : ∃ w1, w1 = wc := ⟨_, rfl⟩
    have R1 := r1.below G1
    have R2 := r2.below G1
    have AM := Lib.hid (amounts_any z1.natAbs z2.natAbs x1 x2 d1 d2 w1 R1 R2 (by omega) (by omega))
    have AN := Lib.hid (amounts_any z2.natAbs z1.natAbs x2 x1 d2 d1 w1 R2 R1 (by omega) (by omega))
    have KG := Lib.hid G1
    have E := Lib.hid (cmpZ_amounts z1 z2)
    obtain ⟨b10, b11, b12, b13⟩ := B1.all
    obtain ⟨b20, b21, b22, b23⟩ := B2.all
    clear B1 B2 G1 R1 R2 r1 r2 h1 h2 HO1 HO2
    by_cases n1 : z1 < 0 <;> by_cases n2 : z2 < 0
    · have E2 := Lib.hid (E.out.trans (by rw [if_pos n1, if_pos n2]))
      rw [decide_eq_true n1] at b10
      rw [decide_eq_true n2] at b20
      clear n1 n2 E
      go_wp2_with fail
      refine AN.out.mono ?_
      rintro e w2 ⟨rfl, m, rfl⟩
      go_wp2
      go_ret
      exact ⟨by rw [E2.out]; rfl, bdrewN KG.out m⟩
    · have E2 := Lib.hid (E.out.trans (by rw [if_pos n1, if_neg n2]))
      rw [decide_eq_true n1] at b10
      rw [decide_eq_false n2] at b20
      clear n1 n2 E
      go_wp2
      go_ret
      exact ⟨by rw [E2.out]; rfl, KG.out⟩
    · have E2 := Lib.hid (E.out.trans (by rw [if_neg n1, if_pos n2]))
      rw [decide_eq_false n1] at b10
      rw [decide_eq_true n2] at b20
      clear n1 n2 E
      go_wp2
      go_ret
      exact ⟨by rw [E2.out]; rfl, KG.out⟩
    · have E2 := Lib.hid (E.out.trans (by rw [if_neg n1, if_neg n2]))
      rw [decide_eq_false n1] at b10
      rw [decide_eq_false n2] at b20
      clear n1 n2 E
      go_wp2_with fail
      refine AM.out.mono ?_
      rintro e w2 ⟨rfl, m, rfl⟩
      go_wp2
      go_ret
      exact ⟨by rw [E2.out]; rfl, bdrewN KG.out m⟩
theorem rows_upd {w : World} {g n j : Nat} {p : Nat → Int} (h : w.rowIs g 54 n (uc p)) (v : Int) : (w.setCell ⟨g, j, none⟩ (.int .u32 v)).rowIs g 54 n (uc (upd p j v)) :=
  (h.set j (.int .u32 v)).congr fun i hi => by
    by_cases e : i = j
    · subst e; rw [if_pos rfl]; show _ = Value.int .u32 (upd p i v i); rw [upd_same]
    · rw [if_neg e]; show Value.int .u32 (p i) = Value.int .u32 (upd p j v i); rw [upd_ne p v e]
theorem mul_sign (z1 z2 : Int) : ((!(decide (z1 < 0) == decide (z2 < 0))) && decide (0 < lenB (z1 * z2).natAbs)) = decide (z1 * z2 < 0) := by
  have e0 := pos_len (z := z1 * z2)
  rcases Int.lt_trichotomy z1 0 with h1 | h1 | h1
  · rcases Int.lt_trichotomy z2 0 with h2 | h2 | h2
    · have := Int.mul_pos_of_neg_of_neg h1 h2
      simp [h1, h2]; omega
    · subst h2; simp [h1, lenB_zero]
    · have := Int.mul_neg_of_neg_of_pos h1 h2
      have h3 : ¬ z2 < 0 := by omega
      simp only [h1, h3, decide_true, decide_false, Bool.true_beq, Bool.not_false, Bool.true_and]
      exact decide_eq_decide.2 (e0.trans (by omega))
  · subst h1; simp [lenB_zero]
  · rcases Int.lt_trichotomy z2 0 with h2 | h2 | h2
    · have := Int.mul_neg_of_pos_of_neg h1 h2
      have h3 : ¬ z1 < 0 := by omega
      simp only [h2, h3, decide_true, decide_false, Bool.false_beq, Bool.not_true, Bool.not_false, Bool.true_and]
      exact decide_eq_decide.2 (e0.trans (by omega))
    · subst h2; simp [lenB_zero]
    · have := Int.mul_pos h1 h2
      have h3 : ¬ z1 < 0 := by omega
      have h4 : ¬ z2 < 0 := by omega
      simp [h3, h4]; omega
set_option maxHeartbeats 2000000 in
theorem mul_any (s1 : Bool) (a1 : Option Addr) (n1 c1 : Nat) (o1 : Nat → Int) (s2 : Bool) (a2 : Option Addr) (n2 c2 : Nat) (o2 : Nat → Int) (w : World)
    (h1 : Rd w a1 n1 o1) (hn1 : n1 ≤ 100000000) (hc1 : n1 ≤ c1) (h2 : Rd w a2 n2 o2) (hn2 : n2 ≤ 100000000) (hc2 : n2 ≤ c2) :
    Calls Tryz.prog 24 #[numV s1 a1 n1 c1, numV s2 a2 n2 c2] w (ResN w (valN s1 n1 o1 * valN s2 n2 o2)) := by
  obtain ⟨x1, d1, r1, l1, m1, O1⟩ := of_any s1 a1 n1 c1 o1 w h1 (by omega) hc1
  obtain ⟨x2, d2, r2, l2, m2, O2⟩ := of_any s2 a2 n2 c2 o2 w h2 (by omega) hc2
  generalize valN s1 n1 o1 = z1 at r1 l1 m1 O1 ⊢
  have HO1 := Lib.hid O1; clear O1
  generalize valN s2 n2 o2 = z2 at r2 l2 m2 O2 ⊢
  have HO2 := Lib.hid O2; clear O2
  have B1 := (((Bx.new w 24 (.bool s1) (.slice a1 n1 c1)).alloc (.cells #[.bool s2, .slice a2 n2 c2] 24)).alloc (.cells #[.bool false, .slice none 0 0] 24))
  have B2 := ((Bx.new2 w (.cells #[.bool s1, .slice a1 n1 c1] 24) 24 (.bool s2) (.slice a2 n2 c2)).alloc (.cells #[.bool false, .slice none 0 0] 24))
  have B3 := (Bx.new3 w (.cells #[.bool s1, .slice a1 n1 c1] 24) (.cells #[.bool s2, .slice a2 n2 c2] 24) 24 (.bool false) (.slice none 0 0))
  go_enter Tryz.func24, Tryz.ntmps24
  go_upto_region 1 with (fail)
  obtain ⟨W, hW⟩ : ∃ W, W = (((w.alloc (.cells #[.bool s1, .slice a1 n1 c1] 24)).alloc (.cells #[.bool s2, .slice a2 n2 c2] 24)).alloc (.cells #[.bool false, .slice none 0 0] 24)) := ⟨_, rfl⟩
  have G1 := Lib.hid (((Below.refl _ _).alloc (by go_size) _ |>.alloc (by go_size) _ |>.alloc (by go_size) _) : Below w.heap.size w (((w.alloc (.cells #[.bool s1, .slice a1 n1 c1] 24)).alloc (.cells #[.bool s2, .slice a2 n2 c2] 24)).alloc (.cells #[.bool false, .slice none 0 0] 24)))
  rw [← hW] at B1 B2 B3 G1
  rw [show (((w.alloc (.cells #[.bool s1, .slice a1 n1 c1] 24)).alloc (.cells #[.bool s2, .slice a2 n2 c2] 24)).alloc (.cells #[.bool false, .slice none 0 0] 24)) = W from hW.symm]
  clear hW
  go_cut [] (fun wx => Bx wx w.heap.size 24 (.bool (decide (z1 < 0))) (.slice x1 (lenB z1.natAbs) d1) ∧ Bx wx (w.heap.size + 1) 24 (.bool (decide (z2 < 0))) (.slice x2 (lenB z2.natAbs) d2) ∧
    Bx wx (w.heap.size + 1 + 1) 24 (.bool false) (.slice none 0 0) ∧ Below w.heap.size w wx)
  case first =>
    have HS1 := Lib.hid (fun (w' : World) (hb : Below W.heap.size W w') => And.intro (B1.below hb B1.lt).c0 (B1.below hb B1.lt).c1)
    have HS2 := Lib.hid (fun (w' : World) (hb : Below W.heap.size W w') => And.intro (B2.below hb B2.lt).c0 (B2.below hb B2.lt).c1)
    have HB1 := Lib.hid B1; have HB2 := Lib.hid B2; have HB3 := Lib.hid B3
    clear B1 B2 B3
    refine wp_region_fresh 4 (spOf [(1, Sp.know (numV (decide (z1 < 0)) x1 (lenB z1.natAbs) d1)), (3, Sp.know (numV (decide (z2 < 0)) x2 (lenB z2.natAbs) d2))]) (fun w' => Below W.heap.size W w') (by kernel_rfl) (by kernel_rfl)
      (spOf_cons (Sp.know_keeps _) (spOf_cons (Sp.know_keeps _) spOf_nil)) (fun _ _ h hb => h.trans (hb.mono h.size)) ((Below.refl _ _).drew) ?_
    simp only [List.take_succ_cons, List.take_zero, List.drop_succ_cons, List.drop_zero]
    (refine wpF_reads rfl rfl ?_ (fun w' hw' => ?_) ?_; rotate_left; · (have hb' := Has.world hw'; (have hs := HS1.out _ hb'); clear hw'; go_simp; try rfl))
    (refine wpF_spec rfl rfl (fun w' hw' => ?_) ?_; · (have hb' := Has.world hw'; go_simp; ((refine (HO1.out w' (G1.out.trans (hb'.mono G1.out.size))).mono ?_; rintro e w'' ⟨rfl, hb⟩; exact ⟨_, rfl, rfl, hb⟩))))
    rintro _ rfl
    (refine wpF_reads rfl rfl ?_ (fun w' hw' => ?_) ?_; rotate_left; · (have hb' := Has.world hw'; (have hs := HS2.out _ hb'); clear hw'; go_simp; try rfl))
    (refine wpF_spec rfl rfl (fun w' hw' => ?_) ?_; · (have hb' := Has.world hw'; go_simp; ((refine (HO2.out w' (G1.out.trans (hb'.mono G1.out.size))).mono ?_; rintro e w'' ⟨rfl, hb⟩; exact ⟨_, rfl, rfl, hb⟩))))
    rintro _ rfl
    refine wpF_nil (fun w1 hb1 hF => ?_)
    clear hF
    have C1 := HB1.out.below hb1 HB1.out.lt
    have C2 := HB2.out.below hb1 HB2.out.lt
    have C3 := HB3.out.below hb1 HB3.out.lt
    have G2 := G1.out.trans (hb1.mono G1.out.size)
    have K1 := Lib.hid C1; have K2 := Lib.hid C2; have K3 := Lib.hid C3
    obtain ⟨b10, b11, b12, b13⟩ := C1.all
    obtain ⟨b20, b21, b22, b23⟩ := C2.all
    have KG := Lib.hid G2
    clear C1 C2 C3 hb1 HS1 HS2 G2
    go_wp2_with fail
    go_meet
    case rel =>
      exact ⟨((K1.out.set _ _).other (by dsimp only; omega) _).other (by dsimp only; omega) _, ((K2.out.other (by dsimp only; omega) _).other (by dsimp only; omega) _).set _ _, (((K3.out.other (by dsimp only; omega) _).other (by dsimp only; omega) _).other (by dsimp only; omega) _).other (by dsimp only; omega) _,
        (((KG.out.setCell (by simp) _).setCell (by simp) _).setCell (by simp) _).setCell (by simp) _⟩
  case rest =>
    obtain ⟨B1, B2, B3, G1⟩ := hcut
    obtain ⟨w1, rfl⟩ : ∃ w1, w1 = wc := ⟨_, rfl⟩
    have HR1 := Lib.hid r1
    have HR2 := Lib.hid r2
    have KG := Lib.hid G1
    have K1 := Lib.hid B1; have K2 := Lib.hid B2; have K3 := Lib.hid B3
    obtain ⟨b10, b11, b12, b13⟩ := B1.all
    obtain ⟨b20, b21, b22, b23⟩ := B2.all
    obtain ⟨n, hn⟩ : ∃ n, n = lenB z1.natAbs + lenB z2.natAbs := ⟨_, rfl⟩
    have HN := Lib.hid hn
    have hnb : n ≤ 200000000 := by omega
    have ew : ((lenB z1.natAbs : Nat) : Int) + ((lenB z2.natAbs : Nat) : Int) = (n : Int) := by omega
    have hmk := run_make_row' (P := Tryz.prog) 22 54 (.int .u32 0) 4 Tryz.underlying22 info32 rfl .i64 .i64 n (by omega) (by omega)
    clear B1 B2 B3 G1 r1 r2 h1 h2 HO1 HO2 hn
    obtain ⟨X, hX⟩ : ∃ X, X = lenB z1.natAbs := ⟨_, rfl⟩
    obtain ⟨Y, hY⟩ : ∃ Y, Y = lenB z2.natAbs := ⟨_, rfl⟩
    rw [← hX] at b11 HR1 ew l1 m1 HN
    rw [← hY] at b21 HR2 ew l2 m2 HN
    have HX := Lib.hid hX; have HY := Lib.hid hY
    have hz1 := K3.out.lt
    clear hX hY
    obtain ⟨fx, hfx⟩ : ∃ fx, fx = dgi z1.natAbs := ⟨_, rfl⟩
    obtain ⟨fy, hfy⟩ : ∃ fy, fy = dgi z2.natAbs := ⟨_, rfl⟩
    have DX := Lib.hid (show Dig fx X by rw [hfx]; exact dgi_Dig _ _)
    have DY := Lib.hid (show Dig fy Y by rw [hfy]; exact dgi_Dig _ _)
    have SX := Lib.hid (show sumB fx X = z1.natAbs by rw [hfx, HX.out]; exact sumB_dgi _)
    have SY := Lib.hid (show sumB fy Y = z2.natAbs by rw [hfy, HY.out]; exact sumB_dgi _)
    rw [← hfx] at HR1
    rw [← hfy] at HR2
    clear hfx hfy
    go_wp2_with fail
    go_loopw [26] (fun i wr => ∃ k : Nat, k ≤ X ∧ i = .int .i64 k ∧ (∃ o, MulRow fx fy Y n k o ∧ wr.rowIs w1.heap.size 54 n (uc o)) ∧
      Bx wr w.heap.size 24 (.bool (decide (z1 < 0))) (.slice x1 X d1) ∧ Bx wr (w.heap.size + 1) 24 (.bool (decide (z2 < 0))) (.slice x2 Y d2) ∧
      Bx wr (w.heap.size + 1 + 1) 24 (.bool false) (.slice none 0 0) ∧ Below w.heap.size w wr) (fun i _ => X - (intOf i).toNat)
    case atStart =>
      exact ⟨0, by omega, rfl, ⟨_, MulRow.start _ _ _ _, World.rowIs_made w1 (.int .u32 0) n 54⟩, (HX.out ▸ K1.out).alloc _, (HY.out ▸ K2.out).alloc _, K3.out.alloc _, KG.out.alloc KG.out.size _⟩
    case round =>
      obtain ⟨k, hk, rfl, ⟨o, hM, hR⟩, B1, B2, B3, G⟩ := hrel
      have KM := Lib.hid hM; have KR := Lib.hid hR; have KG1 := Lib.hid G
      have J1 := Lib.hid B1; have J2 := Lib.hid B2; have J3 := Lib.hid B3
      obtain ⟨b20, b21, b22, b23⟩ := B2.all
      obtain ⟨b10, b11, b12, b13⟩ := B1.all
      clear hM hR G B1 B2 B3 hmk
      by_cases hkX : k < X
      · obtain ⟨pb, po, rfl, hc⟩ := (HR1.out.below KG1.out).cells (by omega)
        have c1 := hc k hkX
        clear hc
        go_wp2_with fail
        go_loopw [8, 34] (fun on i wr2 => ∃ j : Nat, j ≤ Y ∧ i = .int .i64 j ∧ (∃ p v, on = .int .u64 v ∧ MulIn fx fy Y n k j p v ∧ wr2.rowIs w1.heap.size 54 n (uc p)) ∧
          Bx wr2 w.heap.size 24 (.bool (decide (z1 < 0))) (.slice (some ⟨pb, po, none⟩) X d1) ∧ Bx wr2 (w.heap.size + 1) 24 (.bool (decide (z2 < 0))) (.slice x2 Y d2) ∧
          Bx wr2 (w.heap.size + 1 + 1) 24 (.bool false) (.slice none 0 0) ∧ Below w.heap.size w wr2) (fun _ i _ => Y - (intOf i).toNat)
        case atStart => exact ⟨0, by omega, rfl, ⟨_, _, rfl, KM.out.inner, KR.out⟩, J1.out, J2.out, J3.out, KG1.out⟩
        case round =>
          obtain ⟨j, hj, rfl, ⟨p, v, rfl, hI, hR⟩, B1, B2, B3, G⟩ := hrel
          have LM := Lib.hid hI; have LR := Lib.hid hR; have LG := Lib.hid G
          have L1 := Lib.hid B1; have L2 := Lib.hid B2; have L3 := Lib.hid B3
          clear b10 b11 b12 b13 b20 b21 b22 b23 c1
          obtain ⟨b20, b21, b22, b23⟩ := B2.all
          have hfz := hR.frozen
          clear hI hR G B1 B2 B3
          by_cases hjY : j < Y
          · obtain ⟨qb, qo, rfl, hc⟩ := (HR2.out.below LG.out).cells (by omega)
            have c2 : wr.cell? ⟨qb, qo + j, none⟩ = some (.int .u32 (fy j)) := hc j hjY
            have c3 : wr.cell? ⟨w1.heap.size, k + j, none⟩ = some (.int .u32 (p (k + j))) := LR.out.cell (i := k + j) (by have := HN.out; omega)
            have hx := DX.out k hkX
            have hy := DY.out j hjY
            obtain ⟨hT, hS⟩ := LM.out.step hx hy hjY (by have := HN.out; omega)
            have hpd := LM.out.dig (k + j) (by have := HN.out; omega)
            have hon := LM.out.on0
            have hb := mul_bd hx hy
            have hkn : k + j < n := by have := HN.out; omega
            have HSt := Lib.hid hS
            have w1' := IntWalk.u64_in (fx k) (by omega)
            have w2' := IntWalk.u64_in (fy j) (by omega)
            have w3' := IntWalk.u64_in (p (k + j)) (by omega)
            have w4' := IntWalk.u64_in (fx k * fy j) (by omega)
            have w5' := IntWalk.u64_in (fx k * fy j + p (k + j)) (by omega)
            have w6' := IntWalk.u64_in (v + (fx k * fy j + p (k + j))) (by omega)
            have t1 : (v + (fx k * fy j + p (k + j))).tmod 1000000000 = (v + (fx k * fy j + p (k + j))) % 1000000000 := Int.tmod_eq_emod_of_nonneg hT.1
            have t2 : (v + (fx k * fy j + p (k + j))).tdiv 1000000000 = (v + (fx k * fy j + p (k + j))) / 1000000000 := Int.tdiv_eq_ediv_of_nonneg hT.1
            have w7' := IntWalk.u32_in ((v + (fx k * fy j + p (k + j))) % 1000000000) (by omega)
            have w8' := IntWalk.u64_in ((v + (fx k * fy j + p (k + j))) / 1000000000) (by omega)
            clear hc hS hT hpd hon hb hx hy
            dsimp only [uc]
            go_wp2_with fail
            go_roundw
            case rel => exact ⟨j + 1, by omega, by go_num, ⟨_, _, rfl, HSt.out, rows_upd LR.out _⟩, L1.out.other (by dsimp only; omega) _, L2.out.other (by dsimp only; omega) _, L3.out.other (by dsimp only; omega) _, LG.out.setCell (by dsimp only; omega) _⟩
            case measure => simp [intOf]; omega
          · obtain rfl : j = Y := by omega
            obtain ⟨vo, hco⟩ : ∃ vo, wr.cell? ⟨w1.heap.size, k + j, none⟩ = some vo := ⟨_, LR.out.cell (i := k + j) (by have := HN.out; omega)⟩
            have hkn : k + j < n := by have := HN.out; omega
            have hon := LM.out.on0
            have w7' := IntWalk.u32_in v (by omega)
            have HSt := Lib.hid (LM.out.row hkn)
            go_wp2_with fail
            go_roundw
            case rel => exact ⟨k + 1, by omega, by go_num, ⟨_, HSt.out, rows_upd LR.out _⟩, L1.out.other (by dsimp only; omega) _, L2.out.other (by dsimp only; omega) _, L3.out.other (by dsimp only; omega) _, LG.out.setCell (by dsimp only; omega) _⟩
            case measure => simp [intOf]; omega
      · obtain rfl : k = X := by omega
        have hM := KM.out
        have hR := KR.out
        have ht : (sumB o n).toNat = (z1 * z2).natAbs := by
          rw [hM.sum, SX.out, SY.out, Int.natAbs_mul, ← Int.natCast_mul, Int.toNat_natCast]
        have OW := Lib.hid (Own.of_rowIs hR (Nat.le_refl _) (fun i hi => by have := hM.dig i hi; omega))
        have C := cut_any (!(decide (z1 < 0) == decide (z2 < 0))) (some ⟨w1.heap.size, 0, none⟩) n n o wr OW.out.rd hM.dig (by omega) (Nat.le_refl _) (fun h => by cases h)
        have hL := lenB_le_of hM.dig
        have hD := fun i hi => dg_sumB hM.dig i hi
        rw [ht, mul_sign] at C
        rw [ht] at hL hD
        obtain ⟨sB, hsB⟩ : ∃ sB, sB = decide (z1 * z2 < 0) := ⟨_, rfl⟩
        obtain ⟨L, hLL⟩ : ∃ L, L = lenB (z1 * z2).natAbs := ⟨_, rfl⟩
        rw [← hsB, ← hLL] at C
        rw [← hLL] at hL
        have HC := Lib.hid C; have HL := Lib.hid hL; have HD := Lib.hid hD; have HSB := Lib.hid hsB; have HLL := Lib.hid hLL
        clear hM hR ht C hL hD hsB hLL
        go_wp2_with fail
        refine HC.out.mono ?_
        rintro e w2 ⟨rfl, hb2⟩
        have B3 := J3.out.below hb2 J3.out.lt
        have K5 := Lib.hid B3
        have O2 := Lib.hid ((OW.out.below hb2).cut HL.out (fun i hi => (HD.out i (by have := HL.out; omega)).symm))
        have G2 := Lib.hid (KG1.out.trans (hb2.mono KG1.out.size))
        have hz2 := KG.out.size
        obtain ⟨b30, b31, b32, b33⟩ := B3.all
        clear B3 hb2 b10 b11 b12 b13 b20 b21 b22 b23
        go_wp2_with fail
        unfold ResN
        rw [← HSB.out, ← HLL.out]
        refine bodyPost_ret (results_cell rfl _ _ _ _ _ _ _ rfl (K5.out.set _ _) Tryz.underlying24 rfl (by kernel_rfl)) rfl ⟨_, rfl, ?_, (fun h => by cases h), ?_⟩
        · exact ((O2.out.other (by dsimp only; omega) _).other (by dsimp only; omega) _).mono hz2
        · exact (G2.out.setCell (by dsimp only; omega) _).setCell (by dsimp only; omega) _
def ShortR (w : World) (n : Nat) (X by' : Int) (e : Ending) (w' : World) : Prop :=
  ∃ p, e = .returned (.tuple #[.slice (some ⟨w.heap.size, 0, none⟩) n n, .int .u32 (X % by')]) ∧ Dig p n ∧ sumB p n = X / by' ∧ Own 54 w' w.heap.size (some ⟨w.heap.size, 0, none⟩) n n p ∧ Below w.heap.size w w'
set_option maxHeartbeats 2000000 in
theorem short_any (a : Option Addr) (n c : Nat) (o : Nat → Int) (by' : Int) (w : World) (hx : Rd w a n o) (dx : Dig o n) (hn : n ≤ 200000000) (h0 : 0 < by') (h1 : by' ≤ 999999999) :
    Calls Tryz.prog 93 #[.slice a n c, .int .u32 by'] w (ShortR w n (sumB o n) by') := by
  obtain ⟨nn, hnn⟩ : ∃ nn : Nat, nn = n := ⟨_, rfl⟩
  have hmk := run_make_row' (P := Tryz.prog) 22 54 (.int .u32 0) 4 Tryz.underlying22 info32 rfl .i64 .i64 n (by omega) (by omega)
  have HR := Lib.hid hx; have DX := Lib.hid dx
  have wb := IntWalk.u64_in by' (by omega)
  clear hx dx hnn
  go_enter Tryz.func93, Tryz.ntmps93
  go_wp2_with fail
  go_loopw [6, 7] (fun rv iv wr => ∃ i : Nat, i ≤ n ∧ iv = .int .i64 ((i : Int) - 1) ∧ (∃ p rest, rv = .int .u64 rest ∧ ShortIn o n by' i p rest ∧ wr.rowIs w.heap.size 54 n (uc p)) ∧ Below w.heap.size w wr) (fun _ iv _ => (1 + intOf iv).toNat)
  case atStart => exact ⟨n, by omega, rfl, ⟨_, _, rfl, ShortIn.start _ _ _, World.rowIs_made w (.int .u32 0) n 54⟩, by (repeat' (first | (with_reducible exact Below.refl _ _) | (with_reducible assumption) | (with_reducible refine Below.alloc ?_ ?_ _) | (with_reducible refine Below.drew ?_) | (with_reducible refine bdrewN ?_ _) | (with_reducible refine Below.setCell ?_ ?_ _) | (with_reducible refine Below.frame ?_ _) | go_size))⟩
  case round =>
    obtain ⟨i, hi, rfl, ⟨p, rest, rfl, hI, hR⟩, G⟩ := hrel
    have KM := Lib.hid hI; have KR := Lib.hid hR; have KG := Lib.hid G
    have hfz := hR.frozen
    have hbd := hI.bd h0
    clear hI hR G hmk
    by_cases hi0 : i = 0
    · subst hi0
      obtain ⟨d1, d2⟩ := KM.out.done
      have HD := Lib.hid (And.intro d1 d2)
      have w1' := IntWalk.u32_in rest (by omega)
      rw [show (((0 : Nat) : Int) - 1) = -1 from rfl]
      clear d1 d2
      go_wp2_with fail
      go_ret2
      exact ⟨p, by rw [← HD.out.2]; rfl, KM.out.dig, HD.out.1, Own.of_rowIs KR.out (Nat.le_refl _) (fun i hi => by have := KM.out.dig i hi; omega), KG.out⟩
    · obtain ⟨q, rfl⟩ : ∃ q, i = q + 1 := ⟨i - 1, by omega⟩
      rw [show (((q + 1 : Nat) : Int) - 1) = (q : Int) by omega]
      obtain ⟨b, off, rfl, hc⟩ := (HR.out.below KG.out).cells (by omega)
      have c1 : wr.cell? ⟨b, off + q, none⟩ = some (.int .u32 (o q)) := hc q (by omega)
      obtain ⟨vo, hco⟩ : ∃ vo, wr.cell? ⟨w.heap.size, q, none⟩ = some vo := ⟨_, KR.out.cell (i := q) (by omega)⟩
      have ho := DX.out q (by omega)
      have hpb := part_bd h0 hbd ho
      have hm1 : rest * 1000000000 ≤ 999999998 * 1000000000 := Int.mul_le_mul_of_nonneg_right (by omega) (by omega)
      have hm2 : 0 ≤ rest * 1000000000 := Int.mul_nonneg hbd.1 (by omega)
      have hmd : 0 ≤ (rest * 1000000000 + o q) % by' ∧ (rest * 1000000000 + o q) % by' < by' := ⟨Int.emod_nonneg _ (by omega), Int.emod_lt_of_pos _ h0⟩
      have ST := Lib.hid (KM.out.step h0 DX.out (by omega))
      have ec : 1000000000 * rest = rest * 1000000000 := Int.mul_comm _ _
      have w1' := IntWalk.u64_in (rest * 1000000000) (by omega)
      have w2' := IntWalk.u64_in (o q) (by omega)
      have w3' := IntWalk.u64_in (rest * 1000000000 + o q) (by omega)
      have t1 : (rest * 1000000000 + o q).tdiv by' = (rest * 1000000000 + o q) / by' := Int.tdiv_eq_ediv_of_nonneg (by omega)
      have t2 : (rest * 1000000000 + o q).tmod by' = (rest * 1000000000 + o q) % by' := Int.tmod_eq_emod_of_nonneg (by omega)
      have w4' := IntWalk.u64_in ((rest * 1000000000 + o q) / by') (by omega)
      have w5' := IntWalk.u32_in ((rest * 1000000000 + o q) / by') (by omega)
      have w6' := IntWalk.u64_in ((rest * 1000000000 + o q) % by') (by omega)
      have hne : ¬ by' = 0 := by omega
      have hlt : q < n := by omega
      clear hc ho hpb hm1 hm2 hmd hbd
      go_wp2_with fail
      go_roundw
      case rel => exact ⟨q, by omega, rfl, ⟨_, _, rfl, ST.out, rows_upd KR.out _⟩, KG.out.setCell (by dsimp only; omega) _⟩
      case measure => simp [intOf]; omega
theorem ownBlock_ge {w : World} {base T n : Nat} {v : Value} {xs : List Value} (h : w.ownsRow base T 1 v n xs) {g : Nat} (hg : v.ownBlock = some g) : base ≤ g := by
  rcases h.2 with ⟨rfl, _⟩ | ⟨g', cap, cur, rfl, hb, _⟩
  · cases hg
  · simp only [Value.ownBlock, Option.some.injEq] at hg; omega
theorem cf_wide (args : Array Value) (w : World) : (callFunc 169 args).run Tryz.prog w = .ok (.enter 169 args) w := by kernel_rfl
set_option maxHeartbeats 1000000 in
theorem wideFn (w : World) (b1 b2 : Nat) (p : Option Addr) (f : Nat → Int) (nx d : Nat) (by' : Int) (k : Nat) (c1 : w.cell? ⟨b1, 0, none⟩ = some (.slice p nx d)) (c2 : w.cell? ⟨b2, 0, none⟩ = some (.int .u32 by')) (hp : Rd w p nx f)
    (hx : nx ≤ 1000000000) (hk : k ≤ 1000000000) (hb : 0 ≤ by' ∧ by' ≤ 999999999) (r1 : 0 ≤ part f nx k ∧ part f nx k ≤ 999999999) :
    Calls Tryz.prog 169 #[.int .i64 k, .pointer (some ⟨b1, 0, none⟩), .pointer (some ⟨b2, 0, none⟩)] w fun e w' => e = .returned (.int .i64 (part f nx k * by')) ∧ Below w.heap.size w w' := by
  have P := Lib.hid (fun (w1 : World) (h : ∃ m, w1 = w.drewN m) => part_any p nx d f k w1 (by obtain ⟨m, rfl⟩ := h; exact hp.drewN m) hx hk)
  have m1 : part f nx k * by' ≤ 999999999 * 999999999 := Int.mul_le_mul r1.2 hb.2 hb.1 (by omega)
  have m2 : 0 ≤ part f nx k * by' := Int.mul_nonneg r1.1 hb.1
  have e1 := IntWalk.i64_in (part f nx k * by') (by omega)
  have e2 := IntWalk.i64_in by' (by omega)
  generalize part f nx k = u at *
  clear hp m1 m2
  go_enter Tryz.func169, Tryz.ntmps169
  go_wp2_with fail
  go_quiet (first | with_reducible exact quietOf (P.out _ ⟨_, rfl⟩))
  go_wp2
  go_ret
  exact ⟨rfl, bdrewN (Below.refl _ _) _⟩
set_option maxHeartbeats 1000000 in
theorem wide_any (a : Option Addr) (n c : Nat) (o : Nat → Int) (by' : Int) (w : World) (hx : Rd w a n o) (dx : Dig o n) (hn : n ≤ 200000000) (hb : 0 ≤ by' ∧ by' ≤ 999999999) :
    Calls Tryz.prog 144 #[.slice a n c, .int .u32 by'] w fun e w' => ∃ g p, e = .returned (.slice (some ⟨g, 0, none⟩) (n + 1) (n + 1)) ∧ Dig p (n + 1) ∧ sumB p (n + 1) = sumB o n * by' ∧ Own 54 w' w.heap.size (some ⟨g, 0, none⟩) (n + 1) (n + 1) p ∧ Below w.heap.size w w' := by
  have hp : ∀ k, 0 ≤ part o n k ∧ part o n k ≤ 999999999 := by
    intro k
    unfold part
    split
    · have := dx k (by omega); omega
    · omega
  obtain ⟨N, hN⟩ : ∃ N, N = n + 1 := ⟨_, rfl⟩
  have hs : sumB (fun k => part o n k * by') N = sumB o n * by' := by rw [sumB_times, sumB_part _ (by omega)]
  have hbd := sumB_bd dx
  have hlt : sumB o n * by' < (pw N : Int) := by
    rw [hN, pw_succ]
    have h1 : sumB o n * by' ≤ sumB o n * 999999999 := Int.mul_le_mul_of_nonneg_left hb.2 hbd.1
    omega
  have hfit := (cS_fits (f := fun k => part o n k * by') (n := N) (by rw [hs]; exact Int.mul_nonneg hbd.1 hb.1) (by rw [hs]; exact hlt)).2
  have HS := Lib.hid (hfit.trans hs)
  have HR := Lib.hid hx
  obtain ⟨W, hW⟩ : ∃ W, W = ((w.alloc (.cells #[.slice a n c] 22)).alloc (.cells #[.int .u32 by'] 54)) := ⟨_, rfl⟩
  have hbW : Below w.heap.size w W := by rw [hW]; exact ((Below.refl _ _).alloc (by go_size) _).alloc (by go_size) _
  have k1 : W.cell? ⟨w.heap.size, 0, none⟩ = some (.slice a n c) := by
    have h : W.heap[w.heap.size]? = some (.cells #[.slice a n c] 22 (0, 0)) := by
      rw [hW, Below.heap_alloc _ _ _ (by simp)]; exact heap_alloc_new w _
    rw [cell_of_row _ _ _ _ _ _ h]; rfl
  have k2 : W.cell? ⟨w.heap.size + 1, 0, none⟩ = some (.int .u32 by') := by
    have h := heap_alloc_new (w.alloc (.cells #[.slice a n c] 22)) (.cells #[.int .u32 by'] 54)
    rw [World.size_alloc, ← hW] at h
    rw [cell_of_row _ _ _ _ _ _ h]; rfl
  have hsz : w.heap.size + 1 < W.heap.size := by rw [hW]; simp
  have CA := Lib.hid (carry_any 169 #[.pointer (some ⟨w.heap.size, 0, none⟩), .pointer (some ⟨w.heap.size + 1, 0, none⟩)] N (fun k => part o n k * by') 0 by' W (by omega) cf_wide
    (fun k hk w1 hb1 => wideFn w1 w.heap.size (w.heap.size + 1) a o n c by' k ((hb1.cell (p := ⟨w.heap.size, 0, none⟩) (by dsimp only; omega)).trans k1) ((hb1.cell (p := ⟨w.heap.size + 1, 0, none⟩) (by dsimp only; omega)).trans k2)
      (HR.out.below (hbW.trans (hb1.mono hbW.size))) (by omega) (by omega) hb (hp k))
    (fun k _ => by
      have h1 := hp k
      have h2 : part o n k * by' ≤ 999999999 * by' := Int.mul_le_mul_of_nonneg_right h1.2 hb.1
      have h3 : 0 ≤ part o n k * by' := Int.mul_nonneg h1.1 hb.1
      omega) (by omega) (by omega) (by omega) (by omega))
  have HW := Lib.hid hW
  have HB := Lib.hid hbW
  have ew : IntKind.i64.wrap ((n : Int) + 1) = (N : Int) := by rw [IntWalk.i64_in _ (by omega)]; omega
  have HN := Lib.hid hN
  clear hx dx hp hs hbd hlt hfit hW hbW k1 k2 hsz hN
  go_enter Tryz.func144, Tryz.ntmps144
  go_wp2_with fail
  rw [show ((w.alloc (.cells #[.slice a n c] 22)).alloc (.cells #[.int .u32 by'] 54)) = W from HW.out.symm]
  refine CA.out.mono ?_
  rintro e w1 ⟨rfl, hO, hb1⟩
  have HO := Lib.hid hO
  have HB1 := Lib.hid (HB.out.trans (hb1.mono HB.out.size))
  clear hO hb1 CA
  go_wp2
  go_ret
  refine ⟨_, cD (fun k => part o n k * by'), by rw [← HN.out]; rfl, cD_Dig _ _, by rw [← HN.out]; exact HS.out, ?_, HB1.out⟩
  rw [← HN.out]
  exact HO.out.mono HB.out.size
def ResF (w : World) (z : Int) (e : Ending) (w' : World) : Prop :=
  ∃ a cap, e = .returned (numV (decide (z < 0)) a (lenB z.natAbs) cap) ∧ Own 54 w' w.heap.size a (lenB z.natAbs) cap (dgi z.natAbs) ∧ Below w.heap.size w w'
def AmtR (w : World) (N : Nat) (e : Ending) (w' : World) : Prop :=
  ∃ a K cap o, e = .returned (.slice a K cap) ∧ Dig o K ∧ sumB o K = (N : Int) ∧ K ≤ 1000000000 ∧ Own 54 w' w.heap.size a K cap o ∧ Below w.heap.size w w'
theorem Own.short {T : Nat} {w : World} {base : Nat} {a : Option Addr} {n cap L : Nat} {o o' : Nat → Int} (h : Own T w base a n cap o) (hL : L ≤ n) (e : ∀ i, i < L → o i = o' i) : Own T w base a L cap o' := by
  refine ⟨Nat.le_trans hL h.le, ?_, fun i hi => by rw [← e i hi]; exact h.rng i (by omega)⟩
  rcases h.place with ⟨e0, h0, h1⟩ | ⟨g, cur, ha, hbg, hg, hcap, hc⟩
  · exact Or.inl ⟨e0, by omega, by omega⟩
  · exact Or.inr ⟨g, cur, ha, hbg, hg, hcap, fun i hi => by rw [hc i (by omega)]; show some (Value.int .u32 (o i)) = _; rw [e i hi]⟩
theorem own_fit {T : Nat} {w : World} {base : Nat} {a : Option Addr} {n cap N : Nat} {o : Nat → Int} (h : Own T w base a n cap o) (hd : Dig o n) (hs : sumB o n = (N : Int)) : Own T w base a (lenB N) cap (dgi N) := by
  have e : (sumB o n).toNat = N := by omega
  have h1 := lenB_le_of hd
  rw [e] at h1
  refine h.short h1 fun i hi => ?_
  have h2 := dg_sumB hd i (by omega)
  rw [e] at h2
  exact h2.symm
def AmtF (b N : Nat) (x : Option Addr × Nat × Nat) (w : World) : Prop := ∃ o, Dig o x.2.1 ∧ sumB o x.2.1 = (N : Int) ∧ x.2.1 ≤ 1000000000 ∧ Own 54 w b x.1 x.2.1 x.2.2 o
theorem AmtF.keeps {b N : Nat} (x : Option Addr × Nat × Nat) (w w' : World) (h : AmtF b N x w) (hb : Below w.heap.size w w') : AmtF b N x w' := by
  obtain ⟨o, h1, h2, h3, h4⟩ := h
  exact ⟨o, h1, h2, h3, h4.below hb⟩
end Go.Proofs.YtefjjhfahebmeaaGreatDoor.Limb
