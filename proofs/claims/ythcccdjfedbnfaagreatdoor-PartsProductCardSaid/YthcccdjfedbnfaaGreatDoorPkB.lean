/-
  Plain lemmas on what all of a sum have (its content): there is just one; that of a product is the product of both (Gauss). No program in sight.
-/
import Derived.Test.YthcccdjfedbnfaaGreatDoorPkA
import Derived.Lib.QuietBelow
import Derived.BigRegion
import Derived.Lib.ItoaMem
set_option linter.unusedSimpArgs false
set_option linter.unusedVariables false
namespace Go.Proofs.YthcccdjfedbnfaaGreatDoor.Mono
open Go.RowKit Go.Sort
theorem rows4 {W : World} {b : Nat} {t : TypeId} {f : Nat → Value} (h : W.rowIs b t 4 f) :
  (∀ d os, (grow (redrawn W d) os).cell? ⟨b, 0, none⟩ = some (f 0)) ∧ (∀ d os, (grow (redrawn W d) os).cell? ⟨b, 1, none⟩ = some (f 1)) ∧
  (∀ d os, (grow (redrawn W d) os).cell? ⟨b, 2, none⟩ = some (f 2)) ∧ (∀ d os, (grow (redrawn W d) os).cell? ⟨b, 3, none⟩ = some (f 3)) :=
 ⟨cell_regrown (h.cell (by omega)), cell_regrown (h.cell (by omega)), cell_regrown (h.cell (by omega)), cell_regrown (h.cell (by omega))⟩
theorem rowc {W : World} {b : Nat} {t : TypeId} {f : Nat → Value} (h : W.rowIs b t 4 f) :
  W.cell? ⟨b, 0, none⟩ = some (f 0) ∧ W.cell? ⟨b, 1, none⟩ = some (f 1) ∧ W.cell? ⟨b, 2, none⟩ = some (f 2) ∧ W.cell? ⟨b, 3, none⟩ = some (f 3) :=
 ⟨h.cell (by omega), h.cell (by omega), h.cell (by omega), h.cell (by omega)⟩
theorem rowBelow {B b : Nat} {W w1 : World} {t : TypeId} {f : Nat → Value} (h : W.rowIs b t 4 f) (hb : Below B W w1) (hlt : b < B) : w1.rowIs b t 4 f := h.of_block (hb.block _ hlt)
theorem rowNew (W : World) (t : TypeId) (a : Nat → Int) : (W.alloc (.cells (arr4 a) t)).rowIs W.heap.size t 4 (cell a) := W.rowIs_alloc (arr4 a) t (cell a) (four a)
theorem boxes (w : World) (t : TypeId) (a b : Nat → Int) : ((w.alloc (.cells (arr4 a) t)).alloc (.cells (arr4 b) t)).rowIs w.heap.size t 4 (cell a) ∧ ((w.alloc (.cells (arr4 a) t)).alloc (.cells (arr4 b) t)).rowIs (w.heap.size + 1) t 4 (cell b) := by
 refine ⟨(rowNew w t a).alloc _, ?_⟩
 have h := rowNew (w.alloc (.cells (arr4 a) t)) t b
 rw [World.size_alloc] at h
 exact h
theorem eqIn16 (d : Nat) (a b : Int) (w : World) : (Op.equalIn (d + 1) 46 (.int .u16 a) (.int .u16 b)).run Tryz.prog w = .ok (a == b) w :=
 run_equalIn_int w d 46 .u16 .u16 a b Tryz.underlying46
theorem part0 (x0 x1 x2 x3 : Int) (w : World) : (Go.part 46 #[Value.int .u16 x0, .int .u16 x1, .int .u16 x2, .int .u16 x3] 0).run Tryz.prog w = .ok (.int .u16 x0) w := by kernel_rfl
theorem part1 (x0 x1 x2 x3 : Int) (w : World) : (Go.part 46 #[Value.int .u16 x0, .int .u16 x1, .int .u16 x2, .int .u16 x3] 1).run Tryz.prog w = .ok (.int .u16 x1) w := by kernel_rfl
theorem part2 (x0 x1 x2 x3 : Int) (w : World) : (Go.part 46 #[Value.int .u16 x0, .int .u16 x1, .int .u16 x2, .int .u16 x3] 2).run Tryz.prog w = .ok (.int .u16 x2) w := by kernel_rfl
theorem part3 (x0 x1 x2 x3 : Int) (w : World) : (Go.part 46 #[Value.int .u16 x0, .int .u16 x1, .int .u16 x2, .int .u16 x3] 3).run Tryz.prog w = .ok (.int .u16 x3) w := by kernel_rfl
theorem eqIn4 (d : Nat) (x0 x1 x2 x3 y0 y1 y2 y3 : Int) (w : World) : (Op.equalIn (d + 2) 48 (mv x0 x1 x2 x3) (mv y0 y1 y2 y3)).run Tryz.prog w = .ok (x0 == y0 && (x1 == y1 && (x2 == y2 && x3 == y3))) w := by
 have hs : ∀ w, (sizeOf 46).run Tryz.prog w = .ok 1 w := fun _ => by kernel_rfl
 rw [Op.equalIn]
 simp only [Sem.run_bind, run_underlying Tryz.underlying48, Result.andThen_ok, hs]
 simp only [Std.Legacy.Range.forIn_eq_forIn_range', Std.Legacy.Range.size, Nat.sub_zero, Nat.add_sub_cancel, Nat.div_one, List.range'_succ, List.range'_zero, List.forIn_cons, List.forIn_nil]
 simp only [Sem.run_bind, Nat.mul_one, Nat.zero_add, Nat.reduceAdd, part0, eqIn16, Result.andThen_ok]
 by_cases h0 : x0 = y0 <;> by_cases h1 : x1 = y1 <;> by_cases h2 : x2 = y2 <;> by_cases h3 : x3 = y3 <;> simp [h0, h1, h2, h3, Sem.run_bind, part1, part2, part3, eqIn16]
@[go_sem] theorem run_eq4 (x0 x1 x2 x3 y0 y1 y2 y3 : Int) (w : World) : (Op.equalIn 10000 48 (mv x0 x1 x2 x3) (mv y0 y1 y2 y3)).run Tryz.prog w = .ok (x0 == y0 && (x1 == y1 && (x2 == y2 && x3 == y3))) w :=
 eqIn4 9998 x0 x1 x2 x3 y0 y1 y2 y3 w
end Go.Proofs.YthcccdjfedbnfaaGreatDoor.Mono
namespace Go.Proofs.YthcccdjfedbnfaaGreatDoor.Limb
open Go.RowKit Go.Sort
set_option maxHeartbeats 1000000 in
theorem amounts_any (x y : Nat) (a b : Option Addr) (ca cb : Nat) (w : World) (ha : Rd w a (lenB x) (dgi x)) (hb : Rd w b (lenB y) (dgi y)) (hx : lenB x ≤ 1000000000) (hy : lenB y ≤ 1000000000) :
  Calls Tryz.prog 92 #[.slice a (lenB x) ca, .slice b (lenB y) cb] w fun e w' => e = .returned (.int .i64 (cmpZ x y)) ∧ ∃ m, w' = w.drewN m := by
 rcases Nat.lt_trichotomy (lenB x) (lenB y) with h | h | h
 ·have E := Lib.hid (show cmpZ x y = -1 from cmpZ_lt (by have := cmp_len h; omega))
  have E2 := Lib.hid (show cmpZ (lenB x : Int) (lenB y) = -1 from cmpZ_lt (by omega))
  go_enter Tryz.func92, Tryz.ntmps92
  go_wp2_with fail
  refine (cmp64_any _ _ _).mono ?_
  rintro e w' ⟨rfl, hw⟩
  subst w'
  rw [E2.out]
  go_wp2
  go_ret
  exact ⟨by rw [E.out]; rfl, 0, rfl⟩
 ·obtain ⟨k0, hD⟩ := topDiff_any (dgi x) (dgi y) (lenB x)
  have hC := topDiff_cmp (dgi_Dig x _) (dgi_Dig y _) hD
  rw [sumB_dgi, show sumB (dgi y) (lenB x) = y by rw [h]; exact sumB_dgi y] at hC
  have E := Lib.hid hC
  have E2 := Lib.hid (show cmpZ (lenB x : Int) (lenB y) = 0 from cmpZ_eq (by omega))
  obtain ⟨hk0, heq, hne⟩ := hD
  have EQ := Lib.hid heq
  have NE := Lib.hid hne
  have HL := Lib.hid h
  clear hC heq hne h
  go_enter Tryz.func92, Tryz.ntmps92
  go_wp2_with fail
  refine (cmp64_any _ _ _).mono ?_
  rintro e w' ⟨rfl, hw⟩
  subst w'
  rw [E2.out]
  go_wp2_with fail
  go_loopw [6] (fun i wr => ∃ j : Nat, k0 ≤ j ∧ j ≤ lenB x ∧ i = .int .i64 ((j : Int) - 1) ∧ ∃ m, wr = w.drewN m) (fun i _ => (1 + intOf i).toNat)
  case atStart => exact ⟨lenB x, hk0, Nat.le_refl _, rfl, 0, rfl⟩
  case round =>
   obtain ⟨j, hj, hjn, rfl, m0, rfl⟩ := hrel
   by_cases hj0 : j = 0
   ·subst hj0
    have Z := Lib.hid (show cmpZ x y = 0 by rw [E.out, if_pos (by omega)])
    rw [show (((0 : Nat) : Int) - 1) = -1 from rfl]
    go_wp2
    go_ret
    exact ⟨by rw [Z.out]; rfl, m0, rfl⟩
   ·obtain ⟨q, rfl⟩ : ∃ q, j = q + 1 := ⟨j - 1, by omega⟩
    rw [show (((q + 1 : Nat) : Int) - 1) = (q : Int) by omega]
    obtain ⟨b1, o1, rfl, hc1⟩ := ha.cells (by omega)
    obtain ⟨b2, o2, rfl, hc2⟩ := hb.cells (by have := HL.out; omega)
    have c1 := hc1 q (by omega)
    have c2 := hc2 q (by have := HL.out; omega)
    have lx : q < lenB x := by omega
    have ly : q < lenB y := by have := HL.out; omega
    clear hc1 hc2 ha hb
    by_cases hlk : k0 ≤ q
    ·have hne : (dgi x q != dgi y q) = false := by rw [EQ.out q hlk (by omega)]; simp
     go_wp2
     go_quiet (fail)
     go_wp2
     go_roundw
     case rel => exact ⟨q, hlk, by omega, rfl, _, rfl⟩
     case measure => simp [intOf]; omega
    ·have hkq : k0 = q + 1 := by omega
     have hnn : dgi x q ≠ dgi y q := by have := NE.out (by omega); rw [hkq] at this; simpa using this
     have hne : (dgi x q != dgi y q) = true := by simpa using hnn
     have Z := Lib.hid (show cmpZ x y = cmpZ (dgi x q) (dgi y q) by rw [E.out, if_neg (by omega), hkq]; rfl)
     clear hkq hnn
     go_wp2
     go_quiet (fail)
     go_wp2
     go_quiet (exact (cmp32_any (dgi x q) (dgi y q) _).mono fun e w'' ⟨he, hw⟩ => ⟨he, _, hw⟩)
     go_wp2
     go_ret
     exact ⟨by rw [Z.out]; rfl, _, by rw [World.drewN_drewN, World.drewN_drewN]⟩
 ·have E := Lib.hid (show cmpZ x y = 1 from cmpZ_gt (by have := cmp_len h; omega))
  have E2 := Lib.hid (show cmpZ (lenB x : Int) (lenB y) = 1 from cmpZ_gt (by omega))
  go_enter Tryz.func92, Tryz.ntmps92
  go_wp2_with fail
  refine (cmp64_any _ _ _).mono ?_
  rintro e w' ⟨rfl, hw⟩
  subst w'
  rw [E2.out]
  go_wp2
  go_ret
  exact ⟨by rw [E.out]; rfl, 0, rfl⟩
end Go.Proofs.YthcccdjfedbnfaaGreatDoor.Limb
namespace Go.Proofs.YthcccdjfedbnfaaGreatDoor.Limb
def splice (o : Nat → Int) (i m : Nat) (r : Nat → Int) : Nat → Int := fun k => if i ≤ k ∧ k < i + m then r (k - i) else o k
theorem splice_in {o r : Nat → Int} {i m k : Nat} (h : k < m) : splice o i m r (i + k) = r k := by
 unfold splice; rw [if_pos ⟨by omega, by omega⟩, Nat.add_sub_cancel_left]
theorem splice_out {o r : Nat → Int} {i m k : Nat} (h : k < i ∨ i + m ≤ k) : splice o i m r k = o k := by
 unfold splice; rw [if_neg (by omega)]
theorem splice_Dig {o r : Nat → Int} {i m L : Nat} (ho : Dig o L) (hr : Dig r m) : Dig (splice o i m r) L := by
 intro k hk
 by_cases h : i ≤ k ∧ k < i + m
 ·obtain ⟨j, rfl⟩ : ∃ j, k = i + j := ⟨k - i, by omega⟩
  rw [splice_in (by omega)]; exact hr j (by omega)
 ·rw [splice_out (by omega)]; exact ho k hk
structure DivI (X V : Int) (n L M i : Nat) (up qp : Nat → Int) : Prop where
 udig : Dig up L
 qdig : Dig qp M
 qz : ∀ k, k < i → qp k = 0
 bal : X = V * ((pw i : Int) * sumB (fun k => qp (i + k)) (M - i)) + sumB up L
 lt : sumB up L < V * (pw i : Int)
def headV (up : Nat → Int) (n i : Nat) : Int := sumB (fun k => up (i + k)) (n + 1)
theorem mul_lt_of {a b c : Int} (hc : 0 < c) (h : c * a < c * b) : a < b := Int.lt_of_mul_lt_mul_left h (by omega)
theorem DivI.head {X V : Int} {n L M i : Nat} {up qp : Nat → Int} (D : DivI X V n L M (i + 1) up qp) (hi : i < M) (hL : M + n = L) (hV : V < (pw n : Int)) (hV0 : 0 < V) :
  0 ≤ headV up n i ∧ headV up n i < V * 1000000000 ∧ sumB up L = sumB up i + (pw i : Int) * headV up n i ∧ sumB (fun k => up (i + (n + 1) + k)) (L - i - (n + 1)) = 0 := by
 have hpi : (0 : Int) < (pw i : Int) := by have := pw_pos i; omega
 have hpn : (0 : Int) < (pw (n + 1) : Int) := by have := pw_pos (n + 1); omega
 have e1 : sumB up L = sumB up i + (pw i : Int) * sumB (fun k => up (i + k)) (L - i) := by
  have h := sumB_add up i (L - i)
  rwa [show i + (L - i) = L by omega] at h
 have e2 : sumB (fun k => up (i + k)) (L - i) = headV up n i + (pw (n + 1) : Int) * sumB (fun k => up (i + (n + 1) + k)) (L - i - (n + 1)) := by
  have h := sumB_add (fun k => up (i + k)) (n + 1) (L - i - (n + 1))
  rw [show n + 1 + (L - i - (n + 1)) = L - i by omega] at h
  rw [h]
  have : (fun k => up (i + (n + 1 + k))) = fun k => up (i + (n + 1) + k) := by funext k; rw [← Nat.add_assoc]
  rw [this]; rfl
 have b1 := (sumB_bd (o := up) (n := i) fun k hk => D.udig k (by omega))
 have b2 := (sumB_bd (o := fun k => up (i + k)) (n := n + 1) fun k hk => D.udig (i + k) (by omega))
 have b3 := (sumB_bd (o := fun k => up (i + (n + 1) + k)) (n := L - i - (n + 1)) fun k hk => D.udig _ (by omega))
 have h0 : 0 ≤ headV up n i := b2.1
 generalize hs : sumB (fun k => up (i + (n + 1) + k)) (L - i - (n + 1)) = s at e2 b3
 generalize ht : sumB (fun k => up (i + k)) (L - i) = t at e1 e2
 have hlt := D.lt
 rw [e1, pw_succ, Int.natCast_mul] at hlt
 have ht2 : t < V * 1000000000 := by
  refine mul_lt_of hpi ?_
  have : V * ((pw i : Int) * ((1000000000 : Nat) : Int)) = (pw i : Int) * (V * 1000000000) := by rw [Int.mul_left_comm]; rfl
  omega
 have hpn1 : (pw (n + 1) : Int) = (pw n : Int) * 1000000000 := by rw [pw_succ, Int.natCast_mul]; rfl
 have hs0 : s = 0 := by
  have hsn : 0 ≤ s := b3.1
  rcases Int.lt_or_le 0 s with h | h
  ·have h1 : (pw (n + 1) : Int) * 1 ≤ (pw (n + 1) : Int) * s := Int.mul_le_mul_of_nonneg_left (by omega) (by omega)
   omega
  ·omega
 subst hs0
 rw [Int.mul_zero, Int.add_zero] at e2
 rw [e2] at e1 ht2
 exact ⟨h0, ht2, e1, rfl⟩
theorem sum_splice {up r : Nat → Int} {n i L : Nat} (hL : i + (n + 1) ≤ L) (hz : sumB (fun k => up (i + (n + 1) + k)) (L - i - (n + 1)) = 0) : sumB (splice up i (n + 1) r) L = sumB up i + (pw i : Int) * sumB r (n + 1) := by
 have h1 := sumB_add (splice up i (n + 1) r) i (L - i)
 rw [show i + (L - i) = L by omega] at h1
 have h2 := sumB_add (fun k => splice up i (n + 1) r (i + k)) (n + 1) (L - i - (n + 1))
 rw [show n + 1 + (L - i - (n + 1)) = L - i by omega] at h2
 rw [h1, h2]
 have e1 : sumB (splice up i (n + 1) r) i = sumB up i := sumB_congr fun k hk => splice_out (Or.inl hk)
 have e2 : sumB (fun k => splice up i (n + 1) r (i + k)) (n + 1) = sumB r (n + 1) := sumB_congr fun k hk => splice_in hk
 have e3 : sumB (fun k => splice up i (n + 1) r (i + (n + 1 + k))) (L - i - (n + 1)) = 0 := by
  rw [← hz]
  refine sumB_congr fun k hk => ?_
  rw [splice_out (Or.inr (by omega))]
  congr 1; omega
 rw [e1, e2, e3]; simp
theorem DivI.step {X V g : Int} {n L M i : Nat} {up qp r : Nat → Int} (D : DivI X V n L M (i + 1) up qp) (hi : i < M) (hL : M + n = L) (hV : V < (pw n : Int)) (hV0 : 0 < V)
  (hg : 0 ≤ g ∧ g < 1000000000) (hr : Dig r (n + 1)) (hs : sumB r (n + 1) = headV up n i - V * g) (hlt : headV up n i - V * g < V) : DivI X V n L M i (splice up i (n + 1) r) (upd qp i g) := by
 obtain ⟨h0, h1, h2, h3⟩ := D.head hi hL hV hV0
 have hS := sum_splice (r := r) (by omega) h3
 have hpi : (0 : Int) < (pw i : Int) := by have := pw_pos i; omega
 have b1 := (sumB_bd (o := up) (n := i) fun k hk => D.udig k (by omega))
 refine ⟨splice_Dig D.udig hr, upd_Dig D.qdig i hg, fun k hk => by rw [upd_ne _ _ (by omega)]; exact D.qz k (by omega), ?_, ?_⟩
 ·rw [hS, hs]
  have hq : sumB (fun k => upd qp i g (i + k)) (M - i) = g + 1000000000 * sumB (fun k => qp (i + 1 + k)) (M - (i + 1)) := by
   rw [show M - i = (M - (i + 1)) + 1 by omega, sumB_shift]
   have e : (fun k => upd qp i g (i + (k + 1))) = fun k => qp (i + 1 + k) := by
    funext k
    rw [upd_ne _ _ (by omega), show i + (k + 1) = i + 1 + k by omega]
   rw [e, Nat.add_zero, upd_same]
  have hb := D.bal
  rw [h2, pw_succ, Int.natCast_mul] at hb
  rw [hq]
  generalize sumB (fun k => qp (i + 1 + k)) (M - (i + 1)) = Q at hb ⊢
  generalize headV up n i = h at hb ⊢
  generalize sumB up i = lo at hb ⊢
  generalize (pw i : Int) = P at hb ⊢
  rw [hb]
  have a1 : P * (V * g) = V * (P * g) := Int.mul_left_comm _ _ _
  have a2 : V * (P * ((1000000000 : Nat) : Int) * Q) = V * (P * (1000000000 * Q)) := by rw [Int.mul_assoc P]; rfl
  simp only [Int.mul_add, Int.mul_sub]
  rw [a1, a2]
  omega
 ·rw [hS, hs]
  have : (pw i : Int) * (headV up n i - V * g) ≤ (pw i : Int) * (V - 1) := Int.mul_le_mul_of_nonneg_left (by omega) (by omega)
  rw [Int.mul_sub (pw i : Int) V 1, Int.mul_comm (pw i : Int) V] at this
  omega
theorem guess_ge {h V v1 two : Int} {B1 : Int} (hv1 : 0 < v1) (hB1 : 0 < B1) (hV : v1 * B1 ≤ V) (h0 : 0 ≤ h) (hh : h < (two + 1) * B1) (hlt : h < V * 1000000000) (hV0 : 0 < V) : h / V ≤ min (two / v1) 999999999 := by
 have hq0 : 0 ≤ h / V := Int.ediv_nonneg h0 (by omega)
 have hqV : h / V * V ≤ h := Int.ediv_mul_le h (by omega)
 have h1 : h / V < 1000000000 := Int.ediv_lt_of_lt_mul hV0 (by rw [Int.mul_comm]; exact hlt)
 have h2 : h / V ≤ two / v1 := by
  refine (Int.le_ediv_iff_mul_le hv1).2 ?_
  have a1 : h / V * (v1 * B1) ≤ h / V * V := Int.mul_le_mul_of_nonneg_left hV hq0
  have a2 : (h / V * v1) * B1 < (two + 1) * B1 := by rw [Int.mul_assoc]; omega
  have := Int.lt_of_mul_lt_mul_right a2 (by omega)
  omega
 omega
theorem guess_down {h V v1 v2 two h2 B2 g : Int} (hB2 : 0 < B2) (hV : (v1 * 1000000000 + v2) * B2 ≤ V) (hh : h < (two * 1000000000 + h2 + 1) * B2) (hg : 0 ≤ g) (hover : (two - g * v1) * 1000000000 + h2 < g * v2) (hge : h / V ≤ g) (hV0 : 0 < V) : h / V ≤ g - 1 := by
 rcases Int.lt_or_le (h / V) g with hlt | hle
 ·omega
 ·have e : h / V = g := by omega
  have h1 : g * V ≤ h := by rw [← e]; exact Int.ediv_mul_le h (by omega)
  have a1 : g * ((v1 * 1000000000 + v2) * B2) ≤ g * V := Int.mul_le_mul_of_nonneg_left hV hg
  have a2 : (g * (v1 * 1000000000 + v2)) * B2 < (two * 1000000000 + h2 + 1) * B2 := by rw [Int.mul_assoc]; omega
  have a3 := Int.lt_of_mul_lt_mul_right a2 (by omega)
  rw [Int.mul_add, ← Int.mul_assoc] at a3
  rw [Int.sub_mul] at hover
  omega
theorem guess_right {h V g : Int} (hV0 : 0 < V) (hge : h / V ≤ g) (hle : ¬ h < V * g) : g = h / V ∧ 0 ≤ h - V * g ∧ h - V * g < V := by
 have h1 : g ≤ h / V := (Int.le_ediv_iff_mul_le hV0).2 (by rw [Int.mul_comm]; omega)
 have e : g = h / V := by omega
 refine ⟨e, by omega, ?_⟩
 have h2 := Int.lt_ediv_add_one_mul_self h hV0
 rw [← e, Int.add_mul, Int.mul_comm g V] at h2
 omega
theorem guess_less {h V g : Int} (hV0 : 0 < V) (hge : h / V ≤ g) (hlt : h < V * g) : h / V ≤ g - 1 := by
 have h1 : h / V < g := Int.ediv_lt_of_lt_mul hV0 (by rw [Int.mul_comm]; exact hlt)
 omega
theorem top_two {f : Nat → Int} {m : Nat} (hd : Dig f (m + 1 + 1)) : sumB f (m + 1 + 1) < (f (m + 1) * 1000000000 + f m + 1) * (pw m : Int) ∧ (f (m + 1) * 1000000000 + f m) * (pw m : Int) ≤ sumB f (m + 1 + 1) := by
 have b := sumB_bd (o := f) (n := m) fun k hk => hd k (by omega)
 rw [sumB, sumB, pw_succ, Int.natCast_mul]
 have e : f (m + 1) * ((pw m : Int) * ((1000000000 : Nat) : Int)) = f (m + 1) * 1000000000 * (pw m : Int) := by rw [Int.mul_comm (pw m : Int), ← Int.mul_assoc]; rfl
 rw [e, Int.add_mul, Int.add_mul]
 omega
theorem top_three {f : Nat → Int} {m : Nat} (hd : Dig f (m + 1 + 1 + 1)) : sumB f (m + 1 + 1 + 1) < ((f (m + 1 + 1) * 1000000000 + f (m + 1)) * 1000000000 + f m + 1) * (pw m : Int) := by
 have b := top_two (f := f) (m := m) fun k hk => hd k (by omega)
 rw [sumB, pw_succ, pw_succ, Int.natCast_mul, Int.natCast_mul]
 have e : f (m + 1 + 1) * ((pw m : Int) * ((1000000000 : Nat) : Int) * ((1000000000 : Nat) : Int)) = f (m + 1 + 1) * 1000000000 * 1000000000 * (pw m : Int) := by
  rw [Int.mul_comm (pw m : Int), Int.mul_assoc, Int.mul_comm (pw m : Int), ← Int.mul_assoc, ← Int.mul_assoc]; rfl
 rw [e]
 have h1 : sumB f (m + 2) < (f (m + 1) * 1000000000 + f m + 1) * (pw m : Int) := b.1
 rw [Int.add_mul, Int.add_mul] at h1
 rw [Int.add_mul, Int.add_mul, Int.add_mul (f (m + 1 + 1) * 1000000000), Int.add_mul]
 omega
theorem sum_low {o : Nat → Int} {n L : Nat} (hd : Dig o L) (hn : n ≤ L) (h : sumB o L < (pw n : Int)) : sumB o n = sumB o L := by
 have e := sumB_add o n (L - n)
 rw [show n + (L - n) = L by omega] at e
 have b1 := (sumB_bd (o := o) (n := n) fun k hk => hd k (by omega))
 have b2 := (sumB_bd (o := fun k => o (n + k)) (n := L - n) fun k hk => hd (n + k) (by omega))
 have hp : (0 : Int) < (pw n : Int) := by have := pw_pos n; omega
 generalize sumB (fun k => o (n + k)) (L - n) = s at e b2
 rcases Int.lt_or_le 0 s with h1 | h1
 ·have : (pw n : Int) * 1 ≤ (pw n : Int) * s := Int.mul_le_mul_of_nonneg_left (by omega) (by omega)
  omega
 ·have h2 : s = 0 := by omega
  rw [h2, Int.mul_zero] at e
  omega
theorem div_end {A Bv sc Q R : Int} (hsc : 0 < sc) (h : A * sc = Bv * sc * Q + R) (h0 : 0 ≤ R) (hlt : R < Bv * sc) : Q = A / Bv ∧ R / sc = A % Bv := by
 have e : R = sc * (A - Bv * Q) := by
  rw [Int.mul_sub, Int.mul_comm sc A, ← Int.mul_assoc, Int.mul_comm sc Bv]
  omega
 have h1 : 0 ≤ A - Bv * Q := by
  rcases Int.lt_or_le (A - Bv * Q) 0 with h | h
  ·have := Int.mul_neg_of_pos_of_neg hsc h
   omega
  ·exact h
 have h2 : A - Bv * Q < Bv := by
  refine mul_lt_of hsc ?_
  rw [← e, Int.mul_comm sc Bv]; exact hlt
 have h3 := (Int.ediv_emod_unique (a := A) (b := Bv) (q := Q) (r := A - Bv * Q) (by omega)).2 ⟨by omega, h1, h2⟩
 refine ⟨h3.1.symm, ?_⟩
 rw [h3.2, e, Int.mul_ediv_cancel_left _ (by omega)]
theorem splice_self (up : Nat → Int) (i m : Nat) : splice up i m (fun k => up (i + k)) = up := by
 funext k
 by_cases h : i ≤ k ∧ k < i + m
 ·obtain ⟨j, rfl⟩ : ∃ j, k = i + j := ⟨k - i, by omega⟩
  rw [splice_in (by omega)]
 ·rw [splice_out (by omega)]
theorem DivI.skip {X V : Int} {n L M i : Nat} {up qp : Nat → Int} (D : DivI X V n L M (i + 1) up qp) (hi : i < M) (hL : M + n = L) (hV : V < (pw n : Int)) (hV0 : 0 < V) (hq : headV up n i / V ≤ 0) : DivI X V n L M i up qp := by
 have h0 := (D.head hi hL hV hV0).1
 have h1 : 0 ≤ headV up n i / V := Int.ediv_nonneg h0 (by omega)
 have h2 := Int.lt_ediv_add_one_mul_self (headV up n i) hV0
 rw [show headV up n i / V = 0 by omega] at h2
 have h := D.step (g := 0) (r := fun k => up (i + k)) hi hL hV hV0 ⟨by omega, by omega⟩ (fun k hk => D.udig (i + k) (by omega)) (by rw [Int.mul_zero, Int.sub_zero]; rfl) (by rw [Int.mul_zero]; omega)
 rw [splice_self] at h
 have e : upd qp i 0 = qp := by
  funext k
  by_cases hk : k = i
  ·subst hk; rw [upd_same, D.qz k (by omega)]
  ·rw [upd_ne _ _ hk]
 rwa [e] at h
end Go.Proofs.YthcccdjfedbnfaaGreatDoor.Limb
namespace Go.Proofs.YthcccdjfedbnfaaGreatDoor.Limb
open Go.RowKit Go.Sort Go.ChangeShapes Go.WideShapes Go.ChangeAt
theorem cellsNum : Tryz.prog.cellsOf 26 = 2 := by kernel_rfl
theorem cellsBool : Tryz.prog.cellsOf 4 = 1 := by kernel_rfl
theorem cellsList : Tryz.prog.cellsOf 24 = 1 := by kernel_rfl
theorem cellsPart : Tryz.prog.cellsOf 110 = 1 := by kernel_rfl
theorem open_list {H : Type} {enc : TypeId × Value → H} {W : World} {sp : Nat → Bool} {hd : Bool} {fuel : Nat} {v : Value} {x : DataW H × List MemPlace}
  (h : DataW.trod enc Tryz.prog W 0 sp hd fuel 24 [v] = some x) : ∃ a n c o, v = .slice a n c ∧ Rd W a n o ∧ n ≤ c := by
 rcases open_ints Tryz.underlying24 Tryz.underlying110 cellsPart h with ⟨e, _⟩ | ⟨a, len, cap, zs, e, _, hl, _, hz, _, hc, hw⟩
 ·simp only [List.cons.injEq, and_true] at e
  exact ⟨none, 0, 0, fun _ => 0, e, Rd.nil _ _ _, Nat.le_refl _⟩
 ·simp only [List.cons.injEq, and_true] at e
  have hlz : len ≤ zs.length := by rw [hz]; split <;> omega
  refine ⟨some a, len, cap, fun i => zs.getD i 0, e, ⟨fun hn => ?_, fun i hi => ?_⟩, hl⟩
  ·obtain ⟨b, off, rfl, h3⟩ := ints_at hc (by omega)
   exact ⟨b, off, rfl, fun i hi => h3 i (by omega)⟩
  ·have hmem : zs.getD i 0 ∈ zs := by
    rw [List.getD_eq_getElem?_getD, List.getElem?_eq_getElem (by omega)]
    exact List.getElem_mem _
   exact bounds_u32 (hw _ hmem)
end Go.Proofs.YthcccdjfedbnfaaGreatDoor.Limb
namespace Go.Proofs.YthcccdjfedbnfaaGreatDoor.Mono
open Go.RowKit Go.Sort
def cmpZ (x y : Int) : Int := if x < y then -1 else if y < x then 1 else 0
set_option maxHeartbeats 400000 in
theorem cmp16_any (x y : Int) (w : World) :
  Calls Tryz.prog 157 #[.int .u16 x, .int .u16 y] w fun e w' => e = .returned (.int .i64 (cmpZ x y)) ∧ w' = w := by
 rcases Int.lt_trichotomy x y with h | h | h
 ·have E := Lib.hid (show cmpZ x y = -1 by simp [cmpZ, h])
  go_enter Tryz.func157, Tryz.ntmps157
  go_wp2
  go_ret
  exact ⟨by rw [E.out]; rfl, rfl⟩
 ·have E := Lib.hid (show cmpZ x y = 0 by simp [cmpZ, h])
  subst h
  go_enter Tryz.func157, Tryz.ntmps157
  go_wp2
  go_ret
  exact ⟨by rw [E.out]; rfl, rfl⟩
 ·have E := Lib.hid (show cmpZ x y = 1 by simp [cmpZ, h]; omega)
  go_enter Tryz.func157, Tryz.ntmps157
  go_wp2
  go_ret
  exact ⟨by rw [E.out]; rfl, rfl⟩
set_option maxHeartbeats 400000 in
theorem cmp64_any (x y : Int) (w : World) :
  Calls Tryz.prog 121 #[.int .i64 x, .int .i64 y] w fun e w' => e = .returned (.int .i64 (cmpZ x y)) ∧ w' = w := by
 rcases Int.lt_trichotomy x y with h | h | h
 ·have E := Lib.hid (show cmpZ x y = -1 by simp [cmpZ, h])
  go_enter Tryz.func121, Tryz.ntmps121
  go_wp2
  go_ret
  exact ⟨by rw [E.out]; rfl, rfl⟩
 ·have E := Lib.hid (show cmpZ x y = 0 by simp [cmpZ, h])
  subst h
  go_enter Tryz.func121, Tryz.ntmps121
  go_wp2
  go_ret
  exact ⟨by rw [E.out]; rfl, rfl⟩
 ·have E := Lib.hid (show cmpZ x y = 1 by simp [cmpZ, h]; omega)
  go_enter Tryz.func121, Tryz.ntmps121
  go_wp2
  go_ret
  exact ⟨by rw [E.out]; rfl, rfl⟩
def Diff (a b : Nat → Int) (k : Nat) : Prop := k ≤ 4 ∧ (∀ j, j < k → a j = b j) ∧ (k < 4 → a k ≠ b k)
theorem diff_any (a b : Nat → Int) : ∃ k, Diff a b k := by
 by_cases h : ∀ k, k < 4 → a k = b k
 ·exact ⟨4, by omega, h, fun hh => absurd hh (by omega)⟩
 ·obtain ⟨k, h1, h2, h3⟩ := first_bad (fun k => a k = b k) 4 h
  exact ⟨k, by omega, h2, fun _ => h3⟩
def lexM (a b : Nat → Int) : Int :=
 if a 0 ≠ b 0 then cmpZ (a 0) (b 0) else if a 1 ≠ b 1 then cmpZ (a 1) (b 1) else if a 2 ≠ b 2 then cmpZ (a 2) (b 2) else cmpZ (a 3) (b 3)
theorem lex_diff {a b : Nat → Int} {k : Nat} (h : Diff a b k) : lexM a b = if k < 4 then cmpZ (a k) (b k) else 0 := by
 obtain ⟨h1, h2, h3⟩ := h
 match k, h1 with
 | 0, _ => simp [lexM, h3 (by omega)]
 | 1, _ => simp [lexM, h2 0 (by omega), h3 (by omega)]
 | 2, _ => simp [lexM, h2 0 (by omega), h2 1 (by omega), h3 (by omega)]
 | 3, _ => simp [lexM, h2 0 (by omega), h2 1 (by omega), h2 2 (by omega)]
 | 4, _ => simp [lexM, h2 0 (by omega), h2 1 (by omega), h2 2 (by omega), h2 3 (by omega), cmpZ]
set_option maxHeartbeats 1000000 in
theorem compare_any (b1 b2 t1 t2 : Nat) (a b : Nat → Int) (w : World) (hA : w.rowIs b1 t1 4 (cell a)) (hB : w.rowIs b2 t2 4 (cell b)) :
  Calls Tryz.prog 131 #[.slice (some ⟨b1, 0, none⟩) 4 4, .slice (some ⟨b2, 0, none⟩) 4 4] w fun e w' => e = .returned (.int .i64 (lexM a b)) ∧ w' = w := by
 obtain ⟨k0, hD⟩ := diff_any a b
 have E := Lib.hid (lex_diff hD)
 obtain ⟨h4, heq, hne⟩ := hD
 have EQ := Lib.hid heq; clear heq
 have NE := Lib.hid hne; clear hne
 go_enter Tryz.func131, Tryz.ntmps131
 go_wp2
 go_loop [11] (fun i => ∃ k : Nat, k ≤ k0 ∧ i = .int .i64 k) (fun i => 4 - (intOf i).toNat)
 case atStart => exact ⟨0, by omega, rfl⟩
 case round =>
  obtain ⟨k, hk, rfl⟩ := hrel
  by_cases hlt : k < 4
  ·have c1 := hA.cell hlt
   have c2 := hB.cell hlt
   by_cases hlk : k < k0
   ·have Z := Lib.hid (show cmpZ (a k) (b k) = 0 by rw [EQ.out k hlk]; simp [cmpZ])
    go_wp2_with fail
    refine (cmp16_any _ _ _).mono ?_
    rintro e w' ⟨rfl, rfl⟩
    rw [Z.out]
    go_wp2
    go_round
    case rel => exact ⟨k + 1, by omega, by go_num⟩
    case measure => simp [intOf]; omega
   ·obtain rfl : k = k0 := by omega
    have Z := Lib.hid (show lexM a b = cmpZ (a k) (b k) by rw [E.out, if_pos hlt])
    have hnz : (cmpZ (a k) (b k) != 0) = true := by
     have := NE.out hlt
     unfold cmpZ
     by_cases h1 : a k < b k
     ·simp [h1]
     ·rw [if_neg h1, if_pos (by omega)]; rfl
    go_wp2_with fail
    refine (cmp16_any _ _ _).mono ?_
    rintro e w' ⟨rfl, rfl⟩
    go_wp2
    go_ret
    exact ⟨by rw [Z.out]; rfl, rfl⟩
  ·have Z := Lib.hid (show lexM a b = 0 by rw [E.out, if_neg (by omega)])
   obtain rfl : k = 4 := by omega
   go_wp2
   go_ret
   exact ⟨by rw [Z.out]; rfl, rfl⟩
set_option maxHeartbeats 1000000 in
theorem lexical_any (a b : Nat → Int) (w : World) :
  Calls Tryz.prog 103 #[mvf a, mvf b] w fun e w' => e = .returned (.int .i64 (lexM a b)) ∧ Below w.heap.size w w' := by
 have HX := Lib.hid (boxes w 48 a b)
 go_enter Tryz.func103, Tryz.ntmps103
 go_wp2
 go_quiet (exact Calls.quiet_of_same (compare_any _ _ _ _ a b _ (HX.out.1.of_block rfl) (HX.out.2.of_block rfl)))
 go_wp2
 go_ret
 exact ⟨rfl, below_drewN (by go_grown) _⟩
set_option maxHeartbeats 1000000 in
theorem graded_any (a b : Nat → Int) (w : World) (ha : Small a) (hb : Small b) :
  Calls Tryz.prog 129 #[mvf a, mvf b] w fun e w' => e = .returned (.int .i64 (cmpZ (degM a) (degM b))) ∧ Below w.heap.size w w' := by
 have HA := Lib.hid ha; clear ha
 have HB := Lib.hid hb; clear hb
 have HX := boxes w 48 a b
 obtain ⟨a0, a1, a2, a3⟩ := rows4 HX.1
 obtain ⟨b0, b1, b2, b3⟩ := rows4 HX.2
 clear HX
 go_enter Tryz.func129, Tryz.ntmps129
 go_wp2
 refine wp_region_quiet_below (by kernel_rfl) (by kernel_rfl) ?_
 repeat (go_big_quiet_step (first
  | (go_at_call 121; exact Calls.regrown_of ((cmp64_any _ _ _).mono fun e w' ⟨he, hw⟩ => ⟨he, hw ▸ Below.refl _ _⟩))
  | (go_at_call 155; first | (with_reducible exact Calls.regrown_of (degree_any a _ HA.out)) | (with_reducible exact Calls.regrown_of (degree_any b _ HB.out)))))
 refine wpQuiet_nil ?_
 intro w5 hw5
 obtain ⟨q, rfl⟩ := hw5
 go_wp2
 go_ret
 exact ⟨rfl, (((Below.refl _ _).alloc (Nat.le_refl _) _).alloc (by simp) _).trans ((below_regrown _ q.d q.os).mono (by simp; omega))⟩
end Go.Proofs.YthcccdjfedbnfaaGreatDoor.Mono
namespace Go.Proofs.YthcccdjfedbnfaaGreatDoor.Limb
open Go.RowKit Go.Sort
set_option maxHeartbeats 400000 in
theorem chk_fn (x : Int) (w : World) :
  Calls Tryz.prog 86 #[.int .u32 x] w fun e w' => e = .returned (.bool (decide (1000000000 ≤ x))) ∧ w' = w := by
 by_cases h : 1000000000 ≤ x
 ·have E := Lib.hid (decide_eq_true h)
  go_enter Tryz.func86, Tryz.ntmps86
  go_wp2
  go_ret
  exact ⟨by rw [E.out]; rfl, rfl⟩
 ·have E := Lib.hid (decide_eq_false h)
  go_enter Tryz.func86, Tryz.ntmps86
  go_wp2
  go_ret
  exact ⟨by rw [E.out]; rfl, rfl⟩
theorem cf_chk (args : Array Value) (w : World) : (callFunc 86 args).run Tryz.prog w = .ok (.enter 86 args) w := by kernel_rfl
set_option maxHeartbeats 1000000 in
theorem idx_any (a : Option Addr) (n cap k0 : Nat) (o : Nat → Int) (w : World) (h : Rd w a n o) (hn : n ≤ 1000000000) (hk0 : k0 ≤ n) (hf : ∀ i, i < k0 → o i < 1000000000) (hb : k0 < n → 1000000000 ≤ o k0) :
  Calls Tryz.prog 118 #[.slice a n cap, .func (.func 86) #[] #[]] w fun e w' => e = .returned (.int .i64 (if k0 < n then (k0 : Int) else -1)) ∧ ∃ m, w' = w.drewN m := by
 have HF := Lib.hid hf; clear hf
 have HB := Lib.hid hb; clear hb
 have hcf := cf_chk
 go_enter Tryz.func118, Tryz.ntmps118
 go_wp2
 go_loopw [8] (fun i wr => ∃ j : Nat, j ≤ k0 ∧ i = .int .i64 j ∧ ∃ m, wr = w.drewN m) (fun i _ => n - (intOf i).toNat)
 case atStart => exact ⟨0, by omega, rfl, 0, rfl⟩
 case round =>
  obtain ⟨j, hj, rfl, m0, rfl⟩ := hrel
  by_cases hjn : j < n
  ·obtain ⟨b, off, rfl, hc⟩ := h.cells (by omega)
   have c1 := hc j hjn
   clear hc h
   by_cases hjk : j < k0
   ·have D := HF.out j hjk
    have E : decide (1000000000 ≤ o j) = false := by simp; omega
    go_wp2_with fail
    refine (chk_fn (o j) _).mono ?_
    rintro e w' ⟨rfl, hw⟩
    subst w'
    rw [E]
    go_wp2
    go_roundw
    case rel => exact ⟨j + 1, by omega, by go_num, m0, rfl⟩
    case measure => simp [intOf]; omega
   ·obtain rfl : j = k0 := by omega
    have D := HB.out hjn
    have E : decide (1000000000 ≤ o j) = true := by simp; omega
    go_wp2_with fail
    refine (chk_fn (o j) _).mono ?_
    rintro e w' ⟨rfl, hw⟩
    subst w'
    rw [E]
    go_wp2
    go_ret
    exact ⟨by first | rfl | (rw [if_pos hjn]; rfl), m0, rfl⟩
  ·have hkn : ¬ k0 < n := by omega
   clear h
   go_wp2
   go_ret
   exact ⟨by first | rfl | (rw [if_neg hkn]; rfl), m0, rfl⟩
set_option maxHeartbeats 400000 in
theorem has_any (a : Option Addr) (n cap k0 : Nat) (o : Nat → Int) (w : World) (h : Rd w a n o) (hn : n ≤ 1000000000) (hk0 : k0 ≤ n) (hf : ∀ i, i < k0 → o i < 1000000000) (hb : k0 < n → 1000000000 ≤ o k0) :
  Calls Tryz.prog 85 #[.slice a n cap, .func (.func 86) #[] #[]] w fun e w' => e = .returned (.bool (decide (k0 < n))) ∧ ∃ m, w' = w.drewN m := by
 have C := Lib.hid (idx_any a n cap k0 o w h hn hk0 hf hb)
 clear h hf hb
 by_cases hk : k0 < n
 ·have E := Lib.hid (decide_eq_true hk)
  rw [if_pos hk] at C
  go_enter Tryz.func85, Tryz.ntmps85
  go_wp2_with fail
  refine C.out.mono ?_
  rintro e w' ⟨rfl, m, rfl⟩
  go_wp2
  go_ret
  exact ⟨by rw [E.out]; rfl, m, rfl⟩
 ·have E := Lib.hid (decide_eq_false hk)
  rw [if_neg hk] at C
  go_enter Tryz.func85, Tryz.ntmps85
  go_wp2_with fail
  refine C.out.mono ?_
  rintro e w' ⟨rfl, m, rfl⟩
  go_wp2
  go_ret
  exact ⟨by rw [E.out]; rfl, m, rfl⟩
theorem first_bad (o : Nat → Int) (n : Nat) : ∃ k, k ≤ n ∧ (∀ i, i < k → o i < 1000000000) ∧ (k < n → 1000000000 ≤ o k) := by
 induction n with
 | zero => exact ⟨0, by omega, fun i h => by omega, fun h => by omega⟩
 | succ n ih =>
  obtain ⟨k, h1, h2, h3⟩ := ih
  by_cases hk : k < n
  ·exact ⟨k, by omega, h2, fun _ => h3 hk⟩
  ·obtain rfl : k = n := by omega
   by_cases h : o k < 1000000000
   ·exact ⟨k + 1, by omega, fun i hi => by
     by_cases e : i = k
     ·rw [e]; exact h
     ·exact h2 i (by omega), fun h => by omega⟩
   ·exact ⟨k, by omega, h2, fun _ => by omega⟩
open Classical in
set_option maxHeartbeats 1000000 in
theorem check_any (s : Bool) (a : Option Addr) (n cap : Nat) (o : Nat → Int) (w : World) (h : Rd w a n o) (hn : n ≤ 1000000000) :
  Calls Tryz.prog 41 #[numV s a n cap] w fun e w' => e = .returned (.bool (decide (okN s n o))) ∧ Below w.heap.size w w' := by
 obtain ⟨k0, hk0, hf, hb⟩ := first_bad o n
 have C := Lib.hid (fun (w2 : World) (hw : Below w.heap.size w w2) => has_any a n cap k0 o w2 (h.below hw) hn hk0 hf hb)
 have hcf := cf_chk
 by_cases hk : k0 < n
 ·have E := Lib.hid (show decide (okN s n o) = false from decide_eq_false fun hh => by have := hh.1 k0 hk; have := hb hk; omega)
  have D : decide (k0 < n) = true := decide_eq_true hk
  clear hf hb h
  go_enter Tryz.func41, Tryz.ntmps41
  go_wp2_with fail
  refine (C.out _ ?_).mono ?_
  ·(repeat' (first | (with_reducible exact Below.refl _ _) | (with_reducible assumption) | (with_reducible refine Below.alloc ?_ ?_ _) | (with_reducible refine Below.drew ?_) | (with_reducible refine bdrewN ?_ _) | (with_reducible refine Below.setCell ?_ ?_ _) | (with_reducible refine Below.frame ?_ _) | go_size))
  rintro e w' ⟨rfl, m, rfl⟩
  rw [D]
  go_wp2
  go_ret
  exact ⟨by rw [E.out]; rfl, by (repeat' (first | (with_reducible exact Below.refl _ _) | (with_reducible assumption) | (with_reducible refine Below.alloc ?_ ?_ _) | (with_reducible refine Below.drew ?_) | (with_reducible refine bdrewN ?_ _) | (with_reducible refine Below.setCell ?_ ?_ _) | (with_reducible refine Below.frame ?_ _) | go_size))⟩
 ·have D : decide (k0 < n) = false := decide_eq_false hk
  have hfi : ∀ i, i < n → o i < 1000000000 := fun i hi => hf i (by omega)
  clear hb
  by_cases h0 : n = 0
  ·subst h0
   have E := Lib.hid (show decide (okN s 0 o) = !s by
    cases s with
    | false => exact decide_eq_true ⟨hfi, fun _ => rfl, fun h => by omega⟩
    | true => exact decide_eq_false fun hh => by have := hh.2.1 rfl; contradiction)
   clear hf h hfi
   go_enter Tryz.func41, Tryz.ntmps41
   go_wp2_with fail
   refine (C.out _ ?_).mono ?_
   ·(repeat' (first | (with_reducible exact Below.refl _ _) | (with_reducible assumption) | (with_reducible refine Below.alloc ?_ ?_ _) | (with_reducible refine Below.drew ?_) | (with_reducible refine bdrewN ?_ _) | (with_reducible refine Below.setCell ?_ ?_ _) | (with_reducible refine Below.frame ?_ _) | go_size))
   rintro e w' ⟨rfl, m, rfl⟩
   rw [D]
   cases s with
   | false =>
    go_wp2
    go_ret
    exact ⟨by rw [E.out]; rfl, by (repeat' (first | (with_reducible exact Below.refl _ _) | (with_reducible assumption) | (with_reducible refine Below.alloc ?_ ?_ _) | (with_reducible refine Below.drew ?_) | (with_reducible refine bdrewN ?_ _) | (with_reducible refine Below.setCell ?_ ?_ _) | (with_reducible refine Below.frame ?_ _) | go_size))⟩
   | true =>
    go_wp2
    go_ret
    exact ⟨by rw [E.out]; rfl, by (repeat' (first | (with_reducible exact Below.refl _ _) | (with_reducible assumption) | (with_reducible refine Below.alloc ?_ ?_ _) | (with_reducible refine Below.drew ?_) | (with_reducible refine bdrewN ?_ _) | (with_reducible refine Below.setCell ?_ ?_ _) | (with_reducible refine Below.frame ?_ _) | go_size))⟩
  ·obtain ⟨b, off, rfl, hc⟩ := h.cells (by omega)
   have c1 := hc (n - 1) (by omega)
   have E := Lib.hid (show decide (okN s n o) = (o (n - 1) != 0) by
    by_cases hz : o (n - 1) = 0
    ·rw [hz]; exact decide_eq_false fun hh => hh.2.2 (by omega) hz
    ·rw [show (o (n - 1) != 0) = true by simpa using hz]
     exact decide_eq_true ⟨hfi, fun h => by omega, fun _ => hz⟩)
   have hlt : b < w.heap.size := block_lt_of_cell c1
   obtain ⟨q, rfl⟩ : ∃ q, n = q + 1 := ⟨n - 1, by omega⟩
   rw [Nat.add_sub_cancel] at c1 E
   have ex : ((q + 1 : Nat) : Int) - 1 = (q : Int) := by omega
   have ez : (decide (((q + 1 : Nat) : Int) = 0)) = false := by simp; omega
   clear hf h hfi hc
   go_enter Tryz.func41, Tryz.ntmps41
   go_wp2_with fail
   refine (C.out _ ?_).mono ?_
   ·(repeat' (first | (with_reducible exact Below.refl _ _) | (with_reducible assumption) | (with_reducible refine Below.alloc ?_ ?_ _) | (with_reducible refine Below.drew ?_) | (with_reducible refine bdrewN ?_ _) | (with_reducible refine Below.setCell ?_ ?_ _) | (with_reducible refine Below.frame ?_ _) | go_size))
   rintro e w' ⟨rfl, m, rfl⟩
   rw [D]
   go_wp2
   go_ret
   exact ⟨by rw [E.out]; rfl, by (repeat' (first | (with_reducible exact Below.refl _ _) | (with_reducible assumption) | (with_reducible refine Below.alloc ?_ ?_ _) | (with_reducible refine Below.drew ?_) | (with_reducible refine bdrewN ?_ _) | (with_reducible refine Below.setCell ?_ ?_ _) | (with_reducible refine Below.frame ?_ _) | go_size))⟩
end Go.Proofs.YthcccdjfedbnfaaGreatDoor.Limb
namespace Go.Proofs.YthcccdjfedbnfaaGreatDoor.Limb
def q0 (x y : Int) : Int := if decide (x < 0) = decide (y < 0) then ((x.natAbs / y.natAbs : Nat) : Int) else -((x.natAbs / y.natAbs : Nat) : Int)
def r0 (x y : Int) : Int := if x < 0 then -((x.natAbs % y.natAbs : Nat) : Int) else ((x.natAbs % y.natAbs : Nat) : Int)
theorem q0_abs (x y : Int) : (q0 x y).natAbs = x.natAbs / y.natAbs := by unfold q0; generalize x.natAbs / y.natAbs = Q; split <;> omega
theorem r0_abs (x y : Int) : (r0 x y).natAbs = x.natAbs % y.natAbs := by unfold r0; generalize x.natAbs % y.natAbs = R; split <;> omega
theorem pos_of_len {m : Nat} : (0 < lenB m) ↔ 0 < m := by
 have := lenB_eq_zero (m := m)
 omega
theorem q0_sign (x y : Int) : ((!(decide (x < 0) == decide (y < 0))) && decide (0 < lenB (x.natAbs / y.natAbs))) = decide (q0 x y < 0) := by
 have e := pos_of_len (m := x.natAbs / y.natAbs)
 unfold q0
 generalize x.natAbs / y.natAbs = Q at *
 by_cases h : decide (x < 0) = decide (y < 0)
 ·rw [if_pos h, h]
  simp
 ·rw [if_neg h]
  have h1 : (decide (x < 0) == decide (y < 0)) = false := by simpa using h
  rw [h1, Bool.not_false, Bool.true_and]
  exact decide_eq_decide.2 (e.trans (by omega))
theorem r0_sign (x y : Int) : (decide (x < 0) && decide (0 < lenB (x.natAbs % y.natAbs))) = decide (r0 x y < 0) := by
 have e := pos_of_len (m := x.natAbs % y.natAbs)
 unfold r0
 generalize x.natAbs % y.natAbs = R at *
 by_cases h : x < 0
 ·rw [if_pos h, decide_eq_true h, Bool.true_and]
  exact decide_eq_decide.2 (e.trans (by omega))
 ·rw [if_neg h, decide_eq_false h, Bool.false_and]
  exact (decide_eq_false (by omega)).symm
theorem div_pos {x y q r : Int} (hy : 0 < y) (e : x = y * q + r) (h0 : 0 ≤ r) (h1 : r < y) : x / y = q ∧ x % y = r := by
 have := (Int.ediv_emod_unique hy (a := x) (r := r) (q := q)).2 ⟨by omega, h0, h1⟩
 exact this
theorem nat_div (A B : Nat) : (A : Int) = (B : Int) * ((A / B : Nat) : Int) + ((A % B : Nat) : Int) := by
 rw [← Int.natCast_mul, ← Int.natCast_add, Nat.div_add_mod]
theorem div_plain {x y : Int} (hy : y ≠ 0) (h : ¬ r0 x y < 0) : x / y = q0 x y ∧ x % y = r0 x y := by
 have e := nat_div x.natAbs y.natAbs
 have hr : x.natAbs % y.natAbs < y.natAbs := Nat.mod_lt _ (by omega)
 unfold q0 r0 at *
 generalize x.natAbs % y.natAbs = R at *
 generalize x.natAbs / y.natAbs = Q at *
 have hx : x < 0 → R = 0 := fun hx => by rw [if_pos hx] at h; omega
 have key : ∀ B : Nat, 0 < B → R < B → ((x.natAbs : Int) = (B : Int) * (Q : Int) + (R : Int)) → x / (B : Int) = (if x < 0 then -(Q : Int) else (Q : Int)) ∧ x % (B : Int) = (if x < 0 then -(R : Int) else (R : Int)) := by
  intro B hB hRB hE
  by_cases hn : x < 0
  ·rw [if_pos hn, if_pos hn]
   have := hx hn
   refine div_pos (by omega) ?_ (by omega) (by omega)
   rw [Int.mul_neg]; omega
  ·rw [if_neg hn, if_neg hn]
   exact div_pos (by omega) (by omega) (by omega) (by omega)
 rcases Int.lt_or_gt_of_ne hy with h1 | h1
 ·obtain ⟨k1, k2⟩ := key y.natAbs (by omega) hr e
  have ey : y = -((y.natAbs : Nat) : Int) := by omega
  have e1 : x / y = -(x / ((y.natAbs : Nat) : Int)) := by conv => lhs; rw [ey, Int.ediv_neg]
  have e2 : x % y = x % ((y.natAbs : Nat) : Int) := by conv => lhs; rw [ey, Int.emod_neg]
  rw [e1, e2, k1, k2]
  refine ⟨?_, rfl⟩
  by_cases hn : x < 0
  ·rw [if_pos hn, if_pos (by simp [hn, h1])]; omega
  ·rw [if_neg hn, if_neg (by simp [hn, h1])]
 ·obtain ⟨k1, k2⟩ := key y.natAbs (by omega) hr e
  have ey : y = ((y.natAbs : Nat) : Int) := by omega
  have hy2 : ¬ y < 0 := by omega
  rw [← ey] at k1 k2
  rw [k1, k2]
  refine ⟨?_, rfl⟩
  by_cases hn : x < 0
  ·rw [if_pos hn, if_neg (by simp [hn, hy2])]
  ·rw [if_neg hn, if_pos (by simp [hn, hy2])]
theorem div_down {x y : Int} (hy : y ≠ 0) (h : r0 x y < 0) : x / y = q0 x y + (if y < 0 then 1 else -1) ∧ x % y = r0 x y + (y.natAbs : Int) := by
 have e := nat_div x.natAbs y.natAbs
 have hr : x.natAbs % y.natAbs < y.natAbs := Nat.mod_lt _ (by omega)
 unfold q0 r0 at *
 generalize x.natAbs % y.natAbs = R at *
 generalize x.natAbs / y.natAbs = Q at *
 have hx : x < 0 := by
  rcases Int.lt_or_le x 0 with h1 | h1
  ·exact h1
  ·rw [if_neg (by omega)] at h; omega
 rw [if_pos hx] at h ⊢
 have key : x / ((y.natAbs : Nat) : Int) = -(Q : Int) - 1 ∧ x % ((y.natAbs : Nat) : Int) = -(R : Int) + ((y.natAbs : Nat) : Int) := by
  refine div_pos (by omega) ?_ (by omega) (by omega)
  rw [Int.mul_sub, Int.mul_neg]; omega
 rcases Int.lt_or_gt_of_ne hy with h1 | h1
 ·have ey : y = -((y.natAbs : Nat) : Int) := by omega
  have e1 : x / y = -(x / ((y.natAbs : Nat) : Int)) := by conv => lhs; rw [ey, Int.ediv_neg]
  have e2 : x % y = x % ((y.natAbs : Nat) : Int) := by conv => lhs; rw [ey, Int.emod_neg]
  rw [e1, e2, key.1, key.2]
  refine ⟨?_, rfl⟩
  rw [if_pos h1, if_pos (by simp [hx, h1])]; omega
 ·have ey : y = ((y.natAbs : Nat) : Int) := by omega
  have k1 := key.1; have k2 := key.2
  have hy2 : ¬ y < 0 := by omega
  rw [← ey] at k1 k2
  rw [k1, k2]
  refine ⟨?_, by omega⟩
  rw [if_neg hy2, if_neg (by simp [hx, hy2])]; omega
end Go.Proofs.YthcccdjfedbnfaaGreatDoor.Limb
namespace Go.Proofs.YthcccdjfedbnfaaGreatDoor.Mono
open Go.RowKit Go.Sort
def revM (a : Nat → Int) (i : Nat) : Int := a (3 - i)
set_option maxHeartbeats 2000000 in
theorem reverse_any (b t : Nat) (a : Nat → Int) (w : World) (hA : w.rowIs b t 4 (cell a)) :
  Calls Tryz.prog 156 #[.slice (some ⟨b, 0, none⟩) 4 4] w fun e w' => e = .returned (.tuple #[]) ∧ w'.rowIs b t 4 (cell (revM a)) ∧ w.grownBy w' (some b) := by
 have HR := Lib.hid hA
 obtain ⟨c0, c1, c2, c3⟩ := rowc hA
 have hf := fun i => hA.frozen i
 clear hA
 go_enter Tryz.func156, Tryz.ntmps156
 go_wp2
 refine wp_loop_rounds 3 ?_
 rw [rounds_succ]
 go_wp2
 go_region
 go_wp2
 rw [rounds_succ]
 go_wp2
 go_region
 go_wp2
 rw [rounds_succ]
 go_wp2
 go_end0
 have R := ((((HR.out.set 0 (.int .u16 (a 3))).set 3 (.int .u16 (a 0))).set 1 (.int .u16 (a 2))).set 2 (.int .u16 (a 1))).drew.drew
 refine ⟨rfl, R.congr (fun j hj => ?_), rfl, rfl, rfl, ?_, fun k _ hk => ?_⟩
 ·match j, hj with
  | 0, _ => simp [revM, cell]
  | 1, _ => simp [revM, cell]
  | 2, _ => simp [revM, cell]
  | 3, _ => simp [revM, cell]
 ·simp
 ·have e : k ≠ b := fun e => hk (by rw [e])
  show ((((w.setCell ⟨b, 0, none⟩ _).setCell ⟨b, 3, none⟩ _).setCell ⟨b, 1, none⟩ _).setCell ⟨b, 2, none⟩ _).heap[k]? = _
  rw [Below.heap_setCell _ _ _ _ e, Below.heap_setCell _ _ _ _ e, Below.heap_setCell _ _ _ _ e, Below.heap_setCell _ _ _ _ e]
set_option maxHeartbeats 1000000 in
theorem backward_any (a b : Nat → Int) (w : World) :
  Calls Tryz.prog 130 #[mvf a, mvf b] w fun e w' => e = .returned (.int .i64 (lexM (revM b) (revM a))) ∧ Below w.heap.size w w' := by
 have HX := Lib.hid (boxes w 48 a b)
 go_enter Tryz.func130, Tryz.ntmps130
 go_wp2_with fail
 refine (reverse_any _ _ a _ HX.out.1).mono ?_
 rintro e w1 ⟨rfl, hr1, hg1⟩
 have hb1 := hr1
 have HB1 := Lib.hid (HX.out.2.of_block (hg1.block (w.heap.size + 1) (by simp) (by simp)))
 have G1 := Lib.hid ((((Below.refl _ _).alloc (Nat.le_refl _) _).alloc (by simp) _).grown hg1 (by simp; omega) (by simp) : Below w.heap.size w w1)
 have HR1 := Lib.hid hr1
 have HG1 := Lib.hid hg1.size
 clear hr1 hg1 hb1
 go_wp2_with fail
 refine (reverse_any _ _ b _ HB1.out).mono ?_
 rintro e w2 ⟨rfl, hr2, hg2⟩
 have HB2 := Lib.hid hr2
 have HA2 := Lib.hid (HR1.out.of_block (hg2.block w.heap.size (by have := HG1.out; simp at this; omega) (by simp)))
 have G2 := Lib.hid (G1.out.grown hg2 (by have := G1.out.size; omega) (by simp))
 clear hr2 hg2
 go_wp2
 go_quiet (exact Calls.quiet_of_same (compare_any _ _ _ _ (revM b) (revM a) _ (HB2.out.of_block rfl) (HA2.out.of_block rfl)))
 go_wp2
 go_ret
 exact ⟨rfl, below_drewN G2.out _⟩
def putObj (X : World) (r : Nat) (o : Obj) : World := { X with heap := X.heap.setIfInBounds r o }
@[go_sem] theorem size_putObj (X : World) (r : Nat) (o : Obj) : (putObj X r o).heap.size = X.heap.size := by simp [putObj]
theorem putObj_same {X : World} {r : Nat} {o o' : Obj} (h : X.heap[r]? = some o') : (putObj X r o).heap[r]? = some o := by
 have := lt_of_block h
 simp [putObj, this]
theorem putObj_other (X : World) {r k : Nat} (o : Obj) (h : k ≠ r) : (putObj X r o).heap[k]? = X.heap[k]? := by
 simp [putObj, Array.getElem?_setIfInBounds]; omega
theorem below_putObj {B : Nat} {w X : World} (h : Below B w X) {r : Nat} (hr : B ≤ r) (o : Obj) : Below B w (putObj X r o) :=
 h.trans ⟨rfl, rfl, rfl, by simp [putObj], fun k hk => putObj_other X o (by omega)⟩
theorem checkKey8 (b : Bool) (n : Nat) (k : Int) (w : World) : (Instr.checkKey b (n + 1) 44 (.int .u8 k)).run Tryz.prog w = .ok () w := by
 rw [Instr.checkKey]
 simp [Sem.run_bind, run_underlying Tryz.underlying44]
theorem upd0 {X : World} {r : Nat} (h : X.heap[r]? = some (.map #[] 0)) (k : Int) (v : Value) :
  (Instr.mapUpdate 133 (.map (some r)) (.int .u8 k) v).run Tryz.prog X = .ok () (putObj X r (.map #[⟨.int .u8 k, v, 0⟩] 1)) := by
 unfold Instr.mapUpdate
 simp [Sem.run_bind, run_underlying Tryz.underlying133, h, getObj, setObj, checkKey8 _ 9999, Instr.findKey, run_underlying Tryz.underlying44, Instr.findNow, putObj, Sem.run]
theorem upd1 {X : World} {r : Nat} {k1 : Int} {v1 : Value} (h : X.heap[r]? = some (.map #[⟨.int .u8 k1, v1, 0⟩] 1)) (k : Int) (v : Value) (hk : (k == k1) = false) :
  (Instr.mapUpdate 133 (.map (some r)) (.int .u8 k) v).run Tryz.prog X = .ok () (putObj X r (.map #[⟨.int .u8 k1, v1, 0⟩, ⟨.int .u8 k, v, 1⟩] 2)) := by
 unfold Instr.mapUpdate
 simp [Sem.run_bind, run_underlying Tryz.underlying133, h, getObj, setObj, checkKey8 _ 9999, Instr.findKey, run_underlying Tryz.underlying44, Instr.findNow, Instr.sameNow, putObj, Sem.run, hk]
theorem look2 {X : World} {r : Nat} {k1 k2 : Int} {v1 v2 : Value} (h : X.heap[r]? = some (.map #[⟨.int .u8 k1, v1, 0⟩, ⟨.int .u8 k2, v2, 1⟩] 2)) (k : Int) :
  (Instr.lookup 133 (.map (some r)) (.int .u8 k) false).run Tryz.prog X = .ok (if (k == k1) = true then v1 else if (k == k2) = true then v2 else .slice none 0 0) X := by
 have hz : ∀ w, (zeroValue 132).run Tryz.prog w = .ok (.slice none 0 0) w := fun _ => by kernel_rfl
 unfold Instr.lookup
 cases h1 : k == k1 <;> cases h2 : k == k2 <;>
 simp [Sem.run_bind, run_underlying Tryz.underlying133, h, getObj, checkKey8 _ 9999, Instr.findKey, run_underlying Tryz.underlying44, Instr.findNow, Instr.sameNow, Sem.run, hz, h1, h2]
abbrev fnG : Value := .func (.func 129) #[] #[]
abbrev fnL : Value := .func (.func 103) #[] #[]
abbrev fnB : Value := .func (.func 130) #[] #[]
def Ords (B : Nat) (X : World) : Prop :=
 X.heap[B]? = some (.map #[⟨.int .u8 1, .slice (some ⟨B + 1, 0, none⟩) 2 2, 0⟩, ⟨.int .u8 2, .slice (some ⟨B + 1 + 1, 0, none⟩) 2 2, 1⟩] 2) ∧
 (X.cell? ⟨B + 1, 0, none⟩ = some fnG ∧ X.cell? ⟨B + 1, 1, none⟩ = some fnL) ∧ (X.cell? ⟨B + 1 + 1, 0, none⟩ = some fnG ∧ X.cell? ⟨B + 1 + 1, 1, none⟩ = some fnB)
def ordO (f : Value) : Obj := .cells #[fnG, f] 69
def ordM1 (B : Nat) : Obj := .map #[⟨.int .u8 1, .slice (some ⟨B + 1, 0, none⟩) 2 2, 0⟩] 1
def ordM2 (B : Nat) : Obj := .map #[⟨.int .u8 1, .slice (some ⟨B + 1, 0, none⟩) 2 2, 0⟩, ⟨.int .u8 2, .slice (some ⟨B + 1 + 1, 0, none⟩) 2 2, 1⟩] 2
def ordW (w : World) : World := putObj ((putObj ((w.alloc (.map #[] 0)).alloc (ordO fnL)) w.heap.size (ordM1 w.heap.size)).alloc (ordO fnB)) w.heap.size (ordM2 w.heap.size)
theorem ordW_ok (w : World) : Ords w.heap.size (ordW w) ∧ Below w.heap.size w (ordW w) := by
 have e0 : ((w.alloc (.map #[] 0)).alloc (ordO fnL)).heap[w.heap.size]? = some (.map #[] 0) := (Below.heap_alloc _ _ _ (by simp)).trans (Go.heap_alloc_new w _)
 have e1 : ((w.alloc (.map #[] 0)).alloc (ordO fnL)).heap[w.heap.size + 1]? = some (ordO fnL) := by
  have := Go.heap_alloc_new (w.alloc (.map #[] 0)) (ordO fnL)
  rwa [World.size_alloc] at this
 have f0 := putObj_same (o := ordM1 w.heap.size) e0
 have f1 := (putObj_other ((w.alloc (.map #[] 0)).alloc (ordO fnL)) (ordM1 w.heap.size) (show w.heap.size + 1 ≠ w.heap.size by omega)).trans e1
 have hs : (putObj ((w.alloc (.map #[] 0)).alloc (ordO fnL)) w.heap.size (ordM1 w.heap.size)).heap.size = w.heap.size + 1 + 1 := by simp [size_putObj]
 have g2 := Go.heap_alloc_new (putObj ((w.alloc (.map #[] 0)).alloc (ordO fnL)) w.heap.size (ordM1 w.heap.size)) (ordO fnB)
 rw [hs] at g2
 have g0 := (Below.heap_alloc (putObj ((w.alloc (.map #[] 0)).alloc (ordO fnL)) w.heap.size (ordM1 w.heap.size)) (ordO fnB) _ (by rw [hs]; omega)).trans f0
 have g1 := (Below.heap_alloc (putObj ((w.alloc (.map #[] 0)).alloc (ordO fnL)) w.heap.size (ordM1 w.heap.size)) (ordO fnB) _ (by rw [hs]; omega)).trans f1
 have h0 := putObj_same (o := ordM2 w.heap.size) g0
 have h1 := (putObj_other _ (ordM2 w.heap.size) (show w.heap.size + 1 ≠ w.heap.size by omega)).trans g1
 have h2 := (putObj_other _ (ordM2 w.heap.size) (show w.heap.size + 1 + 1 ≠ w.heap.size by omega)).trans g2
 refine ⟨⟨h0, ⟨?_, ?_⟩, ?_, ?_⟩, ?_⟩
 ·exact (cell_of_row _ _ 0 _ _ _ h1)
 ·exact (cell_of_row _ _ 1 _ _ _ h1)
 ·exact (cell_of_row _ _ 0 _ _ _ h2)
 ·exact (cell_of_row _ _ 1 _ _ _ h2)
 ·refine below_putObj (Below.alloc (below_putObj (((Below.refl _ _).alloc (Nat.le_refl _) _).alloc (by simp) _) (Nat.le_refl _) _) ?_ _) (Nat.le_refl _) _
  rw [hs]; omega
set_option maxHeartbeats 1000000 in
theorem orders_any (w : World) :
  Calls Tryz.prog 102 #[] w fun e w' => e = .returned (.map (some w.heap.size)) ∧ Ords w.heap.size w' ∧ Below w.heap.size w w' := by
 have hmm := fun (t : TypeId) (w : World) => run_makeMap (P := Tryz.prog) t w
 have u0 := fun (o : Obj) v => upd0 (X := (w.alloc (.map #[] 0)).alloc o) (r := w.heap.size) ((Below.heap_alloc _ o _ (by simp)).trans (Go.heap_alloc_new w _)) 1 v
 have u1 := fun (o1 : Obj) v1 (o2 : Obj) v => upd1 (X := (putObj ((w.alloc (.map #[] 0)).alloc o1) w.heap.size (.map #[⟨.int .u8 1, v1, 0⟩] 1)).alloc o2) (r := w.heap.size) (k1 := 1) (v1 := v1)
  ((Below.heap_alloc _ o2 _ (by rw [size_putObj]; simp; omega)).trans (putObj_same ((Below.heap_alloc _ o1 _ (by simp)).trans (Go.heap_alloc_new w _)))) 2 v rfl
 have hok := Lib.hid (ordW_ok w)
 go_enter Tryz.func102, Tryz.ntmps102
 go_wp2
 go_ret
 exact ⟨rfl, hok.out⟩
end Go.Proofs.YthcccdjfedbnfaaGreatDoor.Mono
namespace Go.Proofs.YthcccdjfedbnfaaGreatDoor.Limb
theorem low_num (t l : Int) (hl : l ≠ 0) : t / (if l < 0 then -((Int.gcd t l : Nat) : Int) else ((Int.gcd t l : Nat) : Int)) = (Rat.divInt t l).num := by
 rw [Rat.num_divInt, Int.gcd_comm l t]
 have hd : ((Int.gcd t l : Nat) : Int) ∣ t := Int.gcd_dvd_left t l
 rcases Int.lt_or_gt_of_ne hl with h | h
 ·rw [if_pos h, Int.sign_eq_neg_one_of_neg h, Int.ediv_neg, Int.neg_mul, Int.one_mul, Int.neg_ediv_of_dvd hd]
 ·rw [if_neg (by omega), Int.sign_eq_one_of_pos h, Int.one_mul]
theorem low_den (t l : Int) (hl : l ≠ 0) : l / (if l < 0 then -((Int.gcd t l : Nat) : Int) else ((Int.gcd t l : Nat) : Int)) = ((Rat.divInt t l).den : Int) := by
 rw [Rat.den_divInt, if_neg hl, Int.gcd_comm l t]
 have hd : ((Int.gcd t l : Nat) : Int) ∣ l := Int.gcd_dvd_right t l
 rw [Int.natCast_ediv]
 rcases Int.lt_or_gt_of_ne hl with h | h
 ·rw [if_pos h, Int.ediv_neg, ← Int.neg_ediv_of_dvd hd]
  congr 1; omega
 ·rw [if_neg (by omega)]
  congr 1; omega
theorem low_gcd (t l : Int) (hl : l ≠ 0) : (if l < 0 then -((Int.gcd t l : Nat) : Int) else ((Int.gcd t l : Nat) : Int)) ≠ 0 := by
 have h : Int.gcd t l ≠ 0 := fun h => hl (Int.eq_zero_of_gcd_eq_zero_right h)
 split <;> omega
def okF (s1 : Bool) (n1 : Nat) (o1 : Nat → Int) (s2 : Bool) (n2 : Nat) (o2 : Nat → Int) : Prop :=
 okN s1 n1 o1 ∧ okN s2 n2 o2 ∧ 0 < valN s2 n2 o2 ∧ Int.gcd (valN s1 n1 o1) (valN s2 n2 o2) = 1
open Classical in
noncomputable def valF (s1 : Bool) (n1 : Nat) (o1 : Nat → Int) (s2 : Bool) (n2 : Nat) (o2 : Nat → Int) : Rat := if okF s1 n1 o1 s2 n2 o2 then Rat.divInt (valN s1 n1 o1) (valN s2 n2 o2) else 0
theorem div_one_num {t l : Int} (hl : 0 < l) (h : Int.gcd t l = 1) : (Rat.divInt t l).num = t ∧ ((Rat.divInt t l).den : Int) = l := by
 have h1 := low_num t l (by omega)
 have h2 := low_den t l (by omega)
 rw [if_neg (by omega), h] at h1 h2
 simp only [Int.natCast_one, Int.ediv_one] at h1 h2
 exact ⟨h1.symm, h2.symm⟩
theorem valF_ok {s1 : Bool} {n1 : Nat} {o1 : Nat → Int} {s2 : Bool} {n2 : Nat} {o2 : Nat → Int} (h : okF s1 n1 o1 s2 n2 o2) : (valF s1 n1 o1 s2 n2 o2).num = valN s1 n1 o1 ∧ ((valF s1 n1 o1 s2 n2 o2).den : Int) = valN s2 n2 o2 := by
 unfold valF
 rw [if_pos h]
 exact div_one_num h.2.2.1 h.2.2.2
theorem valF_not {s1 : Bool} {n1 : Nat} {o1 : Nat → Int} {s2 : Bool} {n2 : Nat} {o2 : Nat → Int} (h : ¬ okF s1 n1 o1 s2 n2 o2) : valF s1 n1 o1 s2 n2 o2 = 0 := by
 unfold valF
 rw [if_neg h]
theorem rat_gcd (x : Rat) : Int.gcd x.num (x.den : Int) = 1 := by
 have := x.reduced
 show Nat.gcd x.num.natAbs ((x.den : Int)).natAbs = 1
 rw [Int.natAbs_natCast]
 exact this
theorem rat_pos (x : Rat) : (0 : Int) < (x.den : Int) := by have := x.den_pos; omega
end Go.Proofs.YthcccdjfedbnfaaGreatDoor.Limb
namespace Go.Proofs.YthcccdjfedbnfaaGreatDoor.Limb
open Go.RowKit Go.Sort
def Bx (w : World) (b : Nat) (t : TypeId) (x y : Value) : Prop := w.heap[b]? = some (.cells #[x, y] t (0, 0))
def bxf (x y : Value) (i : Nat) : Value := if i = 0 then x else y
theorem Bx.row {w : World} {b : Nat} {t : TypeId} {x y : Value} (h : Bx w b t x y) : w.rowIs b t 2 (bxf x y) :=
 ⟨#[x, y], h, rfl, fun i hi => by
  match i, hi with
  | 0, _ => rfl
  | 1, _ => rfl⟩
theorem Bx.of_row {w : World} {b : Nat} {t : TypeId} {f : Nat → Value} (h : w.rowIs b t 2 f) : Bx w b t (f 0) (f 1) := by
 obtain ⟨c, hb, hn, hc⟩ := h
 show w.heap[b]? = _
 rw [hb]
 have e : c = #[f 0, f 1] := by
  apply Array.ext
  ·simpa using hn
  ·intro i h1 h2
   have h3 := hc i (by omega)
   rw [Array.getElem?_eq_getElem h1] at h3
   have h4 : i < 2 := by omega
   have h5 : #[f 0, f 1][i]? = some (f i) := by
    match i, h4 with
    | 0, _ => rfl
    | 1, _ => rfl
   rw [Array.getElem?_eq_getElem h2] at h5
   simp only [Option.some.injEq] at h3 h5
   rw [h3, h5]
 rw [e]
theorem Bx.c0 {w : World} {b : Nat} {t : TypeId} {x y : Value} (h : Bx w b t x y) : w.cell? ⟨b, 0, none⟩ = some x := cell_of_row _ _ _ _ _ _ h
theorem Bx.c1 {w : World} {b : Nat} {t : TypeId} {x y : Value} (h : Bx w b t x y) : w.cell? ⟨b, 1, none⟩ = some y := cell_of_row _ _ _ _ _ _ h
theorem Bx.fz {w : World} {b : Nat} {t : TypeId} {x y : Value} (h : Bx w b t x y) (i : Nat) : w.frozen? ⟨b, i, none⟩ = false := h.row.frozen i
theorem Bx.lt {w : World} {b : Nat} {t : TypeId} {x y : Value} (h : Bx w b t x y) : b < w.heap.size := h.row.lt
theorem Bx.of {w w' : World} {b : Nat} {t : TypeId} {x y : Value} (h : Bx w b t x y) (e : w'.heap[b]? = w.heap[b]?) : Bx w' b t x y := e.trans h
theorem Bx.below {W w : World} {b B : Nat} {t : TypeId} {x y : Value} (h : Bx W b t x y) (hb : Below B W w) (hlt : b < B) : Bx w b t x y := h.of (hb.block _ hlt)
theorem Bx.alloc {w : World} {b : Nat} {t : TypeId} {x y : Value} (h : Bx w b t x y) (o : Obj) : Bx (w.alloc o) b t x y := h.of (Below.heap_alloc _ _ _ h.lt)
theorem Bx.other {w : World} {b : Nat} {t : TypeId} {x y : Value} (h : Bx w b t x y) {a : Addr} (ha : b ≠ a.block) (v : Value) : Bx (w.setCell a v) b t x y := h.of (Below.heap_setCell _ _ _ _ ha)
theorem Bx.new (w : World) (t : TypeId) (x y : Value) : Bx (w.alloc (.cells #[x, y] t)) w.heap.size t x y := by show (w.heap.push _)[w.heap.size]? = _; simp
theorem Bx.new2 (w : World) (p : Obj) (t : TypeId) (x y : Value) : Bx ((w.alloc p).alloc (.cells #[x, y] t)) (w.heap.size + 1) t x y := by have h := Bx.new (w.alloc p) t x y; rw [World.size_alloc] at h; exact h
theorem Bx.new3 (w : World) (p q : Obj) (t : TypeId) (x y : Value) : Bx (((w.alloc p).alloc q).alloc (.cells #[x, y] t)) (w.heap.size + 1 + 1) t x y := by have h := Bx.new2 (w.alloc p) q t x y; rw [World.size_alloc] at h; exact h
theorem Bx.drewN {w : World} {b : Nat} {t : TypeId} {x y : Value} (h : Bx w b t x y) (m : Nat) : Bx (w.drewN m) b t x y := h
theorem Bx.set0 {w : World} {b : Nat} {t : TypeId} {x y : Value} (h : Bx w b t x y) (v : Value) : Bx (w.setCell ⟨b, 0, none⟩ v) b t v y := Bx.of_row (h.row.set 0 v)
theorem Bx.set1 {w : World} {b : Nat} {t : TypeId} {x y : Value} (h : Bx w b t x y) (v : Value) : Bx (w.setCell ⟨b, 1, none⟩ v) b t x v := Bx.of_row (h.row.set 1 v)
theorem Bx.set {w : World} {b : Nat} {t : TypeId} {x y : Value} (h : Bx w b t x y) (u v : Value) : Bx ((w.setCell ⟨b, 0, none⟩ u).setCell ⟨b, 1, none⟩ v) b t u v := (h.set0 u).set1 v
theorem Bx.all {w : World} {b : Nat} {t : TypeId} {x y : Value} (h : Bx w b t x y) : w.cell? ⟨b, 0, none⟩ = some x ∧ w.cell? ⟨b, 1, none⟩ = some y ∧ (∀ i, w.frozen? ⟨b, i, none⟩ = false) ∧ b < w.heap.size := ⟨h.c0, h.c1, h.fz, h.lt⟩
end Go.Proofs.YthcccdjfedbnfaaGreatDoor.Limb
namespace Go.Proofs.YthcccdjfedbnfaaGreatDoor.Mono
open Go.RowKit Go.Sort
def cmpM (o : Int) (a b : Nat → Int) : Int :=
 if o = 1 then (if cmpZ (degM a) (degM b) = 0 then lexM a b else cmpZ (degM a) (degM b))
 else if o = 2 then (if cmpZ (degM a) (degM b) = 0 then (if lexM (revM b) (revM a) = 0 then lexM a b else lexM (revM b) (revM a)) else cmpZ (degM a) (degM b))
 else lexM a b
theorem ords_below {B C : Nat} {X Y : World} (h : Ords B X) (hb : Below C X Y) (hC : B + 1 + 1 < C) : Ords B Y :=
 ⟨(hb.block _ (by omega)).trans h.1, ⟨(hb.cell (p := ⟨B + 1, 0, none⟩) (by show B + 1 < C; omega)).trans h.2.1.1, (hb.cell (p := ⟨B + 1, 1, none⟩) (by show B + 1 < C; omega)).trans h.2.1.2⟩,
  (hb.cell (p := ⟨B + 1 + 1, 0, none⟩) (by show B + 1 + 1 < C; omega)).trans h.2.2.1, (hb.cell (p := ⟨B + 1 + 1, 1, none⟩) (by show B + 1 + 1 < C; omega)).trans h.2.2.2⟩
theorem bne_of {x : Int} (h : ¬ x = 0) : (x != 0) = true := by simpa using h
theorem bne_not {x : Int} (h : x = 0) : (x != 0) = false := by simpa using h
set_option maxHeartbeats 2000000 in
theorem cmp_one (a b : Nat → Int) (w : World) (ha : Small a) (hb : Small b) :
  Calls Tryz.prog 65 #[.int .u8 1, mvf a, mvf b] w fun e w' => e = .returned (.int .i64 (cmpM 1 a b)) ∧ Below w.heap.size w w' := by
 have HA := Lib.hid ha; clear ha
 have HB := Lib.hid hb; clear hb
 have HX := Lib.hid (boxes w 48 a b)
 go_enter Tryz.func65, Tryz.ntmps65
 go_wp2_with fail
 refine (orders_any _).mono ?_
 rintro e w1 ⟨rfl, ho, hb1⟩
 have A1 := rowBelow HX.out.1 hb1 (by simp; omega)
 have B1 := rowBelow HX.out.2 hb1 (by simp)
 have G1 := Lib.hid ((Below.refl _ _).alloc (Nat.le_refl _) _ |>.alloc (by go_size) _ |>.trans (hb1.mono (by go_size)) : Below w.heap.size w w1)
 simp only [World.size_alloc] at ho
 have O1 := Lib.hid ho
 have lk := look2 ho.1 1
 obtain ⟨a10, a11, a12, a13⟩ := rowc A1
 obtain ⟨b10, b11, b12, b13⟩ := rowc B1
 have RA1 := Lib.hid A1
 have RB1 := Lib.hid B1
 have LT1 := Lib.hid (show w.heap.size + 1 + 1 + 1 + 1 < w1.heap.size from block_lt_of_cell ho.2.2.1)
 clear ho hb1 A1 B1
 have c0 := O1.out.2.1.1
 have c1 := O1.out.2.1.2
 have E := Lib.hid (show cmpM 1 a b = if cmpZ (degM a) (degM b) = 0 then lexM a b else cmpZ (degM a) (degM b) from rfl)
 go_wp2_with fail
 refine wp_loop_rounds 3 ?_
 rw [rounds_succ]
 go_wp2_with fail
 refine (graded_any a b _ HA.out HB.out).mono ?_
 rintro e w2 ⟨rfl, hb2⟩
 have RA2 := Lib.hid (rowBelow RA1.out hb2 (by have := LT1.out; omega))
 have RB2 := Lib.hid (rowBelow RB1.out hb2 (by have := LT1.out; omega))
 have G2 := Lib.hid (G1.out.trans (hb2.mono G1.out.size))
 have O2 := Lib.hid (ords_below O1.out hb2 (by have := LT1.out; omega))
 have LT2 := Lib.hid (Nat.lt_of_lt_of_le LT1.out hb2.size)
 obtain ⟨a20, a21, a22, a23⟩ := rowc RA2.out
 obtain ⟨b20, b21, b22, b23⟩ := rowc RB2.out
 clear hb2
 clear c0 c1
 have c0 := O2.out.2.1.1
 have c1 := O2.out.2.1.2
 by_cases z : cmpZ (degM a) (degM b) = 0
 ·have Z := Lib.hid z
  have zb := bne_not z
  clear z
  go_wp2_with fail
  rw [rounds_succ]
  go_wp2_with fail
  refine (lexical_any a b _).mono ?_
  rintro e w3 ⟨rfl, hb3⟩
  have RA3 := Lib.hid (rowBelow RA2.out hb3 (by have := LT2.out; omega))
  have RB3 := Lib.hid (rowBelow RB2.out hb3 (by have := LT2.out; omega))
  have G3 := Lib.hid (G2.out.trans (hb3.mono G2.out.size))
  have O3 := Lib.hid (ords_below O2.out hb3 (by have := LT2.out; omega))
  have LT3 := Lib.hid (Nat.lt_of_lt_of_le LT2.out hb3.size)
  obtain ⟨a30, a31, a32, a33⟩ := rowc RA3.out
  obtain ⟨b30, b31, b32, b33⟩ := rowc RB3.out
  clear hb3
  clear c0 c1
  by_cases y : lexM a b = 0
  ·have yb := bne_not y
   have Y := Lib.hid y
   clear y
   go_wp2_with fail
   rw [rounds_succ]
   go_wp2_with fail
   refine (lexical_any a b _).mono ?_
   rintro e w4 ⟨rfl, hb4⟩
   have RA4 := Lib.hid (rowBelow RA3.out hb4 (by have := LT3.out; omega))
   have RB4 := Lib.hid (rowBelow RB3.out hb4 (by have := LT3.out; omega))
   have G4 := Lib.hid (G3.out.trans (hb4.mono G3.out.size))
   have O4 := Lib.hid (ords_below O3.out hb4 (by have := LT3.out; omega))
   have LT4 := Lib.hid (Nat.lt_of_lt_of_le LT3.out hb4.size)
   obtain ⟨a40, a41, a42, a43⟩ := rowc RA4.out
   obtain ⟨b40, b41, b42, b43⟩ := rowc RB4.out
   clear hb4
   go_wp2
   go_ret
   exact ⟨by rw [E.out, if_pos Z.out]; rfl, G4.out⟩
  ·have yb := bne_of y
   clear y
   go_wp2
   go_ret
   exact ⟨by rw [E.out, if_pos Z.out]; rfl, G3.out⟩
 ·have zb := bne_of z
  have Z := Lib.hid z
  clear z
  go_wp2
  go_ret
  exact ⟨by rw [E.out, if_neg Z.out]; rfl, G2.out⟩
set_option maxHeartbeats 2000000 in
theorem cmp_two (a b : Nat → Int) (w : World) (ha : Small a) (hb : Small b) :
  Calls Tryz.prog 65 #[.int .u8 2, mvf a, mvf b] w fun e w' => e = .returned (.int .i64 (cmpM 2 a b)) ∧ Below w.heap.size w w' := by
 have HA := Lib.hid ha; clear ha
 have HB := Lib.hid hb; clear hb
 have HX := Lib.hid (boxes w 48 a b)
 go_enter Tryz.func65, Tryz.ntmps65
 go_wp2_with fail
 refine (orders_any _).mono ?_
 rintro e w1 ⟨rfl, ho, hb1⟩
 have A1 := rowBelow HX.out.1 hb1 (by simp; omega)
 have B1 := rowBelow HX.out.2 hb1 (by simp)
 have G1 := Lib.hid ((Below.refl _ _).alloc (Nat.le_refl _) _ |>.alloc (by go_size) _ |>.trans (hb1.mono (by go_size)) : Below w.heap.size w w1)
 simp only [World.size_alloc] at ho
 have O1 := Lib.hid ho
 have lk := look2 ho.1 2
 obtain ⟨a10, a11, a12, a13⟩ := rowc A1
 obtain ⟨b10, b11, b12, b13⟩ := rowc B1
 have RA1 := Lib.hid A1
 have RB1 := Lib.hid B1
 have LT1 := Lib.hid (show w.heap.size + 1 + 1 + 1 + 1 < w1.heap.size from block_lt_of_cell ho.2.2.1)
 clear ho hb1 A1 B1
 have c0 := O1.out.2.2.1
 have c1 := O1.out.2.2.2
 have E := Lib.hid (show cmpM 2 a b = if cmpZ (degM a) (degM b) = 0 then (if lexM (revM b) (revM a) = 0 then lexM a b else lexM (revM b) (revM a)) else cmpZ (degM a) (degM b) from rfl)
 go_wp2_with fail
 refine wp_loop_rounds 3 ?_
 rw [rounds_succ]
 go_wp2_with fail
 refine (graded_any a b _ HA.out HB.out).mono ?_
 rintro e w2 ⟨rfl, hb2⟩
 have RA2 := Lib.hid (rowBelow RA1.out hb2 (by have := LT1.out; omega))
 have RB2 := Lib.hid (rowBelow RB1.out hb2 (by have := LT1.out; omega))
 have G2 := Lib.hid (G1.out.trans (hb2.mono G1.out.size))
 have O2 := Lib.hid (ords_below O1.out hb2 (by have := LT1.out; omega))
 have LT2 := Lib.hid (Nat.lt_of_lt_of_le LT1.out hb2.size)
 obtain ⟨a20, a21, a22, a23⟩ := rowc RA2.out
 obtain ⟨b20, b21, b22, b23⟩ := rowc RB2.out
 clear hb2
 clear c0 c1
 have c0 := O2.out.2.2.1
 have c1 := O2.out.2.2.2
 by_cases z : cmpZ (degM a) (degM b) = 0
 ·have Z := Lib.hid z
  have zb := bne_not z
  clear z
  go_wp2_with fail
  rw [rounds_succ]
  go_wp2_with fail
  refine (backward_any a b _).mono ?_
  rintro e w3 ⟨rfl, hb3⟩
  have RA3 := Lib.hid (rowBelow RA2.out hb3 (by have := LT2.out; omega))
  have RB3 := Lib.hid (rowBelow RB2.out hb3 (by have := LT2.out; omega))
  have G3 := Lib.hid (G2.out.trans (hb3.mono G2.out.size))
  have O3 := Lib.hid (ords_below O2.out hb3 (by have := LT2.out; omega))
  have LT3 := Lib.hid (Nat.lt_of_lt_of_le LT2.out hb3.size)
  obtain ⟨a30, a31, a32, a33⟩ := rowc RA3.out
  obtain ⟨b30, b31, b32, b33⟩ := rowc RB3.out
  clear hb3
  clear c0 c1
  by_cases y : lexM (revM b) (revM a) = 0
  ·have yb := bne_not y
   have Y := Lib.hid y
   clear y
   go_wp2_with fail
   rw [rounds_succ]
   go_wp2_with fail
   refine (lexical_any a b _).mono ?_
   rintro e w4 ⟨rfl, hb4⟩
   have RA4 := Lib.hid (rowBelow RA3.out hb4 (by have := LT3.out; omega))
   have RB4 := Lib.hid (rowBelow RB3.out hb4 (by have := LT3.out; omega))
   have G4 := Lib.hid (G3.out.trans (hb4.mono G3.out.size))
   have O4 := Lib.hid (ords_below O3.out hb4 (by have := LT3.out; omega))
   have LT4 := Lib.hid (Nat.lt_of_lt_of_le LT3.out hb4.size)
   obtain ⟨a40, a41, a42, a43⟩ := rowc RA4.out
   obtain ⟨b40, b41, b42, b43⟩ := rowc RB4.out
   clear hb4
   go_wp2
   go_ret
   exact ⟨by rw [E.out, if_pos Z.out, if_pos Y.out]; rfl, G4.out⟩
  ·have yb := bne_of y
   have Y := Lib.hid y
   clear y
   go_wp2
   go_ret
   exact ⟨by rw [E.out, if_pos Z.out, if_neg Y.out]; rfl, G3.out⟩
 ·have zb := bne_of z
  have Z := Lib.hid z
  clear z
  go_wp2
  go_ret
  exact ⟨by rw [E.out, if_neg Z.out]; rfl, G2.out⟩
set_option maxHeartbeats 2000000 in
theorem cmp_else (a b : Nat → Int) (o : Int) (h1 : (o == 1) = false) (h2 : (o == 2) = false) (w : World) (ha : Small a) (hb : Small b) :
  Calls Tryz.prog 65 #[.int .u8 o, mvf a, mvf b] w fun e w' => e = .returned (.int .i64 (cmpM o a b)) ∧ Below w.heap.size w w' := by
 have HA := Lib.hid ha; clear ha
 have HB := Lib.hid hb; clear hb
 have HX := Lib.hid (boxes w 48 a b)
 go_enter Tryz.func65, Tryz.ntmps65
 go_wp2_with fail
 refine (orders_any _).mono ?_
 rintro e w1 ⟨rfl, ho, hb1⟩
 have A1 := rowBelow HX.out.1 hb1 (by simp; omega)
 have B1 := rowBelow HX.out.2 hb1 (by simp)
 have G1 := Lib.hid ((Below.refl _ _).alloc (Nat.le_refl _) _ |>.alloc (by go_size) _ |>.trans (hb1.mono (by go_size)) : Below w.heap.size w w1)
 simp only [World.size_alloc] at ho
 have O1 := Lib.hid ho
 have lk := look2 ho.1 o
 obtain ⟨a10, a11, a12, a13⟩ := rowc A1
 obtain ⟨b10, b11, b12, b13⟩ := rowc B1
 have RA1 := Lib.hid A1
 have RB1 := Lib.hid B1
 have LT1 := Lib.hid (show w.heap.size + 1 + 1 + 1 + 1 < w1.heap.size from block_lt_of_cell ho.2.2.1)
 clear ho hb1 A1 B1
 have E := Lib.hid (show cmpM o a b = lexM a b by unfold cmpM; rw [if_neg (by simpa using h1), if_neg (by simpa using h2)])
 simp only [h1, h2, Bool.false_eq_true, if_false] at lk
 clear h1 h2
 go_wp2_with fail
 refine wp_loop_rounds 1 ?_
 rw [rounds_succ]
 go_wp2_with fail
 refine (lexical_any a b _).mono ?_
 rintro e w2 ⟨rfl, hb2⟩
 have RA2 := Lib.hid (rowBelow RA1.out hb2 (by have := LT1.out; omega))
 have RB2 := Lib.hid (rowBelow RB1.out hb2 (by have := LT1.out; omega))
 have G2 := Lib.hid (G1.out.trans (hb2.mono G1.out.size))
 have O2 := Lib.hid (ords_below O1.out hb2 (by have := LT1.out; omega))
 have LT2 := Lib.hid (Nat.lt_of_lt_of_le LT1.out hb2.size)
 obtain ⟨a20, a21, a22, a23⟩ := rowc RA2.out
 obtain ⟨b20, b21, b22, b23⟩ := rowc RB2.out
 clear hb2
 go_wp2
 go_ret
 exact ⟨by rw [E.out]; rfl, G2.out⟩
theorem cmp_any (o : Int) (a b : Nat → Int) (w : World) (ha : Small a) (hb : Small b) :
  Calls Tryz.prog 65 #[.int .u8 o, mvf a, mvf b] w fun e w' => e = .returned (.int .i64 (cmpM o a b)) ∧ Below w.heap.size w w' := by
 by_cases h1 : o = 1
 ·subst h1; exact cmp_one a b w ha hb
 ·by_cases h2 : o = 2
  ·subst h2; exact cmp_two a b w ha hb
  ·exact cmp_else a b o (by simpa using h1) (by simpa using h2) w ha hb
end Go.Proofs.YthcccdjfedbnfaaGreatDoor.Mono
namespace Go.Proofs.YthcccdjfedbnfaaGreatDoor.Pol
structure Mo where
 x : Nat
 y : Nat
 z : Nat
 t : Nat
theorem Mo.eq_iff (a b : Mo) : a = b ↔ a.x = b.x ∧ a.y = b.y ∧ a.z = b.z ∧ a.t = b.t := by
 constructor
 ·rintro rfl; exact ⟨rfl, rfl, rfl, rfl⟩
 ·rintro ⟨h1, h2, h3, h4⟩; cases a; cases b; simp_all
instance : DecidableEq Mo := fun a b => decidable_of_iff _ (Mo.eq_iff a b).symm
def Mo.one : Mo := ⟨0, 0, 0, 0⟩
def Mo.mul (a b : Mo) : Mo := ⟨a.x + b.x, a.y + b.y, a.z + b.z, a.t + b.t⟩
theorem Mo.mul_comm (a b : Mo) : a.mul b = b.mul a := by simp only [Mo.mul, Mo.mk.injEq]; omega
theorem Mo.mul_left_cancel {a b c : Mo} (h : a.mul b = a.mul c) : b = c := by
 simp only [Mo.mul, Mo.mk.injEq] at h
 rw [Mo.eq_iff]; omega
def Mo.lt (a b : Mo) : Prop := a.x < b.x ∨ (a.x = b.x ∧ (a.y < b.y ∨ (a.y = b.y ∧ (a.z < b.z ∨ (a.z = b.z ∧ a.t < b.t)))))
instance (a b : Mo) : Decidable (a.lt b) := by unfold Mo.lt; infer_instance
theorem Mo.lt_irrefl (a : Mo) : ¬ a.lt a := by unfold Mo.lt; omega
theorem Mo.lt_trans {a b c : Mo} (h : a.lt b) (k : b.lt c) : a.lt c := by unfold Mo.lt at *; omega
theorem Mo.lt_asymm {a b : Mo} (h : a.lt b) : ¬ b.lt a := by unfold Mo.lt at *; omega
theorem Mo.lt_or (a b : Mo) : a.lt b ∨ a = b ∨ b.lt a := by rw [Mo.eq_iff]; unfold Mo.lt; omega
abbrev Tm := Mo × Rat
def ev : List Tm → (Mo → Rat) → Rat
 | [], _ => 0
 | t :: r, f => t.2 * f t.1 + ev r f
theorem ev_nil (f : Mo → Rat) : ev [] f = 0 := rfl
theorem ev_cons (t : Tm) (r : List Tm) (f : Mo → Rat) : ev (t :: r) f = t.2 * f t.1 + ev r f := rfl
theorem ev_append (l r : List Tm) (f : Mo → Rat) : ev (l ++ r) f = ev l f + ev r f := by
 induction l with
 | nil => rw [List.nil_append, ev_nil, Rat.zero_add]
 | cons t l ih => rw [List.cons_append, ev_cons, ev_cons, ih, Rat.add_assoc]
theorem ev_congr {l : List Tm} {f g : Mo → Rat} (h : ∀ t ∈ l, f t.1 = g t.1) : ev l f = ev l g := by
 induction l with
 | nil => rfl
 | cons t l ih => rw [ev_cons, ev_cons, h t (List.mem_cons_self ..), ih fun s hs => h s (List.mem_cons_of_mem _ hs)]
theorem ev_perm {l r : List Tm} (h : l.Perm r) (f : Mo → Rat) : ev l f = ev r f := by
 induction h with
 | nil => rfl
 | cons t _ ih => rw [ev_cons, ev_cons, ih]
 | swap s t l => rw [ev_cons, ev_cons, ev_cons, ev_cons]; grind
 | trans _ _ h1 h2 => rw [h1, h2]
theorem ev_zero (l : List Tm) : ev l (fun _ => 0) = 0 := by
 induction l with
 | nil => rfl
 | cons t l ih => rw [ev_cons, ih]; grind
theorem ev_add (l : List Tm) (f g : Mo → Rat) : ev l (fun m => f m + g m) = ev l f + ev l g := by
 induction l with
 | nil => rw [ev_nil, ev_nil, ev_nil, Rat.add_zero]
 | cons t l ih => rw [ev_cons, ev_cons, ev_cons, ih]; grind
theorem ev_smul (l : List Tm) (c : Rat) (f : Mo → Rat) : ev l (fun m => c * f m) = c * ev l f := by
 induction l with
 | nil => rw [ev_nil, ev_nil, Rat.mul_zero]
 | cons t l ih => rw [ev_cons, ev_cons, ih]; grind
theorem ev_swap (l r : List Tm) (f : Mo → Mo → Rat) : ev l (fun a => ev r (fun b => f a b)) = ev r (fun b => ev l (fun a => f a b)) := by
 induction l with
 | nil => simp only [ev_nil, ev_zero]
 | cons t l ih => simp only [ev_cons, ih, ev_add, ev_smul]
def at_ (m : Mo) : Mo → Rat := fun a => if a = m then 1 else 0
def cf (l : List Tm) (m : Mo) : Rat := ev l (at_ m)
theorem cf_cons (t : Tm) (r : List Tm) (m : Mo) : cf (t :: r) m = (if t.1 = m then t.2 else 0) + cf r m := by
 unfold cf; rw [ev_cons]; unfold at_; split <;> grind
theorem cf_append (l r : List Tm) (m : Mo) : cf (l ++ r) m = cf l m + cf r m := ev_append l r _
theorem cf_none {l : List Tm} {m : Mo} (h : ∀ t ∈ l, t.1 ≠ m) : cf l m = 0 := by
 unfold cf
 rw [ev_congr (g := fun _ => 0) fun t ht => by unfold at_; rw [if_neg (h t ht)], ev_zero]
structure Canon (l : List Tm) : Prop where
 falls : l.Pairwise (fun s t => t.1.lt s.1)
 non : ∀ t ∈ l, t.2 ≠ 0
theorem Canon.nil : Canon [] := ⟨List.Pairwise.nil, fun _ h => (by cases h)⟩
theorem Canon.tail {t : Tm} {r : List Tm} (h : Canon (t :: r)) : Canon r := ⟨(List.pairwise_cons.1 h.falls).2, fun s hs => h.non s (List.mem_cons_of_mem _ hs)⟩
theorem Canon.head {t : Tm} {r : List Tm} (h : Canon (t :: r)) : ∀ s ∈ r, s.1.lt t.1 := (List.pairwise_cons.1 h.falls).1
theorem Canon.cf_head {t : Tm} {r : List Tm} (h : Canon (t :: r)) : cf (t :: r) t.1 = t.2 := by
 rw [cf_cons, if_pos rfl, cf_none fun s hs e => by have := h.head s hs; rw [e] at this; exact Mo.lt_irrefl _ this, Rat.add_zero]
theorem Canon.cf_gt {t : Tm} {r : List Tm} (h : Canon (t :: r)) {m : Mo} (hm : t.1.lt m) : cf (t :: r) m = 0 :=
 cf_none fun s hs e => by
  rcases List.mem_cons.1 hs with rfl | hs
  ·rw [e] at hm; exact Mo.lt_irrefl _ hm
  ·have := h.head s hs; rw [e] at this; exact Mo.lt_asymm this hm
theorem Canon.uniq : ∀ {l r : List Tm}, Canon l → Canon r → (∀ m, cf l m = cf r m) → l = r
 | [], [], _, _, _ => rfl
 | [], t :: r, _, h, e => by
  have := e t.1
  rw [h.cf_head] at this
  exact absurd this.symm (h.non t (List.mem_cons_self ..))
 | t :: l, [], h, _, e => by
  have := e t.1
  rw [h.cf_head] at this
  exact absurd this (h.non t (List.mem_cons_self ..))
 | s :: l, t :: r, h, k, e => by
  rcases Mo.lt_or s.1 t.1 with hlt | heq | hgt
  ·have := e t.1
   rw [k.cf_head, h.cf_gt hlt] at this
   exact absurd this.symm (k.non t (List.mem_cons_self ..))
  ·have h1 := e s.1
   rw [h.cf_head, heq, k.cf_head] at h1
   have hst : s = t := Prod.ext heq h1
   subst hst
   have := Canon.uniq h.tail k.tail fun m => by
    have := e m
    rw [cf_cons, cf_cons] at this
    grind
   rw [this]
  ·have := e s.1
   rw [h.cf_head, k.cf_gt hgt] at this
   exact absurd this (h.non s (List.mem_cons_self ..))
theorem Canon.cf_mem {l : List Tm} (h : Canon l) {t : Tm} (ht : t ∈ l) : cf l t.1 = t.2 := by
 induction l with
 | nil => cases ht
 | cons s l ih =>
  rcases List.mem_cons.1 ht with rfl | ht'
  ·exact h.cf_head
  ·rw [cf_cons, if_neg (fun e => by have := h.head t ht'; rw [e] at this; exact Mo.lt_irrefl _ this), ih h.tail ht', Rat.zero_add]
theorem Canon.mem_cf {l : List Tm} {m : Mo} (e : cf l m ≠ 0) : ∃ c, (m, c) ∈ l := by
 refine Classical.byContradiction fun hn => e (cf_none fun t ht he => hn ⟨t.2, ?_⟩)
 rw [← he]; exact ht
end Go.Proofs.YthcccdjfedbnfaaGreatDoor.Pol
namespace Go.Proofs.YthcccdjfedbnfaaGreatDoor.Pol
def ins (t : Tm) : List Tm → List Tm
 | [] => if t.2 = 0 then [] else [t]
 | s :: r => if t.1 = s.1 then (if t.2 + s.2 = 0 then r else (s.1, t.2 + s.2) :: r) else if s.1.lt t.1 then (if t.2 = 0 then s :: r else t :: s :: r) else s :: ins t r
theorem ins_mem {t u : Tm} : ∀ {l : List Tm}, u ∈ ins t l → u.1 = t.1 ∨ u ∈ l
 | [], h => by
  unfold ins at h
  split at h
  ·cases h
  ·exact .inl (by rw [List.mem_singleton.1 h])
 | s :: r, h => by
  unfold ins at h
  split at h
  ·rename_i e
   split at h
   ·exact .inr (List.mem_cons_of_mem _ h)
   ·rcases List.mem_cons.1 h with h | h
    ·exact .inl (by rw [h, e])
    ·exact .inr (List.mem_cons_of_mem _ h)
  ·split at h
   ·split at h
    ·exact .inr h
    ·rcases List.mem_cons.1 h with h | h
     ·exact .inl (by rw [h])
     ·exact .inr h
   ·rcases List.mem_cons.1 h with h | h
    ·exact .inr (by rw [h]; exact List.mem_cons_self ..)
    ·exact (ins_mem h).imp id (List.mem_cons_of_mem _)
theorem ins_canon (t : Tm) : ∀ {l : List Tm}, Canon l → Canon (ins t l)
 | [], _ => by
  unfold ins
  split
  ·exact Canon.nil
  ·rename_i h; exact ⟨List.pairwise_singleton _ _, fun s hs => by rw [List.mem_singleton.1 hs]; exact h⟩
 | s :: r, h => by
  unfold ins
  split
  ·split
   ·exact h.tail
   ·rename_i h0
    exact ⟨List.pairwise_cons.2 ⟨h.head, h.tail.falls⟩, fun u hu => (List.mem_cons.1 hu).elim (fun e => by rw [e]; exact h0) (fun hu => h.tail.non u hu)⟩
  ·rename_i hne
   split
   ·rename_i hlt
    split
    ·exact h
    ·rename_i h0
     refine ⟨List.pairwise_cons.2 ⟨fun u hu => ?_, h.falls⟩, fun u hu => (List.mem_cons.1 hu).elim (fun e => by rw [e]; exact h0) (fun hu => h.non u hu)⟩
     rcases List.mem_cons.1 hu with rfl | hu
     ·exact hlt
     ·exact Mo.lt_trans (h.head u hu) hlt
   ·rename_i hnl
    have hgt : t.1.lt s.1 := ((Mo.lt_or s.1 t.1).resolve_left fun k => hnl k).resolve_left fun e => hne e.symm
    have k := ins_canon t h.tail
    refine ⟨List.pairwise_cons.2 ⟨fun u hu => ?_, k.falls⟩, fun u hu => (List.mem_cons.1 hu).elim (fun e => by rw [e]; exact h.non s (List.mem_cons_self ..)) (fun hu => k.non u hu)⟩
    rcases ins_mem hu with e | hu
    ·rw [e]; exact hgt
    ·exact h.head u hu
theorem ins_ev (t : Tm) (f : Mo → Rat) : ∀ (l : List Tm), ev (ins t l) f = t.2 * f t.1 + ev l f
 | [] => by
  unfold ins
  split
  ·rename_i h; rw [h, ev_nil]; grind
  ·rw [ev_cons]
 | s :: r => by
  unfold ins
  split
  ·rename_i e
   split
   ·rename_i h0
    have h0 : t.2 = - s.2 := by grind
    rw [ev_cons, e, h0]; grind
   ·rw [ev_cons, ev_cons, e]; grind
  ·split
   ·split
    ·rename_i h0; rw [h0]; grind
    ·rw [ev_cons]
   ·rw [ev_cons, ev_cons, ins_ev t f r]; grind
def nf (l : List Tm) : List Tm := l.foldr ins []
theorem nf_canon : ∀ (l : List Tm), Canon (nf l)
 | [] => Canon.nil
 | t :: l => ins_canon t (nf_canon l)
theorem nf_ev (f : Mo → Rat) : ∀ (l : List Tm), ev (nf l) f = ev l f
 | [] => rfl
 | t :: l => by show ev (ins t (nf l)) f = _; rw [ins_ev, nf_ev f l, ev_cons]
theorem nf_cf (l : List Tm) (m : Mo) : cf (nf l) m = cf l m := nf_ev _ l
theorem nf_eq {l r : List Tm} (hl : Canon l) (h : ∀ m, cf l m = cf r m) : nf r = l := (Canon.uniq hl (nf_canon r) fun m => by rw [h m, nf_cf]).symm
theorem nf_self {l : List Tm} (h : Canon l) : nf l = l := nf_eq h fun _ => rfl
theorem nf_same {l r : List Tm} (h : ∀ f, ev l f = ev r f) : nf l = nf r := nf_eq (nf_canon r) fun m => by rw [nf_cf]; exact (h _).symm
def scaleL (c : Rat) (l : List Tm) : List Tm := l.map fun t => (t.1, t.2 * c)
def mulL (p q : List Tm) : List Tm := p.flatMap fun s => q.map fun t => (s.1.mul t.1, s.2 * t.2)
theorem ev_scaleL (c : Rat) (l : List Tm) (f : Mo → Rat) : ev (scaleL c l) f = c * ev l f := by
 induction l with
 | nil => show (0 : Rat) = c * 0; grind
 | cons t l ih => show t.2 * c * f t.1 + ev (scaleL c l) f = _; rw [ih, ev_cons]; grind
theorem ev_row (s : Tm) (q : List Tm) (f : Mo → Rat) : ev (q.map fun t => (s.1.mul t.1, s.2 * t.2)) f = s.2 * ev q (fun b => f (s.1.mul b)) := by
 induction q with
 | nil => show (0 : Rat) = s.2 * 0; grind
 | cons t q ih => rw [List.map_cons, ev_cons, ih, ev_cons]; grind
theorem ev_mulL (p q : List Tm) (f : Mo → Rat) : ev (mulL p q) f = ev p (fun a => ev q (fun b => f (a.mul b))) := by
 induction p with
 | nil => rfl
 | cons s p ih => show ev ((q.map _) ++ mulL p q) f = _; rw [ev_append, ih, ev_row, ev_cons]
def addP (p q : List Tm) : List Tm := nf (p ++ q)
def scaleP (c : Rat) (p : List Tm) : List Tm := nf (scaleL c p)
def mulP (p q : List Tm) : List Tm := nf (mulL p q)
def subP (p q : List Tm) : List Tm := addP p (scaleP (-1) q)
theorem ev_scaleP (c : Rat) (p : List Tm) (f : Mo → Rat) : ev (scaleP c p) f = c * ev p f := by unfold scaleP; rw [nf_ev, ev_scaleL]
theorem ev_mulP (p q : List Tm) (f : Mo → Rat) : ev (mulP p q) f = ev p (fun a => ev q (fun b => f (a.mul b))) := by unfold mulP; rw [nf_ev, ev_mulL]
theorem addP_canon (p q : List Tm) : Canon (addP p q) := nf_canon _
theorem scaleP_canon (c : Rat) (q : List Tm) : Canon (scaleP c q) := nf_canon _
theorem mulP_canon (p q : List Tm) : Canon (mulP p q) := nf_canon _
theorem canon_same {p q : List Tm} (hp : Canon p) (hq : Canon q) (h : ∀ f, ev p f = ev q f) : p = q := Canon.uniq hp hq fun _ => h _
theorem mulP_comm (p q : List Tm) : mulP p q = mulP q p := canon_same (mulP_canon _ _) (mulP_canon _ _) fun f => by
 simp only [ev_mulP]; rw [ev_swap]; simp only [Mo.mul_comm]
end Go.Proofs.YthcccdjfedbnfaaGreatDoor.Pol
namespace Go.Proofs.YthcccdjfedbnfaaGreatDoor.Limb
open Go
def padD : Nat → Nat → List UInt8
 | 0, _ => []
 | k + 1, r => padD k (r / 10) ++ [UInt8.ofNat (48 + r % 10)]
theorem padD_length (k r : Nat) : (padD k r).length = k := by
 induction k generalizing r with
 | zero => rfl
 | succ k ih => simp [padD, ih]
theorem padD_zero (k : Nat) : padD k 0 = List.replicate k 48 := by
 induction k with
 | zero => rfl
 | succ k ih => rw [padD, Nat.zero_div, ih, List.replicate_succ']; rfl
theorem decD_big {u : Nat} (h : ¬ u < 10) : Lib.decDigits u = Lib.decDigits (u / 10) ++ [UInt8.ofNat (48 + u % 10)] := by rw [Lib.decDigits, dif_neg h]
theorem decD_pad (k q r : Nat) (hq : 0 < q) (hr : r < 10 ^ k) : Lib.decDigits (q * 10 ^ k + r) = Lib.decDigits q ++ padD k r := by
 induction k generalizing r with
 | zero =>
  have : r = 0 := by simpa using hr
  subst this
  simp [padD]
 | succ k ih =>
  have hp : 0 < 10 ^ k := Nat.pow_pos (by omega)
  have h1 : 1 * 10 ^ k ≤ q * 10 ^ k := Nat.mul_le_mul_right _ hq
  have e1 : q * 10 ^ (k + 1) = 10 * (q * 10 ^ k) := by rw [Nat.pow_succ, ← Nat.mul_assoc, Nat.mul_comm]
  have hr' : r < 10 * 10 ^ k := by rw [Nat.pow_succ, Nat.mul_comm] at hr; exact hr
  rw [e1, decD_big (by omega), show (10 * (q * 10 ^ k) + r) / 10 = q * 10 ^ k + r / 10 by omega, show (10 * (q * 10 ^ k) + r) % 10 = r % 10 by omega, ih (r / 10) (by omega), List.append_assoc]
  rfl
theorem pad_dec (k r : Nat) (hr : r < 10 ^ (k + 1)) : padD (k + 1) r = List.replicate (k + 1 - Lib.nDigits r) 48 ++ Lib.decDigits r := by
 induction k generalizing r with
 | zero =>
  have h : r < 10 := by simpa using hr
  rw [Lib.nDigits_small h, Lib.decDigits_one h]
  show [] ++ [UInt8.ofNat (48 + r % 10)] = _
  rw [Nat.mod_eq_of_lt h]; rfl
 | succ k ih =>
  by_cases h : r < 10
  ·rw [Lib.nDigits_small h, Lib.decDigits_one h, padD, show r / 10 = 0 by omega, padD_zero, show r % 10 = r by omega]; rfl
  ·have hr' : r / 10 < 10 ^ (k + 1) := by rw [Nat.pow_succ] at hr; omega
   rw [padD, ih _ hr', Lib.nDigits_big h, decD_big h, List.append_assoc, show k + 1 + 1 - (Lib.nDigits (r / 10) + 1) = k + 1 - Lib.nDigits (r / 10) by omega]
theorem pw_ten (i : Nat) : pw i = 10 ^ (9 * i) := by
 induction i with
 | zero => rw [pw_zero]
 | succ i ih => rw [pw_succ, ih, show 9 * (i + 1) = 9 * i + 9 by omega, Nat.pow_add]
def isDig (c : UInt8) : Bool := decide (48 ≤ c.toNat) && decide (c.toNat ≤ 57)
def decV (l : List UInt8) : Nat := l.foldl (fun a c => 10 * a + (c.toNat - 48)) 0
theorem decV_foldl (l : List UInt8) (a : Nat) : l.foldl (fun a c => 10 * a + (c.toNat - 48)) a = a * 10 ^ l.length + decV l := by
 induction l generalizing a with
 | nil => simp [decV]
 | cons c r ih =>
  have e : decV (c :: r) = (10 * 0 + (c.toNat - 48)) * 10 ^ r.length + decV r := ih _
  rw [List.foldl_cons, ih, e, List.length_cons, Nat.pow_succ]
  have : (10 * a + (c.toNat - 48)) * 10 ^ r.length = a * (10 ^ r.length * 10) + (c.toNat - 48) * 10 ^ r.length := by rw [Nat.add_mul]; congr 1; rw [Nat.mul_comm 10 a, Nat.mul_assoc, Nat.mul_comm 10]
  rw [this]
  simp only [Nat.mul_zero, Nat.zero_add]
  omega
theorem decV_append (l r : List UInt8) : decV (l ++ r) = decV l * 10 ^ r.length + decV r := by
 rw [decV, List.foldl_append, decV_foldl]; rfl
theorem decV_lt (l : List UInt8) (h : ∀ c ∈ l, isDig c = true) : decV l < 10 ^ l.length := by
 induction l with
 | nil => simp [decV]
 | cons c r ih =>
  have h1 := ih fun x hx => h x (List.mem_cons_of_mem _ hx)
  have h2 := h c (List.mem_cons_self ..)
  unfold isDig at h2
  simp only [Bool.and_eq_true, decide_eq_true_eq] at h2
  rw [decV, List.foldl_cons, decV_foldl, List.length_cons, Nat.pow_succ]
  have : (10 * 0 + (c.toNat - 48)) * 10 ^ r.length ≤ 9 * 10 ^ r.length := Nat.mul_le_mul_right _ (by omega)
  omega
end Go.Proofs.YthcccdjfedbnfaaGreatDoor.Limb
namespace Go.Proofs.YthcccdjfedbnfaaGreatDoor.Limb
open Go.RowKit Go.Sort
theorem of_facts (s : Bool) (n : Nat) (o : Nat → Int) (h : okN s n o) (h0 : ∀ i, i < n → 0 ≤ o i ∧ o i ≤ 4294967295) :
  decide (valN s n o < 0) = s ∧ lenB (valN s n o).natAbs = n ∧ ∀ i, i < n → o i = dgi (valN s n o).natAbs i :=
 have h1 : ∀ i, i < n → 0 ≤ o i := fun i hi => (h0 i hi).1
 ⟨valN_neg h h1, valN_len h h1, fun i hi => (valN_dg h h1 i hi).symm⟩
open Classical in
set_option maxHeartbeats 1000000 in
theorem of_any (s : Bool) (a : Option Addr) (n cap : Nat) (o : Nat → Int) (w : World) (h : Rd w a n o) (hn : n ≤ 1000000000) (hcap : n ≤ cap) :
  ∃ a' cap', Rd w a' (lenB (valN s n o).natAbs) (dgi (valN s n o).natAbs) ∧ lenB (valN s n o).natAbs ≤ n ∧ lenB (valN s n o).natAbs ≤ cap' ∧
   ∀ w1, Below w.heap.size w w1 → Calls Tryz.prog 87 #[numV s a n cap] w1 fun e w' => e = .returned (numV (decide (valN s n o < 0)) a' (lenB (valN s n o).natAbs) cap') ∧ Below w1.heap.size w1 w' := by
 by_cases hk : okN s n o
 ·obtain ⟨f1, f2, f3⟩ := of_facts s n o hk h.rng
  rw [f1, f2]
  refine ⟨a, cap, h.congr f3, Nat.le_refl _, hcap, fun w1 hb1 => ?_⟩
  have C := Lib.hid (fun (w2 : World) (hw : Below w1.heap.size w1 w2) => check_any s a n cap o w2 (h.below (hb1.trans (hw.mono hb1.size))) hn)
  rw [decide_eq_true hk] at C
  clear h f1 f2 f3 hk hb1
  go_enter Tryz.func87, Tryz.ntmps87
  go_wp2_with fail
  refine (C.out _ ?_).mono ?_
  ·(repeat' (first | (with_reducible exact Below.refl _ _) | (with_reducible assumption) | (with_reducible refine Below.alloc ?_ ?_ _) | (with_reducible refine Below.drew ?_) | (with_reducible refine bdrewN ?_ _) | (with_reducible refine Below.setCell ?_ ?_ _) | (with_reducible refine Below.frame ?_ _) | go_size))
  rintro e w2 ⟨rfl, hb2⟩
  have B1 := ((Bx.new w1 26 (.bool s) (.slice a n cap)).alloc (.cells #[.bool false, .slice none 0 0] 26)).below hb2 (by simp; omega)
  have B2 := (Bx.new2 w1 (.cells #[.bool s, .slice a n cap] 26) 26 (.bool false) (.slice none 0 0)).below hb2 (by simp)
  have hb0 : Below w1.heap.size w1 w2 := ((Below.refl _ _).alloc (Nat.le_refl _) _ |>.alloc (by go_size) _).trans (hb2.mono (by go_size))
  obtain ⟨b10, b11, b12, b13⟩ := B1.all
  obtain ⟨b20, b21, b22, b23⟩ := B2.all
  have HB := Lib.hid B2
  clear hb2 B1 B2
  go_wp2
  refine bodyPost_ret (results_cell rfl _ _ _ _ _ _ _ rfl (HB.out.set _ _) Tryz.underlying26 rfl (by kernel_rfl)) rfl ⟨rfl, ?_⟩
  (repeat' (first | (with_reducible exact Below.refl _ _) | (with_reducible assumption) | (with_reducible refine Below.alloc ?_ ?_ _) | (with_reducible refine Below.drew ?_) | (with_reducible refine bdrewN ?_ _) | (with_reducible refine Below.setCell ?_ ?_ _) | (with_reducible refine Below.frame ?_ _) | go_size))
 ·rw [show valN s n o = 0 from valN_not hk]
  rw [show (Int.natAbs 0) = 0 from rfl, lenB_zero, show decide ((0 : Int) < 0) = false from rfl]
  refine ⟨none, 0, Rd.nil _ _ _, Nat.zero_le _, Nat.le_refl _, fun w1 hb1 => ?_⟩
  have C := Lib.hid (fun (w2 : World) (hw : Below w1.heap.size w1 w2) => check_any s a n cap o w2 (h.below (hb1.trans (hw.mono hb1.size))) hn)
  rw [decide_eq_false hk] at C
  clear h hk hb1
  go_enter Tryz.func87, Tryz.ntmps87
  go_wp2_with fail
  refine (C.out _ ?_).mono ?_
  ·(repeat' (first | (with_reducible exact Below.refl _ _) | (with_reducible assumption) | (with_reducible refine Below.alloc ?_ ?_ _) | (with_reducible refine Below.drew ?_) | (with_reducible refine bdrewN ?_ _) | (with_reducible refine Below.setCell ?_ ?_ _) | (with_reducible refine Below.frame ?_ _) | go_size))
  rintro e w2 ⟨rfl, hb2⟩
  have B2 := (Bx.new2 w1 (.cells #[.bool s, .slice a n cap] 26) 26 (.bool false) (.slice none 0 0)).below hb2 (by simp)
  have hb0 : Below w1.heap.size w1 w2 := ((Below.refl _ _).alloc (Nat.le_refl _) _ |>.alloc (by go_size) _).trans (hb2.mono (by go_size))
  obtain ⟨b20, b21, b22, b23⟩ := B2.all
  have HB := Lib.hid B2
  clear hb2 B2
  go_wp2
  refine bodyPost_ret (results_cell rfl _ _ _ _ _ _ _ rfl (HB.out.set _ _) Tryz.underlying26 rfl (by kernel_rfl)) rfl ⟨rfl, ?_⟩
  (repeat' (first | (with_reducible exact Below.refl _ _) | (with_reducible assumption) | (with_reducible refine Below.alloc ?_ ?_ _) | (with_reducible refine Below.drew ?_) | (with_reducible refine bdrewN ?_ _) | (with_reducible refine Below.setCell ?_ ?_ _) | (with_reducible refine Below.frame ?_ _) | go_size))
theorem lenB_le_of {o : Nat → Int} {n : Nat} (h : Dig o n) : lenB (sumB o n).toNat ≤ n := lenB_le (by have := sumB_bd h; omega)
theorem cut_zero {o : Nat → Int} {n i : Nat} (h : Dig o n) (h1 : lenB (sumB o n).toNat ≤ i) (h2 : i < n) : o i = 0 := by
 rw [← dg_sumB h i h2, dg_out h1]; rfl
theorem cut_last {o : Nat → Int} {n : Nat} (h : Dig o n) (h1 : 0 < lenB (sumB o n).toNat) : o (lenB (sumB o n).toNat - 1) ≠ 0 := by
 have h2 := lenB_le_of h
 rw [← dg_sumB h _ (by omega)]
 have := dg_last (m := (sumB o n).toNat) (fun e => by rw [e, lenB_zero] at h1; omega)
 omega
set_option maxHeartbeats 1000000 in
theorem cut_any (s : Bool) (a : Option Addr) (n cap : Nat) (o : Nat → Int) (w : World) (h : Rd w a n o) (hd : Dig o n) (hn : n ≤ 1000000000) (hcap : n ≤ cap) (ha : a = none → cap = 0) :
  Calls Tryz.prog 89 #[.bool s, .slice a n cap] w fun e w' => e = .returned (numV (s && decide (0 < lenB (sumB o n).toNat)) a (lenB (sumB o n).toNat) (lenB (sumB o n).toNat)) ∧ Below w.heap.size w w' := by
 have HL := Lib.hid (lenB_le_of hd)
 have HZ := Lib.hid (fun i => cut_zero (i := i) hd)
 have HT := Lib.hid (cut_last hd)
 generalize lenB (sumB o n).toNat = L at HL HZ HT ⊢
 clear hd
 have hsz := h.rng
 have B0 := Lib.hid (Bx.new w 26 (.bool false) (.slice none 0 0))
 go_enter Tryz.func89, Tryz.ntmps89
 go_wp2
 go_loopw [5] (fun i wr => ∃ j : Nat, L ≤ j ∧ j ≤ n ∧ i = .int .i64 j ∧ ∃ m, wr = (w.alloc (.cells #[.bool false, .slice none 0 0] 26)).drewN m) (fun i _ => (intOf i).toNat)
 case atStart => exact ⟨n, HL.out, Nat.le_refl _, rfl, 0, rfl⟩
 case round =>
  obtain ⟨j, hj, hjn, rfl, m0, rfl⟩ := hrel
  by_cases hj0 : j = 0
  ·obtain rfl : L = 0 := by omega
   subst hj0
   have B1 := B0.out.drewN m0
   obtain ⟨b10, b11, b12, b13⟩ := B1.all
   have HB := Lib.hid B1
   clear B1
   cases s with
   | false =>
    go_wp2
    all_goals
     refine bodyPost_ret (results_cell rfl _ _ _ _ _ _ _ rfl (HB.out.set _ _) Tryz.underlying26 rfl (by kernel_rfl)) rfl ⟨rfl, ?_⟩
     (repeat' (first | (with_reducible exact Below.refl _ _) | (with_reducible assumption) | (with_reducible refine Below.alloc ?_ ?_ _) | (with_reducible refine Below.drew ?_) | (with_reducible refine bdrewN ?_ _) | (with_reducible refine Below.setCell ?_ ?_ _) | (with_reducible refine Below.frame ?_ _) | go_size))
   | true =>
    go_wp2
    all_goals
     refine bodyPost_ret (results_cell rfl _ _ _ _ _ _ _ rfl (HB.out.set _ _) Tryz.underlying26 rfl (by kernel_rfl)) rfl ⟨rfl, ?_⟩
     (repeat' (first | (with_reducible exact Below.refl _ _) | (with_reducible assumption) | (with_reducible refine Below.alloc ?_ ?_ _) | (with_reducible refine Below.drew ?_) | (with_reducible refine bdrewN ?_ _) | (with_reducible refine Below.setCell ?_ ?_ _) | (with_reducible refine Below.frame ?_ _) | go_size))
  ·obtain ⟨q, rfl⟩ : ∃ q, j = q + 1 := ⟨j - 1, by omega⟩
   obtain ⟨b, off, rfl, hc⟩ := h.cells (by omega)
   have c1 := hc q (by omega)
   have hb : b < w.heap.size := block_lt_of_cell c1
   have ex : ((q + 1 : Nat) : Int) - 1 = (q : Int) := by omega
   by_cases hjL : q + 1 = L
   ·subst hjL
    have hz : o q ≠ 0 := HT.out (by omega)
    have hzb : (o q == 0) = false := by simpa using hz
    have hq : ((q + 1 : Nat) : Int) > 0 := by omega
    have D := Lib.hid (show decide (0 < q + 1) = true by simp)
    have B1 := B0.out.drewN m0
    obtain ⟨b10, b11, b12, b13⟩ := B1.all
    have HB := Lib.hid B1
    clear B1
    cases s with
    | false =>
     go_wp2
     all_goals
      refine bodyPost_ret (results_cell rfl _ _ _ _ _ _ _ rfl (HB.out.set _ _) Tryz.underlying26 rfl (by kernel_rfl)) rfl ⟨rfl, ?_⟩
      (repeat' (first | (with_reducible exact Below.refl _ _) | (with_reducible assumption) | (with_reducible refine Below.alloc ?_ ?_ _) | (with_reducible refine Below.drew ?_) | (with_reducible refine bdrewN ?_ _) | (with_reducible refine Below.setCell ?_ ?_ _) | (with_reducible refine Below.frame ?_ _) | go_size))
    | true =>
     go_wp2
     all_goals
      refine bodyPost_ret (results_cell rfl _ _ _ _ _ _ _ rfl (HB.out.set _ _) Tryz.underlying26 rfl (by kernel_rfl)) rfl ⟨by rw [D.out]; rfl, ?_⟩
      (repeat' (first | (with_reducible exact Below.refl _ _) | (with_reducible assumption) | (with_reducible refine Below.alloc ?_ ?_ _) | (with_reducible refine Below.drew ?_) | (with_reducible refine bdrewN ?_ _) | (with_reducible refine Below.setCell ?_ ?_ _) | (with_reducible refine Below.frame ?_ _) | go_size))
   ·have hz := HZ.out q (by omega) (by omega)
    go_wp2
    go_roundw
    case rel => exact ⟨q, by omega, by omega, rfl, m0, rfl⟩
    case measure => simp [intOf]
end Go.Proofs.YthcccdjfedbnfaaGreatDoor.Limb
namespace Go.Proofs.YthcccdjfedbnfaaGreatDoor.Mono
open Go.RowKit Go.Sort
def clampZ (n : Int) : Int := if 0 < n then 1 else if n < 0 then -1 else 0
theorem clamp_sub (x y : Int) : clampZ (x - y) = cmpZ x y := by
 unfold clampZ cmpZ
 by_cases h : x < y
 ·rw [if_pos h, if_neg (by omega), if_pos (by omega)]
 ·rw [if_neg h]
  by_cases h2 : y < x
  ·rw [if_pos h2, if_pos (by omega)]
  ·rw [if_neg h2, if_neg (by omega), if_neg (by omega)]
theorem cmpZ_zero {x y : Int} : cmpZ x y = 0 ↔ x = y := by
 unfold cmpZ
 by_cases h : x < y
 ·simp [h]; omega
 ·by_cases h2 : y < x
  ·simp [h, h2]; omega
  ·simp [h, h2]; omega
theorem lexM_zero {a b : Nat → Int} : lexM a b = 0 ↔ ∀ k, k < 4 → a k = b k := by
 obtain ⟨k, h⟩ := diff_any a b
 rw [lex_diff h]
 by_cases hk : k < 4
 ·rw [if_pos hk, cmpZ_zero]
  exact ⟨fun e => absurd e (h.2.2 hk), fun e => e k hk⟩
 ·rw [if_neg hk]
  exact ⟨fun _ j hj => h.2.1 j (by omega), fun _ => rfl⟩
theorem lexM_same {a b : Nat → Int} (h : lexM (revM b) (revM a) = 0) : lexM a b = 0 := by
 rw [lexM_zero] at h ⊢
 intro k hk
 have := h (3 - k) (by omega)
 simp only [revM] at this
 rw [show 3 - (3 - k) = k by omega] at this
 exact this.symm
def tailM (o : Int) (a b : Nat → Int) : Int := if o = 2 then lexM (revM b) (revM a) else lexM a b
theorem cmpM_deg {o : Int} {a b : Nat → Int} (ho : o = 1 ∨ o = 2) (h : ¬ degM a = degM b) : cmpM o a b = clampZ (degM a - degM b) := by
 have hz : ¬ cmpZ (degM a) (degM b) = 0 := fun e => h (cmpZ_zero.1 e)
 rw [clamp_sub]
 unfold cmpM
 rcases ho with rfl | rfl
 ·rw [if_pos rfl, if_neg hz]
 ·rw [if_neg (by omega), if_pos rfl, if_neg hz]
theorem cmpM_tail {o : Int} {a b : Nat → Int} (h : (o = 1 ∨ o = 2) → degM a = degM b) : cmpM o a b = tailM o a b := by
 unfold cmpM tailM
 by_cases h1 : o = 1
 ·rw [if_pos h1, if_pos (cmpZ_zero.2 (h (Or.inl h1))), if_neg (show ¬ o = 2 by omega)]
 ·rw [if_neg h1]
  by_cases h2 : o = 2
  ·rw [if_pos h2, if_pos h2, if_pos (cmpZ_zero.2 (h (Or.inr h2)))]
   by_cases h3 : lexM (revM b) (revM a) = 0
   ·rw [if_pos h3, h3]; exact lexM_same h3
   ·rw [if_neg h3]
  ·rw [if_neg h2, if_neg h2]
end Go.Proofs.YthcccdjfedbnfaaGreatDoor.Mono
namespace Go.Proofs.YthcccdjfedbnfaaGreatDoor.Pol
def Pr (p : Nat) : Prop := 2 ≤ p ∧ ∀ a b : Int, (p : Int) ∣ a * b → (p : Int) ∣ a ∨ (p : Int) ∣ b
theorem pr_ex : ∀ n : Nat, 2 ≤ n → ∃ p, Pr p ∧ p ∣ n := by
 intro n
 induction n using Nat.strongRecOn with
 | ind n ih =>
  intro hn
  by_cases hd : ∃ d, 2 ≤ d ∧ d < n ∧ d ∣ n
  ·obtain ⟨d, h1, h2, h3⟩ := hd
   obtain ⟨p, hp, hpd⟩ := ih d h2 h1
   exact ⟨p, hp, Nat.dvd_trans hpd h3⟩
  ·refine ⟨n, ⟨hn, fun a b hab => ?_⟩, Nat.dvd_refl n⟩
   have hab' : n ∣ a.natAbs * b.natAbs := by
    have := Int.natAbs_dvd_natAbs.2 hab
    rwa [Int.natAbs_mul, Int.natAbs_natCast] at this
   have hg : Nat.gcd n a.natAbs ∣ n := Nat.gcd_dvd_left _ _
   have hpos : 0 < Nat.gcd n a.natAbs := Nat.gcd_pos_of_pos_left _ (by omega)
   have hle : Nat.gcd n a.natAbs ≤ n := Nat.le_of_dvd (by omega) hg
   by_cases h1 : Nat.gcd n a.natAbs = 1
   ·right
    have : n ∣ b.natAbs := Nat.Coprime.dvd_of_dvd_mul_left h1 hab'
    exact Int.natAbs_dvd_natAbs.1 (by rwa [Int.natAbs_natCast])
   ·left
    have : Nat.gcd n a.natAbs = n := by
     refine Classical.byContradiction fun hne => hd ⟨_, ?_, ?_, hg⟩ <;> omega
    have h2 : n ∣ a.natAbs := by rw [← this]; exact Nat.gcd_dvd_right _ _
    exact Int.natAbs_dvd_natAbs.1 (by rwa [Int.natAbs_natCast])
structure Prm (P : List Tm) : Prop where
 whole : ∀ t ∈ P, ∃ z : Int, t.2 = (z : Rat)
 alone : ∀ p, Pr p → ∃ t ∈ P, ∀ z : Int, t.2 = (z : Rat) → ¬ (p : Int) ∣ z
 first : ∀ t r, P = t :: r → 0 < t.2
def IsC (P : List Tm) (c : Rat) : Prop := c ≠ 0 ∧ ∃ Q, Prm Q ∧ P = scaleL c Q
theorem Prm.some {P : List Tm} (h : Prm P) : P ≠ [] := fun e => by
 obtain ⟨p, hp, _⟩ := pr_ex 2 (Nat.le_refl 2)
 obtain ⟨t, ht, _⟩ := h.alone p hp
 rw [e] at ht
 cases ht
theorem cast_inj {a b : Int} (h : (a : Rat) = (b : Rat)) : a = b := Rat.intCast_inj.1 h
theorem den_one {q : Rat} (h : ∀ p, Pr p → ¬ p ∣ q.den) : q.den = 1 := by
 have := q.den_pos
 refine Classical.byContradiction fun hne => ?_
 obtain ⟨p, hp, hd⟩ := pr_ex q.den (by omega)
 exact h p hp hd
theorem num_div (q : Rat) : (q.num : Rat) / (q.den : Rat) = q := by rw [← Rat.mkRat_eq_div]; exact Rat.mkRat_self q
theorem num_cast {q : Rat} (h : q.den = 1) : q = (q.num : Rat) := by
 have := num_div q
 rw [h] at this
 grind
theorem cross {u : Rat} {a b : Int} (h : (b : Rat) = u * (a : Rat)) : (u.den : Int) * b = u.num * a := by
 have h1 := num_div u
 have h2 : (u.den : Rat) ≠ 0 := by
  have := u.den_pos
  intro e
  have : u.den = 0 := Rat.natCast_inj.1 (by simpa using e)
  omega
 apply cast_inj
 rw [Rat.intCast_mul, Rat.intCast_mul, h]
 have h3 : (u.num : Rat) = u * (u.den : Rat) := by
  rw [← h1]
  grind
 rw [h3]
 have : (((u.den : Nat) : Int) : Rat) = (u.den : Rat) := Rat.intCast_natCast _
 rw [this]
 grind
theorem ratio_den {u : Rat} {Q R : List Tm} (hQ : Prm Q) (hR : Prm R) (h : ∀ t ∈ Q, ∃ s ∈ R, s.2 = u * t.2) : u.den = 1 := by
 refine den_one fun p hp hd => ?_
 obtain ⟨t, ht, hn⟩ := hQ.alone p hp
 obtain ⟨s, hs, e⟩ := h t ht
 obtain ⟨a, ha⟩ := hQ.whole t ht
 obtain ⟨b, hb⟩ := hR.whole s hs
 rw [ha, hb] at e
 have hc := cross e
 have hpd : (p : Int) ∣ (u.den : Int) := Int.natCast_dvd_natCast.2 hd
 have h1 : (p : Int) ∣ u.num * a := by rw [← hc]; exact Int.dvd_trans hpd (Int.dvd_mul_right _ _)
 rcases hp.2 _ _ h1 with h2 | h2
 ·have h3 : p ∣ u.num.natAbs := by
   have := Int.natAbs_dvd_natAbs.2 h2
   rwa [Int.natAbs_natCast] at this
  have h4 : p ∣ Nat.gcd u.num.natAbs u.den := Nat.dvd_gcd h3 hd
  rw [u.reduced] at h4
  have := Nat.le_of_dvd (by decide) h4
  have := hp.1
  omega
 ·exact hn a ha h2
theorem scaleL_mem {c : Rat} {Q : List Tm} {t : Tm} (h : t ∈ Q) : (t.1, t.2 * c) ∈ scaleL c Q := List.mem_map_of_mem (f := fun t : Tm => (t.1, t.2 * c)) h
theorem scaleL_back {c d : Rat} (hd : d ≠ 0) {Q R : List Tm} (h : scaleL c Q = scaleL d R) {t : Tm} (ht : t ∈ Q) : ∃ s ∈ R, s.1 = t.1 ∧ s.2 = (c / d) * t.2 := by
 have h1 := scaleL_mem (c := c) ht
 rw [h] at h1
 obtain ⟨s, hs, (e : (s.1, s.2 * d) = (t.1, t.2 * c))⟩ := List.mem_map.1 h1
 have e1 : s.1 = t.1 := (Prod.mk.inj e).1
 have e2 : s.2 * d = t.2 * c := (Prod.mk.inj e).2
 refine ⟨s, hs, e1, ?_⟩
 have : s.2 = s.2 * d / d := by grind
 rw [this, e2]
 grind
theorem IsC.uniq {P : List Tm} {c d : Rat} (hc : IsC P c) (hd : IsC P d) : c = d := by
 obtain ⟨c0, Q, hQ, e1⟩ := hc
 obtain ⟨d0, R, hR, e2⟩ := hd
 have hqr : ∀ t ∈ Q, ∃ s ∈ R, s.2 = (c / d) * t.2 := fun t ht => by
  obtain ⟨s, hs, _, e⟩ := scaleL_back d0 (e1.symm.trans e2) ht
  exact ⟨s, hs, e⟩
 have hrq : ∀ t ∈ R, ∃ s ∈ Q, s.2 = (d / c) * t.2 := fun t ht => by
  obtain ⟨s, hs, _, e⟩ := scaleL_back c0 (e2.symm.trans e1) ht
  exact ⟨s, hs, e⟩
 have k1 := num_cast (ratio_den hQ hR hqr)
 have k2 := num_cast (ratio_den hR hQ hrq)
 have k3 : (c / d) * (d / c) = 1 := by grind
 rw [k1, k2, ← Rat.intCast_mul] at k3
 have k4 : (c / d).num * (d / c).num = 1 := cast_inj (by rw [k3]; rfl)
 have k5 : (c / d).num = 1 ∨ (c / d).num = -1 := by
  have := congrArg Int.natAbs k4
  rw [Int.natAbs_mul] at this
  have := Nat.eq_one_of_mul_eq_one_right this
  omega
 have pos : 0 < c / d := by
  match Q, R, hQ, hR, e1, e2 with
  | [], _, hQ, _, _, _ => exact absurd rfl hQ.some
  | _ :: _, [], _, hR, _, _ => exact absurd rfl hR.some
  | t :: q, s :: r, hQ, hR, e1, e2 =>
   have e3 := e1.symm.trans e2
   unfold scaleL at e3
   rw [List.map_cons, List.map_cons] at e3
   have e4 : t.2 * c = s.2 * d := congrArg Prod.snd (List.cons.inj e3).1
   have t0 := hQ.first t q rfl
   have s0 := hR.first s r rfl
   have e5 : c / d = s.2 / t.2 := by grind
   rw [e5]
   rw [Rat.div_def]; exact Rat.mul_pos s0 (Rat.inv_pos.2 t0)
 rcases k5 with k | k
 ·rw [k] at k1
  have : c / d = 1 := k1
  grind
 ·rw [k] at k1
  rw [k1] at pos
  exact absurd pos (by decide)
end Go.Proofs.YthcccdjfedbnfaaGreatDoor.Pol
namespace Go.Proofs.YthcccdjfedbnfaaGreatDoor.Pol
def Wz (q : Rat) : Prop := ∃ z : Int, q = (z : Rat)
theorem Wz.add {a b : Rat} (h : Wz a) (k : Wz b) : Wz (a + b) := by
 obtain ⟨x, rfl⟩ := h
 obtain ⟨y, rfl⟩ := k
 exact ⟨x + y, (Rat.intCast_add x y).symm⟩
theorem Wz.mul {a b : Rat} (h : Wz a) (k : Wz b) : Wz (a * b) := by
 obtain ⟨x, rfl⟩ := h
 obtain ⟨y, rfl⟩ := k
 exact ⟨x * y, (Rat.intCast_mul x y).symm⟩
theorem Wz.zero : Wz 0 := ⟨0, rfl⟩
theorem Wz.one : Wz 1 := ⟨1, rfl⟩
theorem ev_wz {f : Mo → Rat} (hf : ∀ m, Wz (f m)) : ∀ {L : List Tm}, (∀ t ∈ L, Wz t.2) → Wz (ev L f)
 | [], _ => Wz.zero
 | t :: _, h => ((h t (List.mem_cons_self ..)).mul (hf t.1)).add (ev_wz hf fun s hs => h s (List.mem_cons_of_mem _ hs))
theorem at_wz (m a : Mo) : Wz (at_ m a) := by
 unfold at_
 split
 ·exact Wz.one
 ·exact Wz.zero
def Dz (p : Nat) (q : Rat) : Prop := ∃ z : Int, q = (((p : Int) * z : Int) : Rat)
theorem Dz.zero (p : Nat) : Dz p 0 := ⟨0, by rw [Int.mul_zero]; rfl⟩
theorem Dz.add {p : Nat} {a b : Rat} (h : Dz p a) (k : Dz p b) : Dz p (a + b) := by
 obtain ⟨x, rfl⟩ := h
 obtain ⟨y, rfl⟩ := k
 exact ⟨x + y, by rw [Int.mul_add, Rat.intCast_add]⟩
theorem Dz.mul {p : Nat} {a b : Rat} (h : Dz p a) (k : Wz b) : Dz p (a * b) := by
 obtain ⟨x, rfl⟩ := h
 obtain ⟨y, rfl⟩ := k
 exact ⟨x * y, by rw [← Int.mul_assoc, Rat.intCast_mul _ y]⟩
theorem Dz.mul' {p : Nat} {a b : Rat} (h : Wz a) (k : Dz p b) : Dz p (a * b) := by rw [Rat.mul_comm]; exact k.mul h
theorem ev_dz {p : Nat} {f : Mo → Rat} : ∀ {L : List Tm}, (∀ t ∈ L, Dz p (t.2 * f t.1)) → Dz p (ev L f)
 | [], _ => Dz.zero p
 | t :: _, h => (h t (List.mem_cons_self ..)).add (ev_dz fun s hs => h s (List.mem_cons_of_mem _ hs))
theorem ev_but {p : Nat} {f : Mo → Rat} {a : Tm} : ∀ {L : List Tm}, Canon L → a ∈ L → (∀ t ∈ L, t ≠ a → Dz p (t.2 * f t.1)) → ∃ q, Dz p q ∧ ev L f = a.2 * f a.1 + q
 | [], _, h, _ => by cases h
 | t :: r, hc, ha, h => by
  by_cases he : t = a
  ·subst he
   refine ⟨ev r f, ev_dz fun s hs => h s (List.mem_cons_of_mem _ hs) fun e => ?_, rfl⟩
   have := hc.head s hs
   rw [e] at this
   exact Mo.lt_irrefl _ this
  ·have ha' : a ∈ r := by
    rcases List.mem_cons.1 ha with e | e
    ·exact absurd e.symm he
    ·exact e
   obtain ⟨q, hq, e⟩ := ev_but hc.tail ha' fun s hs => h s (List.mem_cons_of_mem _ hs)
   refine ⟨t.2 * f t.1 + q, (h t (List.mem_cons_self ..) he).add hq, ?_⟩
   rw [ev_cons, e]
   grind
theorem ev_only {f : Mo → Rat} {a : Tm} : ∀ {L : List Tm}, Canon L → a ∈ L → (∀ t ∈ L, t ≠ a → f t.1 = 0) → ev L f = a.2 * f a.1
 | [], _, h, _ => by cases h
 | t :: r, hc, ha, h => by
  by_cases he : t = a
  ·subst he
   have : ev r f = ev r (fun _ => 0) := ev_congr fun s hs => h s (List.mem_cons_of_mem _ hs) fun e => by
    have := hc.head s hs
    rw [e] at this
    exact Mo.lt_irrefl _ this
   rw [ev_cons, this, ev_zero, Rat.add_zero]
  ·have ha' : a ∈ r := by
    rcases List.mem_cons.1 ha with e | e
    ·exact absurd e.symm he
    ·exact e
   rw [ev_cons, h t (List.mem_cons_self ..) he, ev_only hc.tail ha' fun s hs => h s (List.mem_cons_of_mem _ hs)]
   grind
theorem Mo.mul_lt {a b s t : Mo} (h : s.lt a) (e : s.mul t = a.mul b) : b.lt t := by
 rw [Mo.eq_iff] at e
 simp only [Mo.mul, Mo.lt] at *
 omega
theorem Mo.mul_lt_mul {a b s t : Mo} (h : s = a ∨ s.lt a) (k : t = b ∨ t.lt b) : s.mul t = a.mul b ∨ (s.mul t).lt (a.mul b) := by
 simp only [Mo.eq_iff] at *
 simp only [Mo.mul, Mo.lt] at *
 omega
theorem Canon.inj {L : List Tm} (h : Canon L) {s t : Tm} (hs : s ∈ L) (ht : t ∈ L) (e : s.1 = t.1) : s = t :=
 Prod.ext e (by rw [← h.cf_mem hs, ← h.cf_mem ht, e])
theorem top_ex {N : Tm → Prop} : ∀ {L : List Tm}, Canon L → (∃ t ∈ L, N t) → ∃ a ∈ L, N a ∧ ∀ s ∈ L, N s → s = a ∨ s.1.lt a.1
 | [], _, h => by obtain ⟨t, ht, _⟩ := h; cases ht
 | t :: r, hc, h => by
  by_cases hn : N t
  ·refine ⟨t, List.mem_cons_self .., hn, fun s hs _ => ?_⟩
   rcases List.mem_cons.1 hs with e | e
   ·exact Or.inl e
   ·exact Or.inr (hc.head s e)
  ·have h' : ∃ t ∈ r, N t := by
    obtain ⟨s, hs, hns⟩ := h
    rcases List.mem_cons.1 hs with e | e
    ·rw [e] at hns
     exact absurd hns hn
    ·exact ⟨s, e, hns⟩
   obtain ⟨a, ha, hna, hs⟩ := top_ex hc.tail h'
   refine ⟨a, List.mem_cons_of_mem _ ha, hna, fun s hs' hns => ?_⟩
   rcases List.mem_cons.1 hs' with e | e
   ·rw [e] at hns
    exact absurd hns hn
   ·exact hs s e hns
theorem cf_mulL (P Q : List Tm) (m : Mo) : cf (mulL P Q) m = ev P (fun x => ev Q (fun y => at_ m (x.mul y))) := ev_mulL P Q _
theorem mulP_val {P Q : List Tm} {t : Tm} (h : t ∈ mulP P Q) : t.2 = cf (mulL P Q) t.1 := by
 have := (mulP_canon P Q).cf_mem h
 rw [← this]
 exact nf_cf _ _
theorem gauss_at {P Q : List Tm} (hP : Canon P) (hQ : Canon Q) {p : Nat} (wP : ∀ t ∈ P, Wz t.2) (wQ : ∀ t ∈ Q, Wz t.2) {a b : Tm} (ha : a ∈ P) (hb : b ∈ Q)
  (ma : ∀ s ∈ P, ¬ Dz p s.2 → s = a ∨ s.1.lt a.1) (mb : ∀ s ∈ Q, ¬ Dz p s.2 → s = b ∨ s.1.lt b.1) : ∃ q, Dz p q ∧ cf (mulL P Q) (a.1.mul b.1) = a.2 * b.2 + q := by
 rw [cf_mulL]
 have hw : ∀ x : Mo, Wz (ev Q (fun y => at_ (a.1.mul b.1) (x.mul y))) := fun x => ev_wz (fun m => at_wz _ _) wQ
 have h1 : ev Q (fun y => at_ (a.1.mul b.1) (a.1.mul y)) = b.2 := by
  rw [ev_only hQ hb fun t ht hne => ?_]
  ·unfold at_
   rw [if_pos rfl, Rat.mul_one]
  ·unfold at_
   rw [if_neg]
   intro e
   exact hne (hQ.inj ht hb (Mo.mul_left_cancel e))
 obtain ⟨q, hq, e⟩ := ev_but (p := p) (f := fun x => ev Q (fun y => at_ (a.1.mul b.1) (x.mul y))) hP ha fun s hs hne => by
  by_cases hd : Dz p s.2
  ·exact hd.mul (hw _)
  ·have hlt : s.1.lt a.1 := (ma s hs hd).resolve_left hne
   refine Dz.mul' (wP s hs) (ev_dz fun t ht => ?_)
   by_cases he : s.1.mul t.1 = a.1.mul b.1
   ·have hbt := Mo.mul_lt hlt he
    have hdt : Dz p t.2 := Classical.byContradiction fun hn => by
     rcases mb t ht hn with e | e
     ·rw [e] at hbt
      exact Mo.lt_irrefl _ hbt
     ·exact Mo.lt_asymm hbt e
    exact hdt.mul (at_wz _ _)
   ·unfold at_
    rw [if_neg he, Rat.mul_zero]
    exact Dz.zero p
 refine ⟨q, hq, ?_⟩
 rw [e, h1]
theorem mulL_whole {P Q : List Tm} (wP : ∀ t ∈ P, Wz t.2) (wQ : ∀ t ∈ Q, Wz t.2) (m : Mo) : Wz (cf (mulL P Q) m) := by
 rw [cf_mulL]
 exact ev_wz (fun x => ev_wz (fun y => at_wz _ _) wQ) wP
theorem head_mul {s t : Tm} {P Q : List Tm} (hP : Canon (s :: P)) (hQ : Canon (t :: Q)) : ∃ R, mulP (s :: P) (t :: Q) = (s.1.mul t.1, s.2 * t.2) :: R := by
 have mP : ∀ u ∈ s :: P, u.1 = s.1 ∨ u.1.lt s.1 := fun u hu => by
  rcases List.mem_cons.1 hu with e | e
  ·rw [e]; exact Or.inl rfl
  ·exact Or.inr (hP.head u e)
 have mQ : ∀ u ∈ t :: Q, u.1 = t.1 ∨ u.1.lt t.1 := fun u hu => by
  rcases List.mem_cons.1 hu with e | e
  ·rw [e]; exact Or.inl rfl
  ·exact Or.inr (hQ.head u e)
 have hcf : cf (mulL (s :: P) (t :: Q)) (s.1.mul t.1) = s.2 * t.2 := by
  rw [cf_mulL, ev_only hP (List.mem_cons_self ..) fun u hu hne => ?_, ev_only hQ (List.mem_cons_self ..) fun u hu hne => ?_]
  ·unfold at_
   rw [if_pos rfl, Rat.mul_one]
  ·unfold at_
   rw [if_neg]
   intro e
   exact hne (hQ.inj hu (List.mem_cons_self ..) (Mo.mul_left_cancel e))
  ·have hlt : u.1.lt s.1 := by
    rcases mP u hu with e | e
    ·exact absurd (hP.inj hu (List.mem_cons_self ..) e) hne
    ·exact e
   have : ev (t :: Q) (fun y => at_ (s.1.mul t.1) (u.1.mul y)) = ev (t :: Q) (fun _ => 0) := ev_congr fun v hv => by
    unfold at_
    rw [if_neg]
    intro e
    have := Mo.mul_lt hlt e
    rcases mQ v hv with e | e
    ·rw [e] at this
     exact Mo.lt_irrefl _ this
    ·exact Mo.lt_asymm this e
   rw [this, ev_zero]
 have hne : s.2 * t.2 ≠ 0 := fun e => by
  rcases Rat.mul_eq_zero.1 e with e | e
  ·exact hP.non s (List.mem_cons_self ..) e
  ·exact hQ.non t (List.mem_cons_self ..) e
 have hcf2 : cf (mulP (s :: P) (t :: Q)) (s.1.mul t.1) = s.2 * t.2 := by
  unfold mulP
  rw [nf_cf, hcf]
 obtain ⟨c, hc⟩ := Canon.mem_cf (l := mulP (s :: P) (t :: Q)) (m := s.1.mul t.1) (by rw [hcf2]; exact hne)
 have hcan := mulP_canon (s :: P) (t :: Q)
 have hc2 : c = s.2 * t.2 := (hcan.cf_mem hc).symm.trans hcf2
 subst hc2
 match hM : mulP (s :: P) (t :: Q) with
 | [] => rw [hM] at hc; cases hc
 | v :: R =>
  rw [hM] at hc hcan
  refine ⟨R, ?_⟩
  rcases List.mem_cons.1 hc with e | e
  ·rw [e]
  ·exfalso
   have h1 := hcan.head _ e
   have h2 : cf (mulL (s :: P) (t :: Q)) v.1 ≠ 0 := by
    rw [← nf_cf]
    have h3 : cf (v :: R) v.1 = v.2 := hcan.cf_head
    rw [← hM] at h3
    unfold mulP at h3
    rw [h3]
    exact hcan.non v (List.mem_cons_self ..)
   apply h2
   refine cf_none fun u hu he => ?_
   obtain ⟨x, hx, hu⟩ := List.mem_flatMap.1 hu
   obtain ⟨y, hy, rfl⟩ := List.mem_map.1 hu
   have h4 := Mo.mul_lt_mul (mP x hx) (mQ y hy)
   rw [show x.1.mul y.1 = v.1 from he] at h4
   rcases h4 with h4 | h4
   ·rw [h4] at h1
    exact Mo.lt_irrefl _ h1
   ·exact Mo.lt_asymm h1 h4
theorem Prm.mul {P Q : List Tm} (hP : Canon P) (hQ : Canon Q) (pP : Prm P) (pQ : Prm Q) : Prm (mulP P Q) := by
 refine ⟨fun t ht => ?_, fun p hp => ?_, fun t r e => ?_⟩
 ·rw [mulP_val ht]
  exact mulL_whole pP.whole pQ.whole _
 ·have tP : ∃ t ∈ P, ¬ Dz p t.2 := by
   obtain ⟨t, ht, hn⟩ := pP.alone p hp
   exact ⟨t, ht, fun ⟨z, hz⟩ => hn _ hz ⟨z, rfl⟩⟩
  have tQ : ∃ t ∈ Q, ¬ Dz p t.2 := by
   obtain ⟨t, ht, hn⟩ := pQ.alone p hp
   exact ⟨t, ht, fun ⟨z, hz⟩ => hn _ hz ⟨z, rfl⟩⟩
  obtain ⟨a, ha, na, ma⟩ := top_ex (N := fun t => ¬ Dz p t.2) hP tP
  obtain ⟨b, hb, nb, mb⟩ := top_ex (N := fun t => ¬ Dz p t.2) hQ tQ
  obtain ⟨q, hq, e⟩ := gauss_at hP hQ pP.whole pQ.whole ha hb ma mb
  obtain ⟨x, hx⟩ := pP.whole a ha
  obtain ⟨y, hy⟩ := pQ.whole b hb
  have hxy : ¬ Dz p (cf (mulL P Q) (a.1.mul b.1)) := fun hd => by
   rw [e, hx, hy] at hd
   obtain ⟨u, hu⟩ := hd
   obtain ⟨v, hv⟩ := hq
   rw [hv, ← Rat.intCast_mul, ← Rat.intCast_add] at hu
   have h1 := cast_inj hu
   have h2 : (p : Int) ∣ x * y := ⟨u - v, by rw [Int.mul_sub]; omega⟩
   rcases hp.2 x y h2 with ⟨c, hc⟩ | ⟨c, hc⟩
   ·exact na ⟨c, by rw [hx, hc]⟩
   ·exact nb ⟨c, by rw [hy, hc]⟩
  have h0 : cf (mulP P Q) (a.1.mul b.1) ≠ 0 := fun h0 => by
   unfold mulP at h0
   rw [nf_cf] at h0
   rw [h0] at hxy
   exact hxy (Dz.zero p)
  obtain ⟨c, hc⟩ := Canon.mem_cf h0
  refine ⟨_, hc, fun z hz hd => hxy ?_⟩
  have h3 := mulP_val hc
  rw [← h3]
  obtain ⟨y, rfl⟩ := hd
  exact ⟨y, hz⟩
 ·match P, Q, hP, hQ, pP, pQ, e with
  | [], _, _, _, pP, _, _ => exact absurd rfl pP.some
  | _ :: _, [], _, _, _, pQ, _ => exact absurd rfl pQ.some
  | s :: P, u :: Q, hP, hQ, pP, pQ, e =>
   obtain ⟨R, h⟩ := head_mul hP hQ
   rw [h] at e
   have := (List.cons.inj e).1
   rw [← this]
   exact Rat.mul_pos (pP.first s P rfl) (pQ.first u Q rfl)
theorem scaleL_canon {c : Rat} (hc : c ≠ 0) {P : List Tm} (h : Canon P) : Canon (scaleL c P) := by
 refine ⟨?_, fun t ht => ?_⟩
 ·unfold scaleL
  rw [List.pairwise_map]
  exact h.falls
 ·obtain ⟨s, hs, rfl⟩ := List.mem_map.1 ht
  intro e
  rcases Rat.mul_eq_zero.1 e with e | e
  ·exact h.non s hs e
  ·exact hc e
theorem scaleP_L {c : Rat} (hc : c ≠ 0) {P : List Tm} (h : Canon P) : scaleP c P = scaleL c P := nf_self (scaleL_canon hc h)
theorem scaleL_two (c d : Rat) (P : List Tm) : scaleL c (scaleL d P) = scaleL (d * c) P := by
 unfold scaleL
 rw [List.map_map]
 refine List.map_congr_left fun t _ => ?_
 show (t.1, t.2 * d * c) = (t.1, t.2 * (d * c))
 rw [Rat.mul_assoc]
theorem scaleL_one (P : List Tm) : scaleL 1 P = P := by
 unfold scaleL
 conv => rhs; rw [← List.map_id P]
 exact List.map_congr_left fun t _ => by
  show (t.1, t.2 * 1) = t
  rw [Rat.mul_one]
theorem IsC.canon {P Q : List Tm} {c : Rat} (hc : c ≠ 0) (hP : Canon P) (e : P = scaleL c Q) : Canon Q := by
 have : Q = scaleL c⁻¹ P := by
  rw [e, scaleL_two, show c * c⁻¹ = 1 from Rat.mul_inv_cancel _ hc, scaleL_one]
 rw [this]
 exact scaleL_canon (fun h => (by have := Rat.mul_inv_cancel c hc; rw [h, Rat.mul_zero] at this; exact absurd this.symm (by decide))) hP
theorem IsC.scale {P : List Tm} {c d : Rat} (hP : Canon P) (h : IsC P c) (hd : d ≠ 0) : IsC (scaleP d P) (c * d) := by
 obtain ⟨c0, Q, hQ, e⟩ := h
 refine ⟨fun h0 => (Rat.mul_eq_zero.1 h0).elim c0 hd, Q, hQ, ?_⟩
 rw [scaleP_L hd hP, e, scaleL_two]
theorem IsC.mul {P Q : List Tm} {c d : Rat} (hP : Canon P) (hQ : Canon Q) (h : IsC P c) (k : IsC Q d) : IsC (mulP P Q) (c * d) := by
 obtain ⟨c0, P', pP, e⟩ := h
 obtain ⟨d0, Q', pQ, k⟩ := k
 have cP := IsC.canon c0 hP e
 have cQ := IsC.canon d0 hQ k
 have hcd : c * d ≠ 0 := fun h0 => (Rat.mul_eq_zero.1 h0).elim c0 d0
 refine ⟨hcd, mulP P' Q', Prm.mul cP cQ pP pQ, ?_⟩
 rw [← scaleP_L hcd (mulP_canon _ _)]
 refine canon_same (mulP_canon _ _) (scaleP_canon _ _) fun f => ?_
 rw [ev_mulP, ev_scaleP, ev_mulP, e, k, ev_scaleL]
 have : (fun a : Mo => ev (scaleL d Q') (fun b => f (a.mul b))) = fun a => d * ev Q' (fun b => f (a.mul b)) := funext fun a => ev_scaleL _ _ _
 rw [this, ev_smul]
 grind
end Go.Proofs.YthcccdjfedbnfaaGreatDoor.Pol
namespace Go.Proofs.YthcccdjfedbnfaaGreatDoor.Pol
def gT (P : List Tm) (g : Nat) : Nat := P.foldl (fun g t => Nat.gcd g t.2.num.natAbs) g
def lL (P : List Tm) (l : Nat) : Nat := P.foldl (fun l t => Nat.lcm l t.2.den) l
theorem gT_dvd : ∀ (P : List Tm) (g : Nat), gT P g ∣ g ∧ ∀ t ∈ P, gT P g ∣ t.2.num.natAbs
 | [], g => ⟨Nat.dvd_refl g, fun _ h => by cases h⟩
 | t :: r, g => by
  obtain ⟨h1, h2⟩ := gT_dvd r (Nat.gcd g t.2.num.natAbs)
  refine ⟨Nat.dvd_trans h1 (Nat.gcd_dvd_left _ _), fun s hs => ?_⟩
  rcases List.mem_cons.1 hs with rfl | hs
  ·exact Nat.dvd_trans h1 (Nat.gcd_dvd_right _ _)
  ·exact h2 s hs
theorem gT_most : ∀ (P : List Tm) (g k : Nat), k ∣ g → (∀ t ∈ P, k ∣ t.2.num.natAbs) → k ∣ gT P g
 | [], _, _, h, _ => h
 | t :: r, _, k, h, hk => gT_most r _ k (Nat.dvd_gcd h (hk t (List.mem_cons_self ..))) fun s hs => hk s (List.mem_cons_of_mem _ hs)
theorem lL_dvd : ∀ (P : List Tm) (l : Nat), l ∣ lL P l ∧ ∀ t ∈ P, t.2.den ∣ lL P l
 | [], l => ⟨Nat.dvd_refl l, fun _ h => by cases h⟩
 | t :: r, l => by
  obtain ⟨h1, h2⟩ := lL_dvd r (Nat.lcm l t.2.den)
  refine ⟨Nat.dvd_trans (Nat.dvd_lcm_left _ _) h1, fun s hs => ?_⟩
  rcases List.mem_cons.1 hs with rfl | hs
  ·exact Nat.dvd_trans (Nat.dvd_lcm_right _ _) h1
  ·exact h2 s hs
theorem lL_least : ∀ (P : List Tm) (l k : Nat), l ∣ k → (∀ t ∈ P, t.2.den ∣ k) → lL P l ∣ k
 | [], _, _, h, _ => h
 | t :: r, _, k, h, hk => lL_least r _ k (Nat.lcm_dvd h (hk t (List.mem_cons_self ..))) fun s hs => hk s (List.mem_cons_of_mem _ hs)
theorem lL_pos : ∀ (P : List Tm) (l : Nat), 0 < l → 0 < lL P l
 | [], _, h => h
 | t :: r, _, h => lL_pos r _ (Nat.lcm_pos h t.2.den_pos)
theorem lcm_step (l d : Nat) : l * (d / Nat.gcd l d) = Nat.lcm l d := by
 unfold Nat.lcm
 rw [Nat.mul_div_assoc _ (Nat.gcd_dvd_right _ _)]
def sgQ (q : Rat) : Int := if q.num < 0 then -1 else if q.num = 0 then 0 else 1
def contP (P : List Tm) : Rat := match P with
 | [] => 0
 | t :: r => ((gT (t :: r) 0 : Nat) : Rat) / ((lL (t :: r) 1 : Nat) : Rat) * ((sgQ t.2 : Int) : Rat)
theorem nat_ne {n : Nat} (h : 0 < n) : (n : Rat) ≠ 0 := fun e => by
 have : n = 0 := Rat.natCast_inj.1 (by simpa using e)
 omega
theorem cast_nat (n : Nat) : (((n : Nat) : Int) : Rat) = (n : Rat) := Rat.intCast_natCast _
theorem pr_not_one {p : Nat} (h : Pr p) {n : Nat} (hn : 0 < n) (hd : p * n ∣ n) : False := by
 have h1 := Nat.le_of_dvd hn hd
 have h2 : 2 * n ≤ p * n := Nat.mul_le_mul_right n h.1
 omega
theorem part_of {G L : Nat} (hL : 0 < L) {q : Rat} (h1 : G ∣ q.num.natAbs) (h2 : q.den ∣ L) {s : Int} (hs : s = 1 ∨ s = -1) :
  ∃ a : Int, ∃ b : Nat, q.num = G * a ∧ L = q.den * b ∧ q = ((a * b * s : Int) : Rat) * ((G : Rat) / (L : Rat) * (s : Rat)) := by
 obtain ⟨a, ha⟩ := (Int.natAbs_dvd_natAbs.1 (by rwa [Int.natAbs_natCast]) : (G : Int) ∣ q.num)
 obtain ⟨b, hb⟩ := h2
 refine ⟨a, b, ha, hb, ?_⟩
 have e := num_div q
 have d0 := nat_ne q.den_pos
 have l0 := nat_ne hL
 have b0 : (b : Rat) ≠ 0 := nat_ne (by
  rcases Nat.eq_zero_or_pos b with h | h
  ·rw [h] at hb
   omega
  ·exact h)
 have hs2 : (s : Rat) * (s : Rat) = 1 := by
  rcases hs with rfl | rfl
  ·exact Rat.mul_one _
  ·rw [← Rat.intCast_mul]; rfl
 have eL : (L : Rat) = (q.den : Rat) * (b : Rat) := by rw [hb, Rat.natCast_mul]
 have eN : (q.num : Rat) = (G : Rat) * (a : Rat) := by rw [ha, Rat.intCast_mul, cast_nat]
 have e1 : ((a * b * s : Int) : Rat) = (a : Rat) * (b : Rat) * (s : Rat) := by rw [Rat.intCast_mul, Rat.intCast_mul, cast_nat]
 rw [e1]
 conv => lhs; rw [← e]
 rw [eN, eL]
 have h3 : (a : Rat) * b * s * (↑G / (↑q.den * ↑b) * s) = (a : Rat) * b * (↑G / (↑q.den * ↑b)) * (s * s) := by grind
 rw [h3, hs2]
 grind
theorem contP_is {P : List Tm} (hP : Canon P) (hne : P ≠ []) : IsC P (contP P) := by
 match P, hne with
 | t :: r, _ =>
 have t0 : t.2 ≠ 0 := hP.non t (List.mem_cons_self ..)
 have tn : t.2.num ≠ 0 := fun h => t0 (Rat.num_eq_zero.1 h)
 obtain ⟨_, g2⟩ := gT_dvd (t :: r) 0
 obtain ⟨_, l2⟩ := lL_dvd (t :: r) 1
 have g3 := gT_most (t :: r) 0
 have l3 := lL_least (t :: r) 1
 have hL := lL_pos (t :: r) 1 (by decide)
 have hG : 0 < gT (t :: r) 0 := by
  have := g2 t (List.mem_cons_self ..)
  rcases Nat.eq_zero_or_pos (gT (t :: r) 0) with h | h
  ·rw [h] at this
   have := Nat.eq_zero_of_zero_dvd this
   omega
  ·exact h
 have hs : sgQ t.2 = 1 ∨ sgQ t.2 = -1 := by
  unfold sgQ
  split
  ·exact Or.inr rfl
  ·exact Or.inl rfl
 generalize hGe : gT (t :: r) 0 = G at *
 generalize hLe : lL (t :: r) 1 = L at *
 have hc : contP (t :: r) = (G : Rat) / (L : Rat) * ((sgQ t.2 : Int) : Rat) := by
  unfold contP
  simp only [hGe, hLe]
 have s0 : ((sgQ t.2 : Int) : Rat) ≠ 0 := by
  rcases hs with h | h <;> rw [h] <;> decide
 have c0 : contP (t :: r) ≠ 0 := by
  rw [hc]
  intro h
  rcases Rat.mul_eq_zero.1 h with h | h
  ·have := nat_ne hG
   have := nat_ne hL
   grind
  ·exact s0 h
 have hpart : ∀ u ∈ t :: r, ∃ a : Int, ∃ b : Nat, u.2.num = G * a ∧ L = u.2.den * b ∧ u.2 = ((a * b * sgQ t.2 : Int) : Rat) * contP (t :: r) := fun u hu => by
  rw [hc]
  exact part_of hL (g2 u hu) (l2 u hu) hs
 refine ⟨c0, scaleL (contP (t :: r))⁻¹ (t :: r), ⟨fun u hu => ?_, fun p hp => ?_, fun u q e => ?_⟩, ?_⟩
 ·obtain ⟨v, hv, rfl⟩ := List.mem_map.1 hu
  obtain ⟨a, b, _, _, e⟩ := hpart v hv
  refine ⟨a * b * sgQ t.2, ?_⟩
  show v.2 * _ = _
  rw [e, Rat.mul_assoc, Rat.mul_inv_cancel _ c0, Rat.mul_one]
 ·refine Classical.byContradiction fun hno => ?_
  have hall : ∀ u ∈ t :: r, ∀ a : Int, ∀ b : Nat, u.2.num = G * a → L = u.2.den * b → u.2 = ((a * b * sgQ t.2 : Int) : Rat) * contP (t :: r) → (p : Int) ∣ a * b := fun u hu a b _ _ e => by
   refine Classical.byContradiction fun hn => hno ⟨_, scaleL_mem hu, fun z hz hd => hn ?_⟩
   have : z = a * b * sgQ t.2 := by
    apply cast_inj
    rw [← hz]
    show u.2 * _ = _
    rw [e, Rat.mul_assoc, Rat.mul_inv_cancel _ c0, Rat.mul_one]
   rw [this] at hd
   rcases hs with h | h
   ·rw [h, Int.mul_one] at hd
    exact hd
   ·rw [h] at hd
    obtain ⟨y, hy⟩ := hd
    exact ⟨-y, by rw [Int.mul_neg, ← hy]; omega⟩
  by_cases hA : ∃ u ∈ t :: r, ∀ a : Int, u.2.num = G * a → ¬ (p : Int) ∣ a
  ·obtain ⟨u, hu, hua⟩ := hA
   by_cases hB : ∃ v ∈ t :: r, ∀ b : Nat, L = v.2.den * b → ¬ p ∣ b
   ·obtain ⟨v, hv, hvb⟩ := hB
    obtain ⟨a, b, e1, e2, e3⟩ := hpart u hu
    obtain ⟨a', b', e1', e2', e3'⟩ := hpart v hv
    have h1 := hall u hu a b e1 e2 e3
    have h2 := hall v hv a' b' e1' e2' e3'
    have pb : (p : Int) ∣ (b : Int) := (hp.2 _ _ h1).resolve_left (hua a e1)
    have pa' : (p : Int) ∣ a' := (hp.2 _ _ h2).resolve_right fun h => hvb b' e2' (Int.natCast_dvd_natCast.1 h)
    have pL : (p : Int) ∣ ((v.2.den : Nat) : Int) * (b' : Int) := by
     rw [← Int.natCast_mul, ← e2', e2, Int.natCast_mul]
     exact Int.dvd_trans pb (Int.dvd_mul_left _ _)
    rcases hp.2 _ _ pL with h | h
    ·have k1 : p ∣ v.2.den := Int.natCast_dvd_natCast.1 h
     have k2 : p ∣ v.2.num.natAbs := by
      have : (p : Int) ∣ v.2.num := by
       rw [e1']
       exact Int.dvd_trans pa' (Int.dvd_mul_left _ _)
      have := Int.natAbs_dvd_natAbs.2 this
      rwa [Int.natAbs_natCast] at this
     have k3 := Nat.dvd_gcd k2 k1
     rw [v.2.reduced] at k3
     have := Nat.le_of_dvd (by decide) k3
     have := hp.1
     omega
    ·exact hvb b' e2' (Int.natCast_dvd_natCast.1 h)
   ·obtain ⟨m, hm⟩ : p ∣ L := by
     obtain ⟨a, b, e1, e2, e3⟩ := hpart t (List.mem_cons_self ..)
     refine Classical.byContradiction fun hn => hB ⟨t, List.mem_cons_self .., fun b' e' hd => hn ?_⟩
     rw [e']
     exact Nat.dvd_trans hd (Nat.dvd_mul_left _ _)
    have p0 : 0 < p := by
     have := hp.1
     omega
    have hm2 : L ∣ m := by
     refine l3 m (Nat.one_dvd m) fun v hv => ?_
     refine Classical.byContradiction fun hn => hB ⟨v, hv, fun b e hd => hn ?_⟩
     obtain ⟨y, rfl⟩ := hd
     refine ⟨y, ?_⟩
     rw [hm] at e
     have : p * m = p * (v.2.den * y) := by rw [e]; grind
     exact Nat.eq_of_mul_eq_mul_left p0 this
    have m0 : 0 < m := by
     rcases Nat.eq_zero_or_pos m with h | h
     ·rw [h] at hm
      omega
     ·exact h
    exact pr_not_one hp m0 (by rw [← hm]; exact hm2)
  ·have hG2 : p * G ∣ G := by
    refine g3 (p * G) (Nat.dvd_zero _) fun u hu => ?_
    refine Classical.byContradiction fun hn => hA ⟨u, hu, fun a e hd => hn ?_⟩
    obtain ⟨y, rfl⟩ := hd
    refine ⟨y.natAbs, ?_⟩
    rw [e, Int.natAbs_mul, Int.natAbs_mul, Int.natAbs_natCast, Int.natAbs_natCast]
    grind
   exact pr_not_one hp hG hG2
 ·unfold scaleL at e
  rw [List.map_cons] at e
  have := (List.cons.inj e).1
  rw [← this]
  show 0 < t.2 * (contP (t :: r))⁻¹
  obtain ⟨a, b, e1, e2, e3⟩ := hpart t (List.mem_cons_self ..)
  conv => rhs; arg 1; rw [e3]
  rw [Rat.mul_assoc, Rat.mul_inv_cancel _ c0, Rat.mul_one]
  have hb : 0 < b := by
   rcases Nat.eq_zero_or_pos b with h | h
   ·rw [h] at e2
    omega
   ·exact h
  have hab : 0 < a * b * sgQ t.2 := by
   have hG' : (0 : Int) < G := by omega
   have hb' : (0 : Int) < b := by omega
   unfold sgQ at hs ⊢
   split
   ·rename_i hneg
    rw [e1] at hneg
    have ha : a < 0 := by
     refine Classical.byContradiction fun h => ?_
     have := Int.mul_nonneg (Int.le_of_lt hG') (Int.not_lt.1 h)
     omega
    have := Int.mul_neg_of_neg_of_pos ha hb'
    omega
   ·rename_i hpos
    rw [Int.mul_one]
    rw [e1] at hpos tn
    have ha : 0 < a := by
     refine Classical.byContradiction fun h => ?_
     have := Int.mul_nonneg (Int.le_of_lt hG') (show 0 ≤ -a by omega)
     rw [Int.mul_neg] at this
     have : (G : Int) * a = 0 := by omega
     exact tn this
    exact Int.mul_pos ha hb'
  exact Rat.intCast_lt_intCast.2 hab
 ·rw [scaleL_two, Rat.inv_mul_cancel _ c0, scaleL_one]
end Go.Proofs.YthcccdjfedbnfaaGreatDoor.Pol
namespace Go.Proofs.YthcccdjfedbnfaaGreatDoor.Pol
def primP (P : List Tm) : List Tm := scaleP (1 / contP P) P
theorem contP_nil : contP [] = 0 := rfl
theorem contP_ne {P : List Tm} (hP : Canon P) (hne : P ≠ []) : contP P ≠ 0 := (contP_is hP hne).1
theorem primP_is {P : List Tm} (hP : Canon P) (hne : P ≠ []) : Prm (primP P) ∧ Canon (primP P) ∧ P = scaleP (contP P) (primP P) := by
 obtain ⟨c0, Q, hQ, e⟩ := contP_is hP hne
 have cQ := IsC.canon c0 hP e
 have hq : primP P = Q := by
  refine canon_same (scaleP_canon _ _) cQ fun f => ?_
  have h1 : ev P f = contP P * ev Q f := by conv => lhs; rw [e, ev_scaleL]
  unfold primP
  rw [ev_scaleP, h1]
  grind
 rw [hq]
 exact ⟨hQ, cQ, by rw [scaleP_L c0 cQ]; exact e⟩
theorem contP_eq {P : List Tm} {c : Rat} (hP : Canon P) (h : IsC P c) : contP P = c := by
 refine IsC.uniq (contP_is hP fun e => ?_) h
 obtain ⟨_, Q, hQ, e2⟩ := h
 rw [e] at e2
 match Q, hQ, e2 with
 | [], hQ, _ => exact hQ.some rfl
 | _ :: _, _, e2 => cases e2
theorem contP_prm {Q : List Tm} (hQ : Canon Q) (h : Prm Q) : contP Q = 1 := contP_eq hQ ⟨by decide, Q, h, (scaleL_one Q).symm⟩
theorem primP_prm {Q : List Tm} (hQ : Canon Q) (h : Prm Q) : primP Q = Q := by
 unfold primP
 rw [contP_prm hQ h]
 refine canon_same (scaleP_canon _ _) hQ fun f => ?_
 rw [ev_scaleP]
 grind
theorem contP_scale {P : List Tm} (hP : Canon P) {c : Rat} (hc : c ≠ 0) : contP (scaleP c P) = contP P * c := by
 by_cases hne : P = []
 ·subst hne
  rw [show scaleP c [] = [] from rfl, contP_nil, Rat.zero_mul]
 ·exact contP_eq (scaleP_canon _ _) ((contP_is hP hne).scale hP hc)
theorem primP_nil : primP [] = [] := rfl
theorem primP_scale {P : List Tm} (hP : Canon P) {c : Rat} (hc : c ≠ 0) : primP (scaleP c P) = primP P := by
 by_cases hne : P = []
 ·subst hne; rfl
 ·have h0 := contP_ne hP hne
  unfold primP
  rw [contP_scale hP hc]
  refine canon_same (scaleP_canon _ _) (scaleP_canon _ _) fun f => ?_
  rw [ev_scaleP, ev_scaleP, ev_scaleP]
  grind
theorem mulP_nil_left (Q : List Tm) : mulP [] Q = [] := rfl
theorem mulP_nil_right (P : List Tm) : mulP P [] = [] := by rw [mulP_comm]; rfl
theorem contP_mul {P Q : List Tm} (hP : Canon P) (hQ : Canon Q) : contP (mulP P Q) = contP P * contP Q := by
 by_cases h1 : P = []
 ·subst h1; rw [mulP_nil_left, contP_nil, Rat.zero_mul]
 by_cases h2 : Q = []
 ·subst h2; rw [mulP_nil_right, contP_nil, Rat.mul_zero]
 exact contP_eq (mulP_canon _ _) ((contP_is hP h1).mul hP hQ (contP_is hQ h2))
theorem primP_mul {P Q : List Tm} (hP : Canon P) (hQ : Canon Q) : primP (mulP P Q) = mulP (primP P) (primP Q) := by
 by_cases h1 : P = []
 ·subst h1; rfl
 by_cases h2 : Q = []
 ·subst h2
  rw [mulP_nil_right, primP_nil, mulP_nil_right]
 ·have e1 := contP_ne hP h1
  have e2 := contP_ne hQ h2
  unfold primP
  rw [contP_mul hP hQ]
  refine canon_same (scaleP_canon _ _) (mulP_canon _ _) fun f => ?_
  rw [ev_scaleP, ev_mulP, ev_mulP, ev_scaleP]
  have : (fun a : Mo => ev (scaleP (1 / contP Q) Q) (fun b => f (a.mul b))) = fun a : Mo => (1 / contP Q) * ev Q (fun b => f (a.mul b)) := funext fun a => ev_scaleP _ _ _
  rw [this, ev_smul]
  grind
end Go.Proofs.YthcccdjfedbnfaaGreatDoor.Pol
