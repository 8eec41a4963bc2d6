/-
  The walks of the document's answer for limbs: less, more.
-/
import Derived.Test.YtebobpbcllideaaGreatDoorLimbM
namespace Go.Proofs.YtebobpbcllideaaGreatDoor.Limb
open Go.RowKit Go.Sort Go.Fresh

/-- One step of borrowing, as the reference does it: n = f k + 1000000000 + cS f k. -/
theorem less_step (f : Nat → Int) (k : Nat) (h1 : -999999999 ≤ f k ∧ f k ≤ 999999999) (h2 : -1 ≤ cS f k ∧ cS f k ≤ 0) :
    (f k + 1000000000 + cS f k) % 1000000000 = cD f k ∧ 1 - (f k + 1000000000 + cS f k) / 1000000000 = - cS f (k + 1) := by
  unfold cD; rw [cS]; omega

theorem cS_less {f : Nat → Int} {n : Nat} (h : ∀ i, i < n → -999999999 ≤ f i ∧ f i ≤ 999999999) : -1 ≤ cS f n ∧ cS f n ≤ 0 := by
  induction n with
  | zero => show -1 ≤ (0 : Int) ∧ (0 : Int) ≤ 0; omega
  | succ n ih =>
    have h1 := ih fun i hi => h i (by omega)
    have h2 := h n (by omega)
    rw [cS]; omega
theorem ownBlock_ge {w : World} {base T n : Nat} {v : Value} {xs : List Value} (h : w.ownsRow base T 1 v n xs) {g : Nat} (hg : v.ownBlock = some g) : base ≤ g := by
  rcases h.2 with ⟨rfl, _⟩ | ⟨g', cap, cur, rfl, hb, _⟩
  · cases hg
  · simp only [Value.ownBlock, Option.some.injEq] at hg; omega

set_option maxRecDepth 100000 in
set_option maxHeartbeats 2000000 in
theorem less_any (x y : Option Addr) (X Y cx cy : Nat) (fx fy : Nat → Int) (w : World) (hx : Rd w x X fx) (hy : Rd w y Y fy) (dx : Dig fx X) (dy : Dig fy Y) (hX : X ≤ 100000000) (hYX : Y ≤ X) :
    Calls Tryz.prog 40 #[.slice x X cx, .slice y Y cy] w fun e w' => ∃ v, e = .returned v ∧ w'.ownsRow w.heap.size 57 1 v X (ucs (cD fun k => part fx X k - part fy Y k) X) ∧ Below w.heap.size w w' := by
  obtain ⟨i0, hi, hz0, hz1, hz2⟩ := info_parts info32
  obtain ⟨F, hF⟩ : ∃ F : Nat → Int, F = fun k => part fx X k - part fy Y k := ⟨_, rfl⟩
  rw [← hF]
  have HF := Lib.hid hF
  have HR1 := Lib.hid hx; have HR2 := Lib.hid hy; have DX := Lib.hid dx; have DY := Lib.hid dy
  clear hx hy dx dy hF
  go_enter Tryz.func40, Tryz.ntmps40
  go_wp2_with fail
  go_loopw [5, 6, 7] (fun v ow i wr => ∃ k : Nat, k ≤ X ∧ i = .int .i64 k ∧ ow = .int .u32 (- cS F k) ∧ wr.ownsRow w.heap.size 57 1 v k (ucs (cD F) k) ∧ Below w.heap.size w wr) (fun _ _ i _ => X - (intOf i).toNat)
  case atStart => exact ⟨0, by omega, rfl, rfl, Own.row_nil _ _ _, by (repeat' (first | (with_reducible exact Below.refl _ _) | (with_reducible assumption) | (with_reducible refine Below.alloc ?_ ?_ _) | (with_reducible refine Below.drew ?_) | (with_reducible refine bdrewN ?_ _) | (with_reducible refine Below.setCell ?_ ?_ _) | (with_reducible refine Below.frame ?_ _) | go_size))⟩
  case round =>
    obtain ⟨k, hk, rfl, rfl, hO, hG⟩ := hrel
    have HO := Lib.hid hO; have HG := Lib.hid hG
    clear hO hG
    by_cases hkX : k < X
    · obtain ⟨xb, xo, rfl, hc⟩ := (HR1.out.below HG.out).cells (by omega)
      have c1 : wr.cell? ⟨xb, xo + k, none⟩ = some (.int .u32 (fx k)) := hc k hkX
      have hfx := DX.out k hkX
      have bd : ∀ i, i < X → -999999999 ≤ F i ∧ F i ≤ 999999999 := fun i hi => by
        have h1 := DX.out i hi
        simp only [HF.out, part, if_pos hi]
        split
        · have h2 := DY.out i (by omega); omega
        · omega
      have hcs := cS_less (f := F) (n := k) fun i hi => bd i (by omega)
      have hFk := bd k hkX
      obtain ⟨E1, E2⟩ := less_step F k (by omega) hcs
      have E2 := Lib.hid E2
      obtain ⟨q, hq⟩ : ∃ q, q = - cS F k := ⟨_, rfl⟩
      have hqb : 0 ≤ q ∧ q ≤ 1 := by omega
      have u1 := IntWalk.u32_in (fx k + 1000000000) (by omega)
      have u2 := IntWalk.u32_in (fx k + 1000000000 - q) (by omega)
      rw [← hq]
      by_cases hkY : k < Y
      · have hfy := DY.out k hkY
        have hFv : F k = fx k - fy k := by simp only [HF.out, part, if_pos hkX, if_pos hkY]
        obtain ⟨yb, yo, rfl, hc2⟩ := (HR2.out.below HG.out).cells (by omega)
        have c2 : wr.cell? ⟨yb, yo + k, none⟩ = some (.int .u32 (fy k)) := hc2 k hkY
        have u3 := IntWalk.u32_in (fx k + 1000000000 - q - fy k) (by omega)
        have t1 : (fx k + 1000000000 - q - fy k).tmod 1000000000 = cD F k := by rw [Int.tmod_eq_emod_of_nonneg (by omega), ← E1]; congr 1; omega
        have t2 : (fx k + 1000000000 - q - fy k).tdiv 1000000000 = 1 + cS F (k + 1) := by
          have h2 := E2.out
          have e : fx k + 1000000000 - q - fy k = F k + 1000000000 + cS F k := by omega
          rw [Int.tdiv_eq_ediv_of_nonneg (by omega), e]
          omega
        have hcs2 := cS_less (f := F) (n := k + 1) fun i hi => bd i (by omega)
        have hcd := cD_Dig F (k + 1) k (by omega)
        have u4 := IntWalk.u32_in (cD F k) (by omega)
        have u5 := IntWalk.u32_in (1 + cS F (k + 1)) (by omega)
        have u6 := IntWalk.u32_in (1 - (1 + cS F (k + 1))) (by omega)
        have ez : 1 - (1 + cS F (k + 1)) = - cS F (k + 1) := by omega
        rw [ez] at u6
        clear hc hc2 bd E1 hq
        go_wp2_with (first | (at_builtin; refine wpList_append_own _ rfl _ _ 22 rfl w.heap.size 57 i0 (.int .u32 0) 1 4 Tryz.underlying22 hi hz0 hz1 hz2 rfl (by decide) _ _ _ rfl (HO.out.alloc _) ⟨wr.heap.size, 0, none⟩ 1 1 [.int .u32 (cD F k)] rfl rfl ?c1 ?c2 ?c3 ?c4 ?c5 ?_))
        case c1 =>
          intro t u ht
          match t, ht with
          | 0, ht => simp at ht; subst ht; simp [Addr.add]
        case c2 => intro u hu; simp at hu; subst hu; rfl
        case c3 => unfold maxLen; omega
        case c4 => omega
        case c5 => have := HG.out.size; simp; omega
        intro v' w1 hown' hgrow _
        have O2 := Lib.hid (show w1.ownsRow w.heap.size 57 1 v' (k + 1) (ucs (cD F) (k + 1)) by rw [ucs_succ]; exact hown')
        have G2 := Lib.hid ((HG.out.alloc HG.out.size _).grown hgrow (by have := HG.out.size; simp; omega) (fun g hg => ownBlock_ge HO.out hg))
        clear hown' hgrow
        go_wp2_with fail
        go_roundw
        case rel => exact ⟨k + 1, by omega, by go_num, rfl, O2.out, G2.out⟩
        case measure => simp [intOf]; omega
      · have hFv : F k = fx k := by simp only [HF.out, part, if_pos hkX, if_neg hkY]; omega
        have t1 : (fx k + 1000000000 - q).tmod 1000000000 = cD F k := by rw [Int.tmod_eq_emod_of_nonneg (by omega), ← E1]; congr 1; omega
        have t2 : (fx k + 1000000000 - q).tdiv 1000000000 = 1 + cS F (k + 1) := by
          have h2 := E2.out
          have e : fx k + 1000000000 - q = F k + 1000000000 + cS F k := by omega
          rw [Int.tdiv_eq_ediv_of_nonneg (by omega), e]
          omega
        have hcs2 := cS_less (f := F) (n := k + 1) fun i hi => bd i (by omega)
        have hcd := cD_Dig F (k + 1) k (by omega)
        have u4 := IntWalk.u32_in (cD F k) (by omega)
        have u5 := IntWalk.u32_in (1 + cS F (k + 1)) (by omega)
        have u6 := IntWalk.u32_in (1 - (1 + cS F (k + 1))) (by omega)
        have ez : 1 - (1 + cS F (k + 1)) = - cS F (k + 1) := by omega
        rw [ez] at u6
        clear hc bd E1 hq
        go_wp2_with (first | (at_builtin; refine wpList_append_own _ rfl _ _ 22 rfl w.heap.size 57 i0 (.int .u32 0) 1 4 Tryz.underlying22 hi hz0 hz1 hz2 rfl (by decide) _ _ _ rfl (HO.out.alloc _) ⟨wr.heap.size, 0, none⟩ 1 1 [.int .u32 (cD F k)] rfl rfl ?c1 ?c2 ?c3 ?c4 ?c5 ?_))
        case c1 =>
          intro t u ht
          match t, ht with
          | 0, ht => simp at ht; subst ht; simp [Addr.add]
        case c2 => intro u hu; simp at hu; subst hu; rfl
        case c3 => unfold maxLen; omega
        case c4 => omega
        case c5 => have := HG.out.size; simp; omega
        intro v' w1 hown' hgrow _
        have O2 := Lib.hid (show w1.ownsRow w.heap.size 57 1 v' (k + 1) (ucs (cD F) (k + 1)) by rw [ucs_succ]; exact hown')
        have G2 := Lib.hid ((HG.out.alloc HG.out.size _).grown hgrow (by have := HG.out.size; simp; omega) (fun g hg => ownBlock_ge HO.out hg))
        clear hown' hgrow
        go_wp2_with fail
        go_roundw
        case rel => exact ⟨k + 1, by omega, by go_num, rfl, O2.out, G2.out⟩
        case measure => simp [intOf]; omega
    · obtain rfl : k = X := by omega
      go_wp2_with fail
      go_ret
      exact ⟨_, rfl, HO.out, HG.out⟩
end Go.Proofs.YtebobpbcllideaaGreatDoor.Limb
