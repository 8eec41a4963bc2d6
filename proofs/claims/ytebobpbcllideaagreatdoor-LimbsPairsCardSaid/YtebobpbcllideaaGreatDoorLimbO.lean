/-
  The walk of the document's answer for limbs: more.
-/
import Derived.Test.YtebobpbcllideaaGreatDoorLimbN
namespace Go.Proofs.YtebobpbcllideaaGreatDoor.Limb
open Go.RowKit Go.Sort Go.Fresh

set_option maxRecDepth 100000 in
set_option maxHeartbeats 4000000 in
theorem more_any (x y : Option Addr) (X Y cx cy M : Nat) (fx fy : Nat → Int) (w : World) (hx : Rd w x X fx) (hy : Rd w y Y fy) (dx : Dig fx X) (dy : Dig fy Y) (hX : X ≤ 100000000) (hY : Y ≤ 100000000) (hM1 : X ≤ M) (hM2 : Y ≤ M) (hM3 : M = X ∨ M = Y) :
    Calls Tryz.prog 39 #[.slice x X cx, .slice y Y cy] w fun e w' => ∃ v K, e = .returned v ∧ M ≤ K ∧ K ≤ M + 1 ∧ cS (fun k => part fx X k + part fy Y k) K = 0 ∧ w'.ownsRow w.heap.size 57 1 v K (ucs (cD fun k => part fx X k + part fy Y k) K) ∧ Below w.heap.size w w' := by
  obtain ⟨i0, hi, hz0, hz1, hz2⟩ := info_parts info32
  obtain ⟨F, hF⟩ : ∃ F : Nat → Int, F = fun k => part fx X k + part fy Y k := ⟨_, rfl⟩
  rw [← hF]
  have HF := Lib.hid hF
  have HR1 := Lib.hid hx; have HR2 := Lib.hid hy; have DX := Lib.hid dx; have DY := Lib.hid dy
  have BD := Lib.hid (show ∀ i, 0 * 999999999 ≤ F i ∧ F i ≤ 2 * 999999999 from fun i => by
    simp only [HF.out, part]
    split <;> split
    · have := dx i (by omega); have := dy i (by omega); omega
    · have := dx i (by omega); omega
    · have := dy i (by omega); omega
    · omega)
  clear hx hy dx dy hF
  go_enter Tryz.func39, Tryz.ntmps39
  go_wp2_with fail
  go_loopw [5, 6, 7] (fun v ow i wr => ∃ k : Nat, k ≤ M + 1 ∧ (k = M + 1 → cS F k = 0) ∧ i = .int .i64 k ∧ ow = .int .u32 (cS F k) ∧ wr.ownsRow w.heap.size 57 1 v k (ucs (cD F) k) ∧ Below w.heap.size w wr) (fun _ _ i _ => M + 1 - (intOf i).toNat)
  case atStart => exact ⟨0, by omega, fun h => by omega, rfl, rfl, Own.row_nil _ _ _, by (repeat' (first | (with_reducible exact Below.refl _ _) | (with_reducible assumption) | (with_reducible refine Below.alloc ?_ ?_ _) | (with_reducible refine Below.drew ?_) | (with_reducible refine bdrewN ?_ _) | (with_reducible refine Below.setCell ?_ ?_ _) | (with_reducible refine Below.frame ?_ _) | go_size))⟩
  case round =>
    obtain ⟨k, hk, hkM, rfl, rfl, hO, hG⟩ := hrel
    have HO := Lib.hid hO; have HG := Lib.hid hG
    have hcs := cS_bd (f := F) (lo := 0) (hi := 2) (n := k) (by omega) (by omega) (fun i _ => BD.out i)
    have hcs2 := cS_bd (f := F) (lo := 0) (hi := 2) (n := k + 1) (by omega) (by omega) (fun i _ => BD.out i)
    obtain ⟨q, hq⟩ : ∃ q, q = cS F k := ⟨_, rfl⟩
    rw [← hq]
    clear hO hG
    by_cases hkX : k < X
    · by_cases hkY : k < Y
      · have hFv : F k = fx k + fy k := by simp only [HF.out, part, if_pos hkX, if_pos hkY]
        have hfx := DX.out k hkX
        obtain ⟨xb, xo, rfl, hc⟩ := (HR1.out.below HG.out).cells (by omega)
        have c1 : wr.cell? ⟨xb, xo + k, none⟩ = some (.int .u32 (fx k)) := hc k hkX
        clear hc
        have u1 := IntWalk.u32_in (q + fx k) (by omega)
        have hfy := DY.out k hkY
        obtain ⟨yb, yo, rfl, hc⟩ := (HR2.out.below HG.out).cells (by omega)
        have c2 : wr.cell? ⟨yb, yo + k, none⟩ = some (.int .u32 (fy k)) := hc k hkY
        clear hc
        have u2 := IntWalk.u32_in (q + fx k + fy k) (by omega)
        have e : q + fx k + fy k = F k + cS F k := by omega
        have t1 : (q + fx k + fy k).tmod 1000000000 = cD F k := by rw [Int.tmod_eq_emod_of_nonneg (by omega), e]; rfl
        have t2 : (q + fx k + fy k).tdiv 1000000000 = cS F (k + 1) := by rw [Int.tdiv_eq_ediv_of_nonneg (by omega), e]; rfl
        have hcd := cD_Dig F (k + 1) k (by omega)
        have u4 := IntWalk.u32_in (cD F k) (by omega)
        have hl : k + 1 = M + 1 → cS F (k + 1) = 0 := fun h => by rw [cS]; omega
        have HLs := Lib.hid hl
        clear e hq hFv hl
        go_wp2_with (first | (at_builtin; refine wpList_append_own _ rfl _ _ 22 rfl w.heap.size 57 i0 (.int .u32 0) 1 4 Tryz.underlying22 hi hz0 hz1 hz2 rfl (by decide) _ _ _ rfl (HO.out.alloc _) ⟨wr.heap.size, 0, none⟩ 1 1 [.int .u32 (cD F k)] rfl rfl ?c1 ?c2 ?c3 ?c4 ?c5 ?_))
        case c1 =>
          intro t u ht
          match t, ht with
          | 0, ht => simp at ht; subst ht; simp [Addr.add]
        case c2 => intro u hu; simp at hu; subst hu; rfl
        case c3 => unfold maxLen; omega
        case c4 => omega
        case c5 => have := HG.out.size; simp; omega
        intro v' w1 hown' hgrow _
        have O2 := Lib.hid (show w1.ownsRow w.heap.size 57 1 v' (k + 1) (ucs (cD F) (k + 1)) by rw [ucs_succ]; exact hown')
        have G2 := Lib.hid ((HG.out.alloc HG.out.size _).grown hgrow (by have := HG.out.size; simp; omega) (fun g hg => ownBlock_ge HO.out hg))
        clear hown' hgrow
        go_wp2_with fail
        go_roundw
        case rel => exact ⟨k + 1, by omega, HLs.out, by go_num, rfl, O2.out, G2.out⟩
        case measure => simp [intOf]; omega
      · have hFv : F k = fx k + 0 := by simp only [HF.out, part, if_pos hkX, if_neg hkY]
        have hfx := DX.out k hkX
        obtain ⟨xb, xo, rfl, hc⟩ := (HR1.out.below HG.out).cells (by omega)
        have c1 : wr.cell? ⟨xb, xo + k, none⟩ = some (.int .u32 (fx k)) := hc k hkX
        clear hc
        have u1 := IntWalk.u32_in (q + fx k) (by omega)
        have e : q + fx k = F k + cS F k := by omega
        have t1 : (q + fx k).tmod 1000000000 = cD F k := by rw [Int.tmod_eq_emod_of_nonneg (by omega), e]; rfl
        have t2 : (q + fx k).tdiv 1000000000 = cS F (k + 1) := by rw [Int.tdiv_eq_ediv_of_nonneg (by omega), e]; rfl
        have hcd := cD_Dig F (k + 1) k (by omega)
        have u4 := IntWalk.u32_in (cD F k) (by omega)
        have hl : k + 1 = M + 1 → cS F (k + 1) = 0 := fun h => by rw [cS]; omega
        have HLs := Lib.hid hl
        clear e hq hFv hl
        go_wp2_with (first | (at_builtin; refine wpList_append_own _ rfl _ _ 22 rfl w.heap.size 57 i0 (.int .u32 0) 1 4 Tryz.underlying22 hi hz0 hz1 hz2 rfl (by decide) _ _ _ rfl (HO.out.alloc _) ⟨wr.heap.size, 0, none⟩ 1 1 [.int .u32 (cD F k)] rfl rfl ?c1 ?c2 ?c3 ?c4 ?c5 ?_))
        case c1 =>
          intro t u ht
          match t, ht with
          | 0, ht => simp at ht; subst ht; simp [Addr.add]
        case c2 => intro u hu; simp at hu; subst hu; rfl
        case c3 => unfold maxLen; omega
        case c4 => omega
        case c5 => have := HG.out.size; simp; omega
        intro v' w1 hown' hgrow _
        have O2 := Lib.hid (show w1.ownsRow w.heap.size 57 1 v' (k + 1) (ucs (cD F) (k + 1)) by rw [ucs_succ]; exact hown')
        have G2 := Lib.hid ((HG.out.alloc HG.out.size _).grown hgrow (by have := HG.out.size; simp; omega) (fun g hg => ownBlock_ge HO.out hg))
        clear hown' hgrow
        go_wp2_with fail
        go_roundw
        case rel => exact ⟨k + 1, by omega, HLs.out, by go_num, rfl, O2.out, G2.out⟩
        case measure => simp [intOf]; omega
    · by_cases hkY : k < Y
      · have hFv : F k = 0 + fy k := by simp only [HF.out, part, if_neg hkX, if_pos hkY]
        have hfy := DY.out k hkY
        obtain ⟨yb, yo, rfl, hc⟩ := (HR2.out.below HG.out).cells (by omega)
        have c2 : wr.cell? ⟨yb, yo + k, none⟩ = some (.int .u32 (fy k)) := hc k hkY
        clear hc
        have u2 := IntWalk.u32_in (q + fy k) (by omega)
        have e : q + fy k = F k + cS F k := by omega
        have t1 : (q + fy k).tmod 1000000000 = cD F k := by rw [Int.tmod_eq_emod_of_nonneg (by omega), e]; rfl
        have t2 : (q + fy k).tdiv 1000000000 = cS F (k + 1) := by rw [Int.tdiv_eq_ediv_of_nonneg (by omega), e]; rfl
        have hcd := cD_Dig F (k + 1) k (by omega)
        have u4 := IntWalk.u32_in (cD F k) (by omega)
        have hl : k + 1 = M + 1 → cS F (k + 1) = 0 := fun h => by rw [cS]; omega
        have HLs := Lib.hid hl
        clear e hq hFv hl
        go_wp2_with (first | (at_builtin; refine wpList_append_own _ rfl _ _ 22 rfl w.heap.size 57 i0 (.int .u32 0) 1 4 Tryz.underlying22 hi hz0 hz1 hz2 rfl (by decide) _ _ _ rfl (HO.out.alloc _) ⟨wr.heap.size, 0, none⟩ 1 1 [.int .u32 (cD F k)] rfl rfl ?c1 ?c2 ?c3 ?c4 ?c5 ?_))
        case c1 =>
          intro t u ht
          match t, ht with
          | 0, ht => simp at ht; subst ht; simp [Addr.add]
        case c2 => intro u hu; simp at hu; subst hu; rfl
        case c3 => unfold maxLen; omega
        case c4 => omega
        case c5 => have := HG.out.size; simp; omega
        intro v' w1 hown' hgrow _
        have O2 := Lib.hid (show w1.ownsRow w.heap.size 57 1 v' (k + 1) (ucs (cD F) (k + 1)) by rw [ucs_succ]; exact hown')
        have G2 := Lib.hid ((HG.out.alloc HG.out.size _).grown hgrow (by have := HG.out.size; simp; omega) (fun g hg => ownBlock_ge HO.out hg))
        clear hown' hgrow
        go_wp2_with fail
        go_roundw
        case rel => exact ⟨k + 1, by omega, HLs.out, by go_num, rfl, O2.out, G2.out⟩
        case measure => simp [intOf]; omega
      · by_cases hq0 : q > 0
        · have hkM2 : k ≤ M := by
            rcases Nat.lt_or_ge M k with h | h
            · have := hkM (by omega); omega
            · exact h
          have hFv : F k = 0 + 0 := by simp only [HF.out, part, if_neg hkX, if_neg hkY]
          have e : q = F k + cS F k := by omega
          have t1 : (q).tmod 1000000000 = cD F k := by rw [Int.tmod_eq_emod_of_nonneg (by omega), e]; rfl
          have t2 : (q).tdiv 1000000000 = cS F (k + 1) := by rw [Int.tdiv_eq_ediv_of_nonneg (by omega), e]; rfl
          have hcd := cD_Dig F (k + 1) k (by omega)
          have u4 := IntWalk.u32_in (cD F k) (by omega)
          have hl : k + 1 = M + 1 → cS F (k + 1) = 0 := fun h => by rw [cS]; omega
          have hgt : q > 0 := hq0
          have HLs := Lib.hid hl
          clear e hq hFv hl
          go_wp2_with (first | (at_builtin; refine wpList_append_own _ rfl _ _ 22 rfl w.heap.size 57 i0 (.int .u32 0) 1 4 Tryz.underlying22 hi hz0 hz1 hz2 rfl (by decide) _ _ _ rfl (HO.out.alloc _) ⟨wr.heap.size, 0, none⟩ 1 1 [.int .u32 (cD F k)] rfl rfl ?c1 ?c2 ?c3 ?c4 ?c5 ?_))
          case c1 =>
            intro t u ht
            match t, ht with
            | 0, ht => simp at ht; subst ht; simp [Addr.add]
          case c2 => intro u hu; simp at hu; subst hu; rfl
          case c3 => unfold maxLen; omega
          case c4 => omega
          case c5 => have := HG.out.size; simp; omega
          intro v' w1 hown' hgrow _
          have O2 := Lib.hid (show w1.ownsRow w.heap.size 57 1 v' (k + 1) (ucs (cD F) (k + 1)) by rw [ucs_succ]; exact hown')
          have G2 := Lib.hid ((HG.out.alloc HG.out.size _).grown hgrow (by have := HG.out.size; simp; omega) (fun g hg => ownBlock_ge HO.out hg))
          clear hown' hgrow
          go_wp2_with fail
          go_roundw
          case rel => exact ⟨k + 1, by omega, HLs.out, by go_num, rfl, O2.out, G2.out⟩
          case measure => simp [intOf]; omega
        · have hE := Lib.hid (And.intro (show M ≤ k by omega) (And.intro (show k ≤ M + 1 by omega) (show cS F k = 0 by omega)))
          have hn0 : ¬ q > 0 := hq0
          obtain rfl : q = 0 := by omega
          clear hq hn0 hq0 hkM
          go_wp2_with fail
          go_ret
          exact ⟨_, k, rfl, hE.out.1, hE.out.2.1, hE.out.2.2, HO.out, HG.out⟩
end Go.Proofs.YtebobpbcllideaaGreatDoor.Limb
