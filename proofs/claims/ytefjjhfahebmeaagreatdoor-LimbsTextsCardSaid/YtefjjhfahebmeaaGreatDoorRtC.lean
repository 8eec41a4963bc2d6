/-
  The walks of Div, of limbs and of the document's answer, where it is refused.
-/
import Derived.Test.YtefjjhfahebmeaaGreatDoorRtB
import Derived.Laws.CopyRow
import Derived.Deep.DeepCutAuto
import Derived.Deep.RegionHeld3
import Derived.WalkMore
import Derived.Laws.MakeOwn
import Derived.RegionTactic
import Derived.Deep.CutBlock
set_option linter.unusedSimpArgs false
set_option linter.unusedVariables false
namespace Go.Proofs.YtefjjhfahebmeaaGreatDoor.Limb
open Go.RowKit Go.Sort Go.Fresh
theorem pw_div_succ (M k : Nat) : M / pw k / 1000000000 = M / pw (k + 1) := by rw [pw_succ, Nat.div_div_eq_div_mul]
theorem pw_div_pos {M k : Nat} : 0 < M / pw k ↔ k < lenB M := by
  constructor
  · intro h
    refine lenB_ge ?_
    rcases Nat.lt_or_ge M (pw k) with h1 | h1
    · rw [Nat.div_eq_of_lt h1] at h; omega
    · exact h1
  · intro h
    exact Nat.div_pos (pw_le_of_lenB h) (pw_pos k)
theorem u64_of_neg {M : Nat} (h0 : 0 < M) (h1 : M ≤ 9223372036854775808) : ∃ U, IntKind.u64.wrap (-(M : Int)) = U ∧ IntKind.u64.wrap (-U) = (M : Int) := by
  refine ⟨18446744073709551616 - (M : Int), ?_, ?_⟩
  · show (-(M : Int)) % 18446744073709551616 = _
    omega
  · show (-(18446744073709551616 - (M : Int))) % 18446744073709551616 = _
    omega
theorem len3 {M : Nat} (h : M ≤ 9223372036854775808) : lenB M ≤ 3 := lenB_le (Nat.lt_of_le_of_lt h (by decide))
theorem neg_canon (M : Nat) (h0 : 0 < M) : (true && decide (0 < lenB M)) = decide (-(M : Int) < 0) := by
  have h1 : 0 < lenB M := by
    have := lenB_pos (m := M) (by omega); omega
  rw [decide_eq_true h1, decide_eq_true (show -(M : Int) < 0 by omega)]; rfl
theorem pos_canon (M : Nat) : (false && decide (0 < lenB M)) = decide ((M : Int) < 0) := by
  rw [decide_eq_false (show ¬ (M : Int) < 0 by omega)]; rfl
set_option maxRecDepth 100000 in
set_option maxHeartbeats 2000000 in
theorem of64_pos (M : Nat) (w : World) (h : M ≤ 9223372036854775807) : Calls Tryz.prog 13 #[.int .i64 (M : Int)] w (ResN w (M : Int)) := by
  obtain ⟨i0, hi, hz0, hz1, hz2⟩ := info_parts info32
  have e1 := IntWalk.u64_in (M : Int) (by omega)
  have hlt : ¬ (M : Int) < 0 := by omega
  have hge : (0 : Int) ≤ (M : Int) := by omega
  have HM := Lib.hid (show M ≤ 9223372036854775808 by omega)
  clear h
  go_enter Tryz.func13, Tryz.ntmps13
  have HLN := Lib.hid (len3 HM.out)
  go_wp2_with fail
  go_loopw [3, 4] (fun x v wr => ∃ k : Nat, k ≤ lenB M ∧ x = .int .u64 ((M / pw k : Nat) : Int) ∧ wr.ownsRow (w.heap.size + 1) 54 1 v k (ucs (dgi M) k) ∧ Below w.heap.size w wr ∧ Bx wr w.heap.size 24 (.bool false) (.slice none 0 0)) (fun x _ _ => (intOf x).toNat)
  case atStart => exact ⟨0, Nat.zero_le _, by rw [pw_zero, Nat.div_one], Own.row_nil _ _ _, by (repeat' (first | (with_reducible exact Below.refl _ _) | (with_reducible assumption) | (with_reducible refine Below.alloc ?_ ?_ _) | (with_reducible refine Below.drew ?_) | (with_reducible refine bdrewN ?_ _) | (with_reducible refine Below.setCell ?_ ?_ _) | (with_reducible refine Below.frame ?_ _) | go_size)), Bx.new _ _ _ _⟩
  case round =>
    obtain ⟨k, hk, rfl, hO, hG, hB⟩ := hrel
    obtain ⟨X, hX⟩ : ∃ X, X = M / pw k := ⟨_, rfl⟩
    have HXM := Lib.hid hX
    have HXle := Lib.hid (show X ≤ 9223372036854775808 by rw [hX]; exact Nat.le_trans (Nat.div_le_self _ _) HM.out)
    have HP := Lib.hid (pw_div_pos (M := M) (k := k))
    have HD := Lib.hid (pw_div_succ M k)
    rw [← hX] at HP HD ⊢
    have HO := Lib.hid hO; have HG := Lib.hid hG; have HB := Lib.hid hB; have HK := Lib.hid hk
    clear hO hG hB hX hk
    by_cases h0 : 0 < X
    · have hk2 : k < lenB M := HP.out.1 h0
      have t1 : (X : Int).tmod 1000000000 = dgi M k := by
        rw [Int.tmod_eq_emod_of_nonneg (by omega)]
        have hdg : X % 1000000000 = dg M k := by rw [HXM.out]; rfl
        show _ = ((dg M k : Nat) : Int); omega
      obtain ⟨Y, hY⟩ : ∃ Y, Y = M / pw (k + 1) := ⟨_, rfl⟩
      rw [← hY] at HD
      have HY := Lib.hid hY
      clear hY
      have t2 : (X : Int).tdiv 1000000000 = (Y : Int) := by rw [Int.tdiv_eq_ediv_of_nonneg (by omega), ← HD.out]; omega
      have hdb : 0 ≤ dgi M k ∧ dgi M k ≤ 999999999 := by have := dgi_Dig M (k + 1) k (by omega); omega
      have u1 := IntWalk.u32_in (dgi M k) (by omega)
      have u2 := IntWalk.u64_in (dgi M k) (by omega)
      have u3 := IntWalk.u64_in (Y : Int) (by have h9 := HD.out; have := HXle.out; omega)
      have hx0 : 0 < (X : Int) := by omega
      have hL3 := HLN.out
      have HLE := Lib.hid (show Y < X by have h9 := HD.out; omega)
      go_wp2_with (first | (at_builtin; refine wpList_append_own _ rfl _ _ 22 rfl (w.heap.size + 1) 54 i0 (.int .u32 0) 1 4 Tryz.underlying22 hi hz0 hz1 hz2 rfl (by decide) _ _ _ rfl (HO.out.alloc _) ⟨wr.heap.size, 0, none⟩ 1 1 [.int .u32 (dgi M k)] rfl rfl ?c1 ?c2 ?c3 ?c4 ?c5 ?_))
      case c1 =>
        intro t u ht
        match t, ht with
        | 0, ht => simp at ht; subst ht; simp [Addr.add]
      case c2 => intro u hu; simp at hu; subst hu; rfl
      case c3 => unfold maxLen; omega
      case c4 => omega
      case c5 => have := HB.out.lt; simp; omega
      intro v' w1 hown' hgrow _
      have O2 := Lib.hid (show w1.ownsRow (w.heap.size + 1) 54 1 v' (k + 1) (ucs (dgi M) (k + 1)) by rw [ucs_succ]; exact hown')
      have G2 := Lib.hid ((HG.out.alloc HG.out.size _).grown hgrow (by have := HG.out.size; simp; omega) (fun g hg => Nat.le_of_succ_le (ownBlock_ge HO.out hg)))
      have B2 := Lib.hid ((HB.out.alloc (.cells #[.int .u32 (dgi M k)] 54)).of (hgrow.block w.heap.size (HB.out.alloc _).lt (fun e => by have := ownBlock_ge HO.out e.symm; omega)))
      clear hown' hgrow
      go_wp2_with fail
      go_roundw
      case rel => exact ⟨k + 1, by omega, by rw [HY.out], O2.out, G2.out, B2.out⟩
      case measure => simp [intOf]; have h9 := HLE.out; omega
    · obtain rfl : X = 0 := by omega
      obtain rfl : k = lenB M := by have := HK.out; have := mt HP.out.2 (by omega); omega
      obtain ⟨a, cap, rfl, hOw, hcap⟩ := Own.of_row HO.out (fun i hi => by have := dgi_Dig M (lenB M) i hi; omega)
      have HOW := Lib.hid hOw
      have HCP := Lib.hid hcap
      clear h0 hOw hcap
      have hL3 := HLN.out
      have CUT := Lib.hid (cut_any false a (lenB M) cap (dgi M) wr HOW.out.rd (dgi_Dig _ _) (by omega) HOW.out.le HCP.out)
      rw [sumB_dgi, Int.toNat_natCast, pos_canon M] at CUT
      go_wp2_with fail
      refine CUT.out.mono ?_
      rintro e w2 ⟨rfl, hb2⟩
      have B3 := HB.out.below hb2 HB.out.lt
      have HB3 := Lib.hid B3
      have HO3 := Lib.hid (HOW.out.below hb2)
      have HG3 := Lib.hid (HG.out.trans (hb2.mono HG.out.size))
      obtain ⟨b30, b31, b32, b33⟩ := B3.all
      clear B3 hb2 CUT
      go_wp2_with fail
      refine bodyPost_ret (results_cell rfl _ _ _ _ _ _ _ rfl (HB3.out.set _ _) Tryz.underlying24 rfl (by kernel_rfl)) rfl ⟨a, by first | (rw [show ((M : Int)).natAbs = M by omega]; done) | (rw [show ((M : Int)).natAbs = M by omega, decide_eq_true (show -(M : Int) < 0 by omega)]), ?_, ?_, ?_⟩
      · rw [show ((M : Int)).natAbs = M by omega]; exact (((HO3.out.cut (Nat.le_refl _) (fun i _ => rfl)).other (by dsimp only; omega) _).other (by dsimp only; omega) _).mono (by omega)
      · rw [show ((M : Int)).natAbs = M by omega]; intro h; have h1 := HO3.out.le; have h2 := HCP.out h; omega
      · exact (HG3.out.setCell (by dsimp only; omega) _).setCell (by dsimp only; omega) _
set_option maxRecDepth 100000 in
set_option maxHeartbeats 2000000 in
theorem of64_neg (M : Nat) (w : World) (h0 : 0 < M) (h : M ≤ 9223372036854775808) : Calls Tryz.prog 13 #[.int .i64 (-(M : Int))] w (ResN w (-(M : Int))) := by
  obtain ⟨i0, hi, hz0, hz1, hz2⟩ := info_parts info32
  obtain ⟨U, e1, e2⟩ := u64_of_neg h0 h
  have hlt : -(M : Int) < 0 := by omega
  have H0 := Lib.hid h0
  have hp0 : (0 : Int) < (M : Int) := by omega
  have HM := Lib.hid (show M ≤ 9223372036854775808 by omega)
  clear h
  go_enter Tryz.func13, Tryz.ntmps13
  have HLN := Lib.hid (len3 HM.out)
  go_wp2_with fail
  go_loopw [3, 4] (fun x v wr => ∃ k : Nat, k ≤ lenB M ∧ x = .int .u64 ((M / pw k : Nat) : Int) ∧ wr.ownsRow (w.heap.size + 1) 54 1 v k (ucs (dgi M) k) ∧ Below w.heap.size w wr ∧ Bx wr w.heap.size 24 (.bool false) (.slice none 0 0)) (fun x _ _ => (intOf x).toNat)
  case atStart => exact ⟨0, Nat.zero_le _, by rw [pw_zero, Nat.div_one], Own.row_nil _ _ _, by (repeat' (first | (with_reducible exact Below.refl _ _) | (with_reducible assumption) | (with_reducible refine Below.alloc ?_ ?_ _) | (with_reducible refine Below.drew ?_) | (with_reducible refine bdrewN ?_ _) | (with_reducible refine Below.setCell ?_ ?_ _) | (with_reducible refine Below.frame ?_ _) | go_size)), Bx.new _ _ _ _⟩
  case round =>
    obtain ⟨k, hk, rfl, hO, hG, hB⟩ := hrel
    obtain ⟨X, hX⟩ : ∃ X, X = M / pw k := ⟨_, rfl⟩
    have HXM := Lib.hid hX
    have HXle := Lib.hid (show X ≤ 9223372036854775808 by rw [hX]; exact Nat.le_trans (Nat.div_le_self _ _) HM.out)
    have HP := Lib.hid (pw_div_pos (M := M) (k := k))
    have HD := Lib.hid (pw_div_succ M k)
    rw [← hX] at HP HD ⊢
    have HO := Lib.hid hO; have HG := Lib.hid hG; have HB := Lib.hid hB; have HK := Lib.hid hk
    clear hO hG hB hX hk
    by_cases h0 : 0 < X
    · have hk2 : k < lenB M := HP.out.1 h0
      have t1 : (X : Int).tmod 1000000000 = dgi M k := by
        rw [Int.tmod_eq_emod_of_nonneg (by omega)]
        have hdg : X % 1000000000 = dg M k := by rw [HXM.out]; rfl
        show _ = ((dg M k : Nat) : Int); omega
      obtain ⟨Y, hY⟩ : ∃ Y, Y = M / pw (k + 1) := ⟨_, rfl⟩
      rw [← hY] at HD
      have HY := Lib.hid hY
      clear hY
      have t2 : (X : Int).tdiv 1000000000 = (Y : Int) := by rw [Int.tdiv_eq_ediv_of_nonneg (by omega), ← HD.out]; omega
      have hdb : 0 ≤ dgi M k ∧ dgi M k ≤ 999999999 := by have := dgi_Dig M (k + 1) k (by omega); omega
      have u1 := IntWalk.u32_in (dgi M k) (by omega)
      have u2 := IntWalk.u64_in (dgi M k) (by omega)
      have u3 := IntWalk.u64_in (Y : Int) (by have h9 := HD.out; have := HXle.out; omega)
      have hx0 : 0 < (X : Int) := by omega
      have hL3 := HLN.out
      have HLE := Lib.hid (show Y < X by have h9 := HD.out; omega)
      go_wp2_with (first | (at_builtin; refine wpList_append_own _ rfl _ _ 22 rfl (w.heap.size + 1) 54 i0 (.int .u32 0) 1 4 Tryz.underlying22 hi hz0 hz1 hz2 rfl (by decide) _ _ _ rfl (HO.out.alloc _) ⟨wr.heap.size, 0, none⟩ 1 1 [.int .u32 (dgi M k)] rfl rfl ?c1 ?c2 ?c3 ?c4 ?c5 ?_))
      case c1 =>
        intro t u ht
        match t, ht with
        | 0, ht => simp at ht; subst ht; simp [Addr.add]
      case c2 => intro u hu; simp at hu; subst hu; rfl
      case c3 => unfold maxLen; omega
      case c4 => omega
      case c5 => have := HB.out.lt; simp; omega
      intro v' w1 hown' hgrow _
      have O2 := Lib.hid (show w1.ownsRow (w.heap.size + 1) 54 1 v' (k + 1) (ucs (dgi M) (k + 1)) by rw [ucs_succ]; exact hown')
      have G2 := Lib.hid ((HG.out.alloc HG.out.size _).grown hgrow (by have := HG.out.size; simp; omega) (fun g hg => Nat.le_of_succ_le (ownBlock_ge HO.out hg)))
      have B2 := Lib.hid ((HB.out.alloc (.cells #[.int .u32 (dgi M k)] 54)).of (hgrow.block w.heap.size (HB.out.alloc _).lt (fun e => by have := ownBlock_ge HO.out e.symm; omega)))
      clear hown' hgrow
      go_wp2_with fail
      go_roundw
      case rel => exact ⟨k + 1, by omega, by rw [HY.out], O2.out, G2.out, B2.out⟩
      case measure => simp [intOf]; have h9 := HLE.out; omega
    · obtain rfl : X = 0 := by omega
      obtain rfl : k = lenB M := by have := HK.out; have := mt HP.out.2 (by omega); omega
      obtain ⟨a, cap, rfl, hOw, hcap⟩ := Own.of_row HO.out (fun i hi => by have := dgi_Dig M (lenB M) i hi; omega)
      have HOW := Lib.hid hOw
      have HCP := Lib.hid hcap
      clear h0 hOw hcap
      have hL3 := HLN.out
      have CUT := Lib.hid (cut_any true a (lenB M) cap (dgi M) wr HOW.out.rd (dgi_Dig _ _) (by omega) HOW.out.le HCP.out)
      rw [sumB_dgi, Int.toNat_natCast, neg_canon M H0.out] at CUT
      go_wp2_with fail
      refine CUT.out.mono ?_
      rintro e w2 ⟨rfl, hb2⟩
      have B3 := HB.out.below hb2 HB.out.lt
      have HB3 := Lib.hid B3
      have HO3 := Lib.hid (HOW.out.below hb2)
      have HG3 := Lib.hid (HG.out.trans (hb2.mono HG.out.size))
      obtain ⟨b30, b31, b32, b33⟩ := B3.all
      clear B3 hb2 CUT
      go_wp2_with fail
      refine bodyPost_ret (results_cell rfl _ _ _ _ _ _ _ rfl (HB3.out.set _ _) Tryz.underlying24 rfl (by kernel_rfl)) rfl ⟨a, by first | (rw [show (-(M : Int)).natAbs = M by omega]; done) | (rw [show (-(M : Int)).natAbs = M by omega, decide_eq_true (show -(M : Int) < 0 by omega)]), ?_, ?_, ?_⟩
      · rw [show (-(M : Int)).natAbs = M by omega]; exact (((HO3.out.cut (Nat.le_refl _) (fun i _ => rfl)).other (by dsimp only; omega) _).other (by dsimp only; omega) _).mono (by omega)
      · rw [show (-(M : Int)).natAbs = M by omega]; intro h; have h1 := HO3.out.le; have h2 := HCP.out h; omega
      · exact (HG3.out.setCell (by dsimp only; omega) _).setCell (by dsimp only; omega) _
set_option maxRecDepth 100000 in
set_option maxHeartbeats 2000000 in
theorem rof64_pos (M : Nat) (w : World) (h : M ≤ 9223372036854775807) : Calls Tryz.prog 19 #[.int .i64 (M : Int)] w (ResF w (M : Int)) := by
  obtain ⟨i0, hi, hz0, hz1, hz2⟩ := info_parts info32
  have e1 := IntWalk.u64_in (M : Int) (by omega)
  have hlt : ¬ (M : Int) < 0 := by omega
  have hge : (0 : Int) ≤ (M : Int) := by omega
  have HM := Lib.hid (show M ≤ 9223372036854775808 by omega)
  clear h
  go_enter Tryz.func19, Tryz.ntmps19
  have HLN := Lib.hid (len3 HM.out)
  go_wp2_with fail
  go_loopw [4, 5] (fun x v wr => ∃ k : Nat, k ≤ lenB M ∧ x = .int .u64 ((M / pw k : Nat) : Int) ∧ wr.ownsRow (w.heap.size + 1) 54 1 v k (ucs (dgi M) k) ∧ Below w.heap.size w wr ∧ Bx wr w.heap.size 24 (.bool false) (.slice none 0 0)) (fun x _ _ => (intOf x).toNat)
  case atStart => exact ⟨0, Nat.zero_le _, by rw [pw_zero, Nat.div_one], Own.row_nil _ _ _, by (repeat' (first | (with_reducible exact Below.refl _ _) | (with_reducible assumption) | (with_reducible refine Below.alloc ?_ ?_ _) | (with_reducible refine Below.drew ?_) | (with_reducible refine bdrewN ?_ _) | (with_reducible refine Below.setCell ?_ ?_ _) | (with_reducible refine Below.frame ?_ _) | go_size)), Bx.new _ _ _ _⟩
  case round =>
    obtain ⟨k, hk, rfl, hO, hG, hB⟩ := hrel
    obtain ⟨X, hX⟩ : ∃ X, X = M / pw k := ⟨_, rfl⟩
    have HXM := Lib.hid hX
    have HXle := Lib.hid (show X ≤ 9223372036854775808 by rw [hX]; exact Nat.le_trans (Nat.div_le_self _ _) HM.out)
    have HP := Lib.hid (pw_div_pos (M := M) (k := k))
    have HD := Lib.hid (pw_div_succ M k)
    rw [← hX] at HP HD ⊢
    have HO := Lib.hid hO; have HG := Lib.hid hG; have HB := Lib.hid hB; have HK := Lib.hid hk
    clear hO hG hB hX hk
    by_cases h0 : 0 < X
    · have hk2 : k < lenB M := HP.out.1 h0
      have t1 : (X : Int).tmod 1000000000 = dgi M k := by
        rw [Int.tmod_eq_emod_of_nonneg (by omega)]
        have hdg : X % 1000000000 = dg M k := by rw [HXM.out]; rfl
        show _ = ((dg M k : Nat) : Int); omega
      obtain ⟨Y, hY⟩ : ∃ Y, Y = M / pw (k + 1) := ⟨_, rfl⟩
      rw [← hY] at HD
      have HY := Lib.hid hY
      clear hY
      have t2 : (X : Int).tdiv 1000000000 = (Y : Int) := by rw [Int.tdiv_eq_ediv_of_nonneg (by omega), ← HD.out]; omega
      have hdb : 0 ≤ dgi M k ∧ dgi M k ≤ 999999999 := by have := dgi_Dig M (k + 1) k (by omega); omega
      have u1 := IntWalk.u32_in (dgi M k) (by omega)
      have u2 := IntWalk.u64_in (dgi M k) (by omega)
      have u3 := IntWalk.u64_in (Y : Int) (by have h9 := HD.out; have := HXle.out; omega)
      have hx0 : 0 < (X : Int) := by omega
      have hL3 := HLN.out
      have HLE := Lib.hid (show Y < X by have h9 := HD.out; omega)
      go_wp2_with (first | (at_builtin; refine wpList_append_own _ rfl _ _ 22 rfl (w.heap.size + 1) 54 i0 (.int .u32 0) 1 4 Tryz.underlying22 hi hz0 hz1 hz2 rfl (by decide) _ _ _ rfl (HO.out.alloc _) ⟨wr.heap.size, 0, none⟩ 1 1 [.int .u32 (dgi M k)] rfl rfl ?c1 ?c2 ?c3 ?c4 ?c5 ?_))
      case c1 =>
        intro t u ht
        match t, ht with
        | 0, ht => simp at ht; subst ht; simp [Addr.add]
      case c2 => intro u hu; simp at hu; subst hu; rfl
      case c3 => unfold maxLen; omega
      case c4 => omega
      case c5 => have := HB.out.lt; simp; omega
      intro v' w1 hown' hgrow _
      have O2 := Lib.hid (show w1.ownsRow (w.heap.size + 1) 54 1 v' (k + 1) (ucs (dgi M) (k + 1)) by rw [ucs_succ]; exact hown')
      have G2 := Lib.hid ((HG.out.alloc HG.out.size _).grown hgrow (by have := HG.out.size; simp; omega) (fun g hg => Nat.le_of_succ_le (ownBlock_ge HO.out hg)))
      have B2 := Lib.hid ((HB.out.alloc (.cells #[.int .u32 (dgi M k)] 54)).of (hgrow.block w.heap.size (HB.out.alloc _).lt (fun e => by have := ownBlock_ge HO.out e.symm; omega)))
      clear hown' hgrow
      go_wp2_with fail
      go_roundw
      case rel => exact ⟨k + 1, by omega, by rw [HY.out], O2.out, G2.out, B2.out⟩
      case measure => simp [intOf]; have h9 := HLE.out; omega
    · obtain rfl : X = 0 := by omega
      obtain rfl : k = lenB M := by have := HK.out; have := mt HP.out.2 (by omega); omega
      obtain ⟨a, cap, rfl, hOw, hcap⟩ := Own.of_row HO.out (fun i hi => by have := dgi_Dig M (lenB M) i hi; omega)
      have HOW := Lib.hid hOw
      have HCP := Lib.hid hcap
      clear h0 hOw hcap
      have hL3 := HLN.out
      have NUM := Lib.hid (num_own false (decide ((M : Int) < 0)) a (lenB M) cap M _ (dgi M) wr HOW.out (dgi_Dig _ _) (by omega) (sumB_dgi M) (pos_canon M))
      go_wp2_with fail
      refine NUM.out.mono ?_
      rintro e w2 ⟨rfl, hb2⟩
      have B3 := HB.out.below hb2 HB.out.lt
      have HB3 := Lib.hid B3
      have HO3 := Lib.hid (HOW.out.below hb2)
      have HG3 := Lib.hid (HG.out.trans (hb2.mono HG.out.size))
      obtain ⟨b30, b31, b32, b33⟩ := B3.all
      clear B3 hb2 NUM
      go_wp2_with fail
      have hna : (((M : Int) : Int)).natAbs = M := by omega
      rw [← hna] at HO3
      refine bodyPost_ret (results_cell rfl _ _ _ _ _ _ _ rfl (HB3.out.set _ _) Tryz.underlying24 rfl (by kernel_rfl)) rfl ⟨a, cap, by first | (rw [hna]; done) | (rw [hna, decide_eq_true (show -(M : Int) < 0 by omega)]), ?_, ?_⟩
      · exact ((HO3.out.other (by dsimp only; omega) _).other (by dsimp only; omega) _).mono (by omega)
      · exact (HG3.out.setCell (by dsimp only; omega) _).setCell (by dsimp only; omega) _
set_option maxRecDepth 100000 in
set_option maxHeartbeats 2000000 in
theorem rof64_neg (M : Nat) (w : World) (h0 : 0 < M) (h : M ≤ 9223372036854775808) : Calls Tryz.prog 19 #[.int .i64 (-(M : Int))] w (ResF w (-(M : Int))) := by
  obtain ⟨i0, hi, hz0, hz1, hz2⟩ := info_parts info32
  obtain ⟨U, e1, e2⟩ := u64_of_neg h0 h
  have hlt : -(M : Int) < 0 := by omega
  have H0 := Lib.hid h0
  have hp0 : (0 : Int) < (M : Int) := by omega
  have HM := Lib.hid (show M ≤ 9223372036854775808 by omega)
  clear h
  go_enter Tryz.func19, Tryz.ntmps19
  have HLN := Lib.hid (len3 HM.out)
  go_wp2_with fail
  go_loopw [4, 5] (fun x v wr => ∃ k : Nat, k ≤ lenB M ∧ x = .int .u64 ((M / pw k : Nat) : Int) ∧ wr.ownsRow (w.heap.size + 1) 54 1 v k (ucs (dgi M) k) ∧ Below w.heap.size w wr ∧ Bx wr w.heap.size 24 (.bool false) (.slice none 0 0)) (fun x _ _ => (intOf x).toNat)
  case atStart => exact ⟨0, Nat.zero_le _, by rw [pw_zero, Nat.div_one], Own.row_nil _ _ _, by (repeat' (first | (with_reducible exact Below.refl _ _) | (with_reducible assumption) | (with_reducible refine Below.alloc ?_ ?_ _) | (with_reducible refine Below.drew ?_) | (with_reducible refine bdrewN ?_ _) | (with_reducible refine Below.setCell ?_ ?_ _) | (with_reducible refine Below.frame ?_ _) | go_size)), Bx.new _ _ _ _⟩
  case round =>
    obtain ⟨k, hk, rfl, hO, hG, hB⟩ := hrel
    obtain ⟨X, hX⟩ : ∃ X, X = M / pw k := ⟨_, rfl⟩
    have HXM := Lib.hid hX
    have HXle := Lib.hid (show X ≤ 9223372036854775808 by rw [hX]; exact Nat.le_trans (Nat.div_le_self _ _) HM.out)
    have HP := Lib.hid (pw_div_pos (M := M) (k := k))
    have HD := Lib.hid (pw_div_succ M k)
    rw [← hX] at HP HD ⊢
    have HO := Lib.hid hO; have HG := Lib.hid hG; have HB := Lib.hid hB; have HK := Lib.hid hk
    clear hO hG hB hX hk
    by_cases h0 : 0 < X
    · have hk2 : k < lenB M := HP.out.1 h0
      have t1 : (X : Int).tmod 1000000000 = dgi M k := by
        rw [Int.tmod_eq_emod_of_nonneg (by omega)]
        have hdg : X % 1000000000 = dg M k := by rw [HXM.out]; rfl
        show _ = ((dg M k : Nat) : Int); omega
      obtain ⟨Y, hY⟩ : ∃ Y, Y = M / pw (k + 1) := ⟨_, rfl⟩
      rw [← hY] at HD
      have HY := Lib.hid hY
      clear hY
      have t2 : (X : Int).tdiv 1000000000 = (Y : Int) := by rw [Int.tdiv_eq_ediv_of_nonneg (by omega), ← HD.out]; omega
      have hdb : 0 ≤ dgi M k ∧ dgi M k ≤ 999999999 := by have := dgi_Dig M (k + 1) k (by omega); omega
      have u1 := IntWalk.u32_in (dgi M k) (by omega)
      have u2 := IntWalk.u64_in (dgi M k) (by omega)
      have u3 := IntWalk.u64_in (Y : Int) (by have h9 := HD.out; have := HXle.out; omega)
      have hx0 : 0 < (X : Int) := by omega
      have hL3 := HLN.out
      have HLE := Lib.hid (show Y < X by have h9 := HD.out; omega)
      go_wp2_with (first | (at_builtin; refine wpList_append_own _ rfl _ _ 22 rfl (w.heap.size + 1) 54 i0 (.int .u32 0) 1 4 Tryz.underlying22 hi hz0 hz1 hz2 rfl (by decide) _ _ _ rfl (HO.out.alloc _) ⟨wr.heap.size, 0, none⟩ 1 1 [.int .u32 (dgi M k)] rfl rfl ?c1 ?c2 ?c3 ?c4 ?c5 ?_))
      case c1 =>
        intro t u ht
        match t, ht with
        | 0, ht => simp at ht; subst ht; simp [Addr.add]
      case c2 => intro u hu; simp at hu; subst hu; rfl
      case c3 => unfold maxLen; omega
      case c4 => omega
      case c5 => have := HB.out.lt; simp; omega
      intro v' w1 hown' hgrow _
      have O2 := Lib.hid (show w1.ownsRow (w.heap.size + 1) 54 1 v' (k + 1) (ucs (dgi M) (k + 1)) by rw [ucs_succ]; exact hown')
      have G2 := Lib.hid ((HG.out.alloc HG.out.size _).grown hgrow (by have := HG.out.size; simp; omega) (fun g hg => Nat.le_of_succ_le (ownBlock_ge HO.out hg)))
      have B2 := Lib.hid ((HB.out.alloc (.cells #[.int .u32 (dgi M k)] 54)).of (hgrow.block w.heap.size (HB.out.alloc _).lt (fun e => by have := ownBlock_ge HO.out e.symm; omega)))
      clear hown' hgrow
      go_wp2_with fail
      go_roundw
      case rel => exact ⟨k + 1, by omega, by rw [HY.out], O2.out, G2.out, B2.out⟩
      case measure => simp [intOf]; have h9 := HLE.out; omega
    · obtain rfl : X = 0 := by omega
      obtain rfl : k = lenB M := by have := HK.out; have := mt HP.out.2 (by omega); omega
      obtain ⟨a, cap, rfl, hOw, hcap⟩ := Own.of_row HO.out (fun i hi => by have := dgi_Dig M (lenB M) i hi; omega)
      have HOW := Lib.hid hOw
      have HCP := Lib.hid hcap
      clear h0 hOw hcap
      have hL3 := HLN.out
      have NUM := Lib.hid (num_own true (decide ((-(M : Int)) < 0)) a (lenB M) cap M _ (dgi M) wr HOW.out (dgi_Dig _ _) (by omega) (sumB_dgi M) (neg_canon M H0.out))
      go_wp2_with fail
      refine NUM.out.mono ?_
      rintro e w2 ⟨rfl, hb2⟩
      have B3 := HB.out.below hb2 HB.out.lt
      have HB3 := Lib.hid B3
      have HO3 := Lib.hid (HOW.out.below hb2)
      have HG3 := Lib.hid (HG.out.trans (hb2.mono HG.out.size))
      obtain ⟨b30, b31, b32, b33⟩ := B3.all
      clear B3 hb2 NUM
      go_wp2_with fail
      have hna : (((-(M : Int)) : Int)).natAbs = M := by omega
      rw [← hna] at HO3
      refine bodyPost_ret (results_cell rfl _ _ _ _ _ _ _ rfl (HB3.out.set _ _) Tryz.underlying24 rfl (by kernel_rfl)) rfl ⟨a, cap, by first | (rw [hna]; done) | (rw [hna, decide_eq_true (show -(M : Int) < 0 by omega)]), ?_, ?_⟩
      · exact ((HO3.out.other (by dsimp only; omega) _).other (by dsimp only; omega) _).mono (by omega)
      · exact (HG3.out.setCell (by dsimp only; omega) _).setCell (by dsimp only; omega) _
theorem of64_any (n : Int) (w : World) (h1 : -9223372036854775808 ≤ n) (h2 : n ≤ 9223372036854775807) : Calls Tryz.prog 13 #[.int .i64 n] w (ResN w n) := by
  rcases Int.lt_or_le n 0 with h | h
  · obtain ⟨M, rfl⟩ : ∃ M : Nat, n = -(M : Int) := ⟨n.natAbs, by omega⟩
    exact of64_neg M w (by omega) (by omega)
  · obtain ⟨M, rfl⟩ : ∃ M : Nat, n = (M : Int) := ⟨n.natAbs, by omega⟩
    exact of64_pos M w (by omega)
theorem rof64_any (n : Int) (w : World) (h1 : -9223372036854775808 ≤ n) (h2 : n ≤ 9223372036854775807) : Calls Tryz.prog 19 #[.int .i64 n] w (ResF w n) := by
  rcases Int.lt_or_le n 0 with h | h
  · obtain ⟨M, rfl⟩ : ∃ M : Nat, n = -(M : Int) := ⟨n.natAbs, by omega⟩
    exact rof64_neg M w (by omega) (by omega)
  · obtain ⟨M, rfl⟩ : ∃ M : Nat, n = (M : Int) := ⟨n.natAbs, by omega⟩
    exact rof64_pos M w (by omega)
end Go.Proofs.YtefjjhfahebmeaaGreatDoor.Limb
namespace Go.Proofs.YtefjjhfahebmeaaGreatDoor.Book
open Go.RowKit Go.Sort Go.Fresh Go.Proofs.YtefjjhfahebmeaaGreatDoor.Limb
theorem Arr.congr {w : World} {vb k : Nat} {A : Nat → Option Addr} {N C : Nat → Nat} {X Y : Nat → Value} (h : Arr w vb k A N C X) (e : ∀ j, j < k → X j = Y j) : Arr w vb k A N C Y := by
  obtain ⟨m, f, hR, hE⟩ := h
  exact ⟨m, f, hR, fun j hj => by rw [← e j hj]; exact hE j hj⟩
end Go.Proofs.YtefjjhfahebmeaaGreatDoor.Book
namespace Go.Proofs.YtefjjhfahebmeaaGreatDoor.Limb
open Go.RowKit
theorem Own.allocd {T : Nat} {w : World} {base : Nat} {a : Option Addr} {n cap : Nat} {o : Nat → Int} (h : Own T w base a n cap o) (x : Obj) : Own T (w.alloc x) base a n cap o := h.below ((Below.refl _ _).alloc (Nat.le_refl _) x)
end Go.Proofs.YtefjjhfahebmeaaGreatDoor.Limb
namespace Go.Proofs.YtefjjhfahebmeaaGreatDoor.Book
open Go.RowKit Go.Sort Go.Fresh Go.Proofs.YtefjjhfahebmeaaGreatDoor.Limb
structure GrowI (w1 wr : World) (i n : Nat) (ai : Option Addr) (ci t : Nat) (a : Option Addr) (c : Nat) (hv : Nat → Value) : Prop where
  own : Own 54 wr 0 a (n + t) c (fun _ => mk i)
  old : Own 54 wr 0 ai n ci (fun _ => mk i)
  plc : (a = ai ∧ c = ci) ∨ ∃ g, a = some ⟨g, 0, none⟩ ∧ w1.heap.size < g
  box : wr.rowIs w1.heap.size 121 3 hv
  tch : Touch (fun g => ∃ p, ai = some p ∧ p.block = g) w1 wr
  olt : ∀ p, ai = some p → p.block < w1.heap.size
theorem grow_step {w1 wr w2 : World} {i n t c ci c' : Nat} {a ai a' : Option Addr} {hv : Nat → Value} {o : Obj} (G : GrowI w1 wr i n ai ci t a c hv) (hown : Own 54 w2 0 a' (n + t + 1) c' (upd (fun _ => mk i) (n + t) (mk i)))
    (hcase : (a' = a ∧ c' = c ∧ (wr.alloc o).grownBy w2 (a.map (·.block))) ∨ ((∃ g, a' = some ⟨g, 0, none⟩ ∧ wr.heap.size + 1 ≤ g) ∧ (wr.alloc o).grownBy w2 none ∧ c < n + t + 1)) :
    GrowI w1 w2 i n ai ci (t + 1) a' c' hv := by
  have hown' : Own 54 w2 0 a' (n + (t + 1)) c' (fun _ => mk i) := hown.congr fun q _ => by unfold upd; split <;> rfl
  have hsz := G.tch.size
  have hbx := G.box.lt
  have oldw : Own 54 (wr.alloc o) 0 ai n ci (fun _ => mk i) := G.old.keep fun p hp => Below.heap_alloc _ _ _ (by have := G.olt p hp; omega)
  have boxw : (wr.alloc o).rowIs w1.heap.size 121 3 hv := G.box.alloc o
  have tchw := G.tch.alloc o
  rcases hcase with ⟨rfl, rfl, hg⟩ | ⟨⟨g, rfl, hlt⟩, hg, -⟩
  · rcases G.plc with ⟨rfl, rfl⟩ | ⟨g, rfl, hlt⟩
    · refine ⟨hown', hown'.less (by omega), .inl ⟨rfl, rfl⟩, boxw.of_block (hg.block _ (by simp; omega) (fun e => ?_)), tchw.grown hg (fun q hq => ?_), G.olt⟩
      · cases h : a' with
        | none => rw [h] at e; cases e
        | some p => rw [h] at e; simp at e; have := G.olt p h; omega
      · cases h : a' with
        | none => rw [h] at hq; cases hq
        | some p => rw [h] at hq; simp at hq; exact .inl ⟨p, rfl, hq⟩
    · refine ⟨hown', oldw.keep (fun p hp => hg.block _ (by have := G.olt p hp; simp; omega) (fun e => by have := G.olt p hp; simp at e; omega)), .inr ⟨g, rfl, hlt⟩, boxw.of_block (hg.block _ (by simp; omega) (fun e => by simp at e; omega)),
        tchw.grown hg (fun q hq => .inr (by simp at hq; omega)), G.olt⟩
  · refine ⟨hown', oldw.keep (fun p hp => hg.block _ (by have := G.olt p hp; simp; omega) (fun e => by cases e)), .inr ⟨g, rfl, by omega⟩, boxw.of_block (hg.block _ (by simp; omega) (fun e => by cases e)),
      tchw.grown hg (fun q hq => by cases hq), G.olt⟩
structure GrowO (w wr : World) (vb k : Nat) (A : Nat → Option Addr) (N C : Nat → Nat) (i : Nat) (LA : Nat → Option Addr) (LC : Nat → Nat) : Prop where
  tch : Touch (fun g => UA k A g ∨ g = vb) w wr
  arr : Arr wr vb k A N C (fun j => if j < i then .slice (LA j) (N j + 40) (LC j) else .slice none 0 0)
  own : ∀ j, j < k → Own 54 wr 0 (A j) (N j) (C j) (fun _ => mk j)
  lng : ∀ j, j < i → Own 54 wr 0 (LA j) (N j + 40) (LC j) (fun _ => mk j) ∧ (LA j = A j ∨ ∃ g, LA j = some ⟨g, 0, none⟩ ∧ w.heap.size ≤ g)
theorem grow_round {w w1 wr : World} {vb k i c : Nat} {A LA : Nat → Option Addr} {N C LC : Nat → Nat} {a : Option Addr} {hv : Nat → Value} (GO : GrowO w w1 vb k A N C i LA LC) (hi : i < k) (G : GrowI w1 wr i (N i) (A i) (C i) 40 a c hv)
    (hS : ¬ UA k A vb) (hD : Part k A) (hvb : vb < w.heap.size) (hA : ∀ j, j < k → ∀ p, A j = some p → p.block < w.heap.size) :
    GrowO w (wr.setCell ⟨vb, i * 3 + 1, none⟩ (.slice a (N i + 40) c)) vb k A N C (i + 1) (fun j => if j = i then a else LA j) (fun j => if j = i then c else LC j) := by
  have hsz := GO.tch.size
  have hnv : ∀ j, j < k → ∀ p, A j = some p → p.block ≠ vb := fun j hj p hp e => hS ⟨j, hj, p, hp, e⟩
  refine ⟨?_, ?_, fun j hj => ?_, fun j hj => ?_⟩
  · exact (GO.tch.trans (G.tch.weak fun q _ ⟨p, hp, e⟩ => Or.inl ⟨i, hi, p, hp, e⟩)).setCell (p := ⟨vb, i * 3 + 1, none⟩) (Or.inl (Or.inr rfl)) _
  · refine ((GO.arr.keep (G.tch.block _ (by omega) (fun ⟨p, hp, e⟩ => hnv i hi p hp e))).setLong i _).congr fun j hj => ?_
    show (if j = i then _ else if j < i then _ else _) = (if j < i + 1 then Value.slice (if j = i then a else LA j) _ (if j = i then c else LC j) else _)
    by_cases e : j = i
    · subst e; rw [if_pos rfl, if_pos (by omega), if_pos rfl, if_pos rfl]
    · rw [if_neg e, if_neg e, if_neg e]
      by_cases h : j < i
      · rw [if_pos h, if_pos (by omega)]
      · rw [if_neg h, if_neg (by omega)]
  · have h1 : Own 54 wr 0 (A j) (N j) (C j) (fun _ => mk j) := by
      by_cases e : j = i
      · subst e; exact G.old
      · exact (GO.own j hj).keep fun p hp => G.tch.block _ (by have := hA j hj p hp; omega) (fun ⟨q, hq, e'⟩ => hD j hj i hi e p q hp hq e'.symm)
    exact h1.keep fun p hp => Below.heap_setCell _ _ _ _ (hnv j hj p hp)
  · by_cases e : j = i
    · subst e
      rw [if_pos rfl, if_pos rfl]
      refine ⟨G.own.keep fun p hp => Below.heap_setCell _ _ _ _ ?_, ?_⟩
      · rcases G.plc with ⟨h, _⟩ | ⟨g, h, hlt⟩
        · exact hnv j hi p (h ▸ hp)
        · rw [h] at hp; cases hp; dsimp only; omega
      · rcases G.plc with ⟨h, _⟩ | ⟨g, h, hlt⟩
        · exact .inl h
        · exact .inr ⟨g, h, by omega⟩
    · rw [if_neg e, if_neg e]
      obtain ⟨h1, h2⟩ := GO.lng j (by omega)
      have hne : ∀ p, LA j = some p → p.block ≠ vb ∧ ∀ q, A i = some q → q.block ≠ p.block := by
        intro p hp
        rcases h2 with h | ⟨g, h, hlt⟩
        · rw [h] at hp
          exact ⟨hnv j (by omega) p hp, fun q hq e' => hD j (by omega) i hi e p q hp hq e'.symm⟩
        · rw [h] at hp; cases hp
          exact ⟨by dsimp only; omega, fun q hq => by have := hA i hi q hq; dsimp only; omega⟩
      refine ⟨(h1.keep fun p hp => G.tch.block _ (h1.blk hp).2.2 (fun ⟨q, hq, e'⟩ => (hne p hp).2 q hq e')).keep fun p hp => Below.heap_setCell _ _ _ _ (hne p hp).1, h2⟩
set_option maxHeartbeats 4000000 in
theorem grow_any (b vb k cap : Nat) (A : Nat → Option Addr) (N C : Nat → Nat) (w : World) (hk : k ≤ 1000) (hB : w.rowIs b 50 13 (bkf k (.slice (some ⟨vb, 0, none⟩) k cap)))
    (hA : Arr w vb k A N C (fun _ => .slice none 0 0)) (hO : ∀ j, j < k → Own 54 w 0 (A j) (N j) (C j) (fun _ => mk j)) (hN : ∀ j, j < k → N j ≤ 900000000) (hS : ¬ UA k A b ∧ ¬ UA k A vb) (hD : Part k A) (hbv : b ≠ vb) :
    Calls Tryz.prog 64 #[.pointer (some ⟨b, 0, none⟩)] w fun e w' => (∃ v, e = .returned v) ∧ ∃ LA LC, GrowO w w' vb k A N C k LA LC := by
  have HB := Lib.hid hB; have HA := Lib.hid hA; have HO := Lib.hid hO; have HS := Lib.hid hS; have HD := Lib.hid hD; have HN := Lib.hid hN
  have HV := Lib.hid (And.intro hA.lt fun j hj p hp => ((hO j hj).blk (p := p) hp).2.2)
  clear hB hA hO hS hD hN
  go_enter Tryz.func64, Tryz.ntmps64
  go_wp2_with fail
  go_loopw [2] (fun v wr => ∃ i : Nat, i ≤ k ∧ v = .int .i64 i ∧ ∃ LA LC, GrowO w wr vb k A N C i LA LC) (fun v _ => k - (intOf v).toNat)
  case atStart => exact ⟨0, by omega, rfl, fun _ => none, fun _ => 0, Touch.refl _ _, HA.out.congr (fun j _ => by rw [if_neg (by omega)]), HO.out, fun j hj => by omega⟩
  case round =>
    obtain ⟨w1, rfl⟩ : ∃ w1, w1 = wr := ⟨_, rfl⟩
    obtain ⟨i, hik, rfl, LA, LC, hG⟩ := hrel
    have KG := Lib.hid hG
    have KB := Lib.hid (HB.out.of_block (hG.tch.block _ HB.out.lt (fun h => h.elim HS.out.1 (fun h => hbv h))))
    clear hG
    have b2 : w1.cell? ⟨b, 2, none⟩ = some (.slice (some ⟨vb, 0, none⟩) k cap) := KB.out.cell (i := 2) (by omega)
    by_cases hi : i < k
    · obtain ⟨a0, a1, a2, -, hvb⟩ := KG.out.arr.cells hi
      rw [if_neg (by omega)] at a1
      obtain ⟨n, hn⟩ : ∃ n, n = N i := ⟨_, rfl⟩
      obtain ⟨ai, ha⟩ : ∃ ai, ai = A i := ⟨_, rfl⟩
      obtain ⟨ci, hc⟩ : ∃ ci, ci = C i := ⟨_, rfl⟩
      rw [← ha, ← hn, ← hc] at a0
      have hnb : n ≤ 900000000 := by rw [hn]; exact HN.out i hi
      have EA := Lib.hid ha; have EN := Lib.hid hn; have EC := Lib.hid hc
      have G0 := Lib.hid (show GrowI w1 (w1.alloc (.cells #[.slice ai n ci, .slice none 0 0, .int .i64 ((i : Int) + 1)] 121)) i n ai ci 0 ai ci (hcell ai n ci (.slice none 0 0) ((i : Int) + 1)) from by
        have h1 := KG.out.own i hi
        rw [← ha, ← hn, ← hc] at h1
        have h2 := h1.below ((Below.refl _ _).alloc (Nat.le_refl _) (.cells #[.slice ai n ci, .slice none 0 0, .int .i64 ((i : Int) + 1)] 121))
        exact ⟨h2, h2, .inl ⟨rfl, rfl⟩, World.rowIs_alloc w1 #[Value.slice ai n ci, Value.slice none 0 0, Value.int IntKind.i64 ((i : Int) + 1)] 121 (hcell ai n ci (.slice none 0 0) ((i : Int) + 1)) (fun q hq => by
          match q, hq with
          | 0, _ => rfl
          | 1, _ => rfl
          | 2, _ => rfl), (Touch.refl _ _).alloc _, fun p hp => (h1.blk hp).2.2⟩)
      clear ha hn hc
      go_wp2_with fail
      go_loopw [4, 5] (fun v u wr => ∃ t : Nat, t ≤ 40 ∧ u = .int .i64 t ∧ ∃ a c, v = .slice a (n + t) c ∧ GrowI w1 wr i n ai ci t a c (hcell ai n ci (.slice none 0 0) ((i : Int) + 1))) (fun _ u _ => 40 - (intOf u).toNat)
      case atStart => exact ⟨0, by omega, rfl, ai, ci, rfl, G0.out⟩
      case round =>
        obtain ⟨t, ht40, rfl, a, c, rfl, hI⟩ := hrel
        have LI := Lib.hid hI
        have hc2 : wr.cell? ⟨w1.heap.size, 2, none⟩ = some (.int .i64 ((i : Int) + 1)) := hI.box.cell (i := 2) (by omega)
        have hlt := hI.box.lt
        clear hI
        by_cases ht : t < 40
        · go_wp2_with (first
            | (go_at_call 116; refine (mark_any i _ (by omega)).mono ?_; rintro e w2 ⟨rfl, hw2⟩; obtain rfl := hw2.symm)
            | (at_builtin; refine wpList_push rfl _ _ rfl (by rfl) (LI.out.own.allocd _) (by omega) (Nat.zero_le _) (v := mk i) (by rfl) ?c1 (mk_rng (by omega)) (by rfl) ?_))
          case c1 => simp
          intro a' c' w2 hown hcase
          have NI := Lib.hid (grow_step LI.out hown hcase)
          clear hown hcase
          go_wp2_with fail
          go_roundw
          case rel => exact ⟨t + 1, by omega, by go_num, a', c', rfl, NI.out⟩
          case measure => simp [intOf]; omega
        · obtain rfl : t = 40 := by omega
          have b3 := (LI.out.tch.block _ (show b < w1.heap.size from KB.out.lt) (fun ⟨p, hp, e⟩ => HS.out.1 ⟨i, hi, p, EA.out ▸ hp, e⟩))
          have b4 : wr.cell? ⟨b, 2, none⟩ = some (.slice (some ⟨vb, 0, none⟩) k cap) := (KB.out.of_block b3).cell (i := 2) (by omega)
          have v3 := (KG.out.arr.keep (LI.out.tch.block _ (show vb < w1.heap.size from hvb) (fun ⟨p, hp, e⟩ => HS.out.2 ⟨i, hi, p, EA.out ▸ hp, e⟩))).cells hi
          obtain ⟨v30, v31, v32, v33, v34⟩ := v3
          rw [if_neg (by omega)] at v31
          have HG := Lib.hid (grow_round KG.out hi (by rw [← EA.out, ← EN.out, ← EC.out]; exact LI.out) HS.out.2 HD.out HV.out.1 HV.out.2)
          rw [← EN.out] at HG
          clear b2 b3 a0 a1 a2 v30 v32
          go_wp2_with fail
          go_roundw
          case rel => exact ⟨i + 1, by omega, by go_num, _, _, HG.out⟩
          case measure => simp [intOf]; omega
    · obtain rfl : i = k := by omega
      go_wp2_with fail
      (try simp only [Exit.inBlock, Exit.then])
      refine bodyPost_end (results_none rfl _ _ _) rfl ?_
      exact ⟨⟨_, rfl⟩, LA, LC, KG.out⟩
end Go.Proofs.YtefjjhfahebmeaaGreatDoor.Book
namespace Go.Proofs.YtefjjhfahebmeaaGreatDoor.Limb
open Go.RowKit Go.Sort Go.Fresh
def tw (o : Nat → Int) (n i : Nat) : Int := if i < n then o i else 77
set_option maxHeartbeats 1000000 in
theorem leftLimbs_any (g : Nat) (a : Option Addr) (n ca : Nat) (o : Nat → Int) (w : World) (ht : Rd w (some ⟨g, 0, none⟩) (n + 1) (tw o n)) (ha : Rd w a n o) (hn : n ≤ 1000000000) :
    Calls Tryz.prog 49 #[.slice (some ⟨g, 0, none⟩) n (n + 1), .slice a n ca] w fun e w' => e = .returned (.bool true) ∧ ∃ m, w' = w.drewN m := by
  have HA := Lib.hid ha; have HT := Lib.hid ht
  have e1 := IntWalk.i64_in ((n : Int) + 1) (by omega)
  have ec : ((n + 1 : Nat) : Int) = (n : Int) + 1 := by omega
  have x1 : ¬ ((n : Int) + 1 ≤ (n : Int)) := by omega
  clear ha ht
  go_enter Tryz.func49, Tryz.ntmps49
  go_wp2_with fail
  go_loopw [5] (fun i wr => ∃ t : Nat, t ≤ n ∧ i = .int .i64 t ∧ ∃ m, wr = w.drewN m) (fun i _ => n - (intOf i).toNat)
  case atStart => exact ⟨0, by omega, rfl, 0, rfl⟩
  case round =>
    obtain ⟨t, htn, rfl, hm⟩ := hrel
    have HM := Lib.hid hm
    have cw : ∀ p, wr.cell? p = w.cell? p := by obtain ⟨m, rfl⟩ := hm; intro p; rfl
    clear hm
    obtain ⟨b1, o1, eb, hc1⟩ := HT.out.cells (by omega)
    cases eb
    by_cases ht : t < n
    · obtain ⟨b2, o2, rfl, hc2⟩ := HA.out.cells (by omega)
      have c1 : wr.cell? ⟨g, t, none⟩ = some (.int .u32 (o t)) := by
        have h := (cw _).trans (hc1 t (by omega))
        rw [Nat.zero_add] at h
        rw [h]; show some (Value.int .u32 (if t < n then o t else 77)) = _; rw [if_pos ht]
      have c2 : wr.cell? ⟨b2, o2 + t, none⟩ = some (.int .u32 (o t)) := (cw _).trans (hc2 t ht)
      clear hc1 hc2 cw
      go_wp2_with fail
      go_quiet (fail)
      go_wp2_with fail
      go_roundw
      case rel => exact ⟨t + 1, by omega, by go_num, by obtain ⟨m, e⟩ := HM.out; exact ⟨_, by rw [e, World.drewN_drewN]⟩⟩
      case measure => simp [intOf]; omega
    · obtain rfl : t = n := by omega
      have c1 : wr.cell? ⟨g, t, none⟩ = some (.int .u32 77) := by
        have h := (cw _).trans (hc1 t (by omega))
        rw [Nat.zero_add] at h
        rw [h]; show some (Value.int .u32 (if t < t then o t else 77)) = _; rw [if_neg (by omega)]
      clear hc1 cw
      go_wp2_with fail
      go_ret
      exact ⟨rfl, HM.out⟩
set_option maxHeartbeats 1000000 in
theorem leftNum_any (s : Bool) (g : Nat) (a : Option Addr) (n ca : Nat) (o : Nat → Int) (w : World) (ht : Rd w (some ⟨g, 0, none⟩) (n + 1) (tw o n)) (ha : Rd w a n o) (hn : n ≤ 1000000000) :
    Calls Tryz.prog 20 #[numV s (some ⟨g, 0, none⟩) n (n + 1), numV s a n ca] w fun e w' => e = .returned (.bool true) ∧ Below w.heap.size w w' := by
  have HC := Lib.hid (fun (w' : World) (h : Below w.heap.size w w') => leftLimbs_any g a n ca o w' (ht.below h) (ha.below h) hn)
  have es : (s == s) = true := by simp
  clear ha ht
  go_enter Tryz.func20, Tryz.ntmps20
  go_wp2_with fail
  refine (HC.out _ ?_).mono ?_
  · (repeat' (first | (with_reducible exact Below.refl _ _) | (with_reducible assumption) | (with_reducible refine Below.alloc ?_ ?_ _) | (with_reducible refine Below.drew ?_) | (with_reducible refine bdrewN ?_ _) | (with_reducible refine Below.setCell ?_ ?_ _) | (with_reducible refine Below.frame ?_ _) | go_size))
  rintro e w1 ⟨rfl, m, rfl⟩
  go_wp2_with fail
  go_ret
  exact ⟨rfl, by (repeat' (first | (with_reducible exact Below.refl _ _) | (with_reducible assumption) | (with_reducible refine Below.alloc ?_ ?_ _) | (with_reducible refine Below.drew ?_) | (with_reducible refine bdrewN ?_ _) | (with_reducible refine Below.setCell ?_ ?_ _) | (with_reducible refine Below.frame ?_ _) | go_size))⟩
end Go.Proofs.YtefjjhfahebmeaaGreatDoor.Limb
namespace Go.Proofs.YtefjjhfahebmeaaGreatDoor.Book
open Go.RowKit Go.Sort Go.Fresh Go.Proofs.YtefjjhfahebmeaaGreatDoor.Limb
set_option maxHeartbeats 4000000 in
theorem look_any (b vb k cap : Nat) (A LA : Nat → Option Addr) (N C LC : Nat → Nat) (w : World) (hk : k ≤ 1000) (hB : w.rowIs b 50 13 (bkf k (.slice (some ⟨vb, 0, none⟩) k cap)))
    (hA : Arr w vb k A N C (fun j => .slice (LA j) (N j + 40) (LC j))) (hO : ∀ j, j < k → Own 54 w 0 (A j) (N j) (C j) (fun _ => mk j)) (hL : ∀ j, j < k → Own 54 w 0 (LA j) (N j + 40) (LC j) (fun _ => mk j)) (hN : ∀ j, j < k → N j ≤ 900000000) :
    Calls Tryz.prog 76 #[.pointer (some ⟨b, 0, none⟩)] w fun e w' => e = .returned (.bool true) ∧ Below w.heap.size w w' := by
  have HB := Lib.hid hB; have HA := Lib.hid hA; have HO := Lib.hid hO; have HL := Lib.hid hL; have HN := Lib.hid hN
  clear hB hA hO hL hN
  go_enter Tryz.func76, Tryz.ntmps76
  go_wp2_with fail
  go_loopw [3] (fun v wr => ∃ i : Nat, i ≤ k ∧ v = .int .i64 i ∧ Below w.heap.size w wr) (fun v _ => k - (intOf v).toNat)
  case atStart => exact ⟨0, by omega, rfl, Below.refl _ _⟩
  case round =>
    obtain ⟨w1, rfl⟩ : ∃ w1, w1 = wr := ⟨_, rfl⟩
    obtain ⟨i, hik, rfl, hG⟩ := hrel
    have KG := Lib.hid hG
    have KB := Lib.hid (HB.out.of_block (hG.block _ HB.out.lt))
    have KA := Lib.hid (HA.out.keep (hG.block _ HA.out.lt))
    clear hG
    have b2 : w1.cell? ⟨b, 2, none⟩ = some (.slice (some ⟨vb, 0, none⟩) k cap) := KB.out.cell (i := 2) (by omega)
    by_cases hi : i < k
    · obtain ⟨a0, a1, a2, -, hvb⟩ := KA.out.cells hi
      have O1 := (HO.out i hi).below KG.out
      have L1 := (HL.out i hi).below KG.out
      obtain ⟨n, hn⟩ : ∃ n, n = N i := ⟨_, rfl⟩
      obtain ⟨ai, ha⟩ : ∃ ai, ai = A i := ⟨_, rfl⟩
      obtain ⟨ci, hc⟩ : ∃ ci, ci = C i := ⟨_, rfl⟩
      obtain ⟨lc, hlc⟩ : ∃ lc, lc = LC i := ⟨_, rfl⟩
      obtain ⟨gq, hlg⟩ := L1.some_of_pos (by omega)
      rw [← hlc, hlg, ← hn] at L1 a1
      rw [← ha, ← hn, ← hc] at a0 O1
      have hnb : n ≤ 900000000 := by rw [hn]; exact HN.out i hi
      have LO := Lib.hid O1; have LL := Lib.hid L1
      obtain ⟨W, hW⟩ : ∃ W, W = w1.alloc (.cells #[.slice ai n ci, .slice (some ⟨gq, 0, none⟩) (n + 40) lc, .int .i64 ((i : Int) + 1)] 121) := ⟨_, rfl⟩
      have R := World.rowIs_alloc w1 #[Value.slice ai n ci, Value.slice (some ⟨gq, 0, none⟩) (n + 40) lc, Value.int IntKind.i64 ((i : Int) + 1)] 121 (hcell ai n ci (.slice (some ⟨gq, 0, none⟩) (n + 40) lc) ((i : Int) + 1)) (fun q hq => by
          match q, hq with
          | 0, _ => rfl
          | 1, _ => rfl
          | 2, _ => rfl)
      rw [← hW] at R
      have WB := Lib.hid (show Below w1.heap.size w1 W by rw [hW]; exact (Below.refl _ _).alloc (Nat.le_refl _) _)
      have WR := Lib.hid (show W.rowIs w1.heap.size 121 3 (hcell ai n ci (.slice (some ⟨gq, 0, none⟩) (n + 40) lc) ((i : Int) + 1)) from R)
      have HW := Lib.hid hW
      have e40 := IntWalk.i64_in ((n : Int) + 40) (by omega)
      have ec : ((n + 40 : Nat) : Int) = (n : Int) + 40 := by omega
      clear ha hn hc hlc O1 L1 R hW hlg
      go_upto_region 5 with (fail)
      rw [show (w1.alloc (.cells #[.slice ai n ci, .slice (some ⟨gq, 0, none⟩) (n + 40) lc, .int .i64 ((i : Int) + 1)] 121)) = W from HW.out.symm]
      have h0 : W.cell? ⟨w1.heap.size, 0, none⟩ = some (.slice ai n ci) := WR.out.cell (i := 0) (by omega)
      have h1 : W.cell? ⟨w1.heap.size, 1, none⟩ = some (.slice (some ⟨gq, 0, none⟩) (n + 40) lc) := WR.out.cell (i := 1) (by omega)
      have h2 : W.cell? ⟨w1.heap.size, 2, none⟩ = some (.int .i64 ((i : Int) + 1)) := WR.out.cell (i := 2) (by omega)
      go_wp2_with fail
      go_loopw [5] (fun v wr => ∃ t : Nat, t ≤ n + 40 ∧ v = .int .i64 t ∧ ∃ m, wr = W.drewN m) (fun v _ => n + 40 - (intOf v).toNat)
      case atStart => exact ⟨0, by omega, rfl, 0, rfl⟩
      case round =>
        obtain ⟨t, htn, rfl, hm⟩ := hrel
        have HM := Lib.hid hm
        have cw : ∀ p, wr.cell? p = W.cell? p := by obtain ⟨m, rfl⟩ := hm; intro p; rfl
        clear hm
        have g0 : wr.cell? ⟨w1.heap.size, 0, none⟩ = some (.slice ai n ci) := (cw _).trans h0
        have g1 : wr.cell? ⟨w1.heap.size, 1, none⟩ = some (.slice (some ⟨gq, 0, none⟩) (n + 40) lc) := (cw _).trans h1
        have g2 : wr.cell? ⟨w1.heap.size, 2, none⟩ = some (.int .i64 ((i : Int) + 1)) := (cw _).trans h2
        have IS := Lib.hid (fun (v1 : World) => is_any (mk i) i v1 (by omega))
        rw [show (mk i == mk i) = true by simp] at IS
        by_cases ht : t < n + 40
        · have c1 : wr.cell? ⟨gq, t, none⟩ = some (.int .u32 (mk i)) := (cw _).trans ((LL.out.below WB.out).cell ht)
          have x1 : (t : Int) < (n : Int) + 40 := by omega
          by_cases ht2 : t < n
          · obtain ⟨g, rfl⟩ := LO.out.some_of_pos (by omega)
            have c2 : wr.cell? ⟨g, t, none⟩ = some (.int .u32 (mk i)) := (cw _).trans ((LO.out.below WB.out).cell ht2)
            have x2 : (t : Int) < (n : Int) := by omega
            clear cw h0 h1 h2
            go_wp2_with fail
            go_quiet (first | with_reducible exact quietOf (IS.out _))
            go_wp2_with fail
            go_roundw
            case rel => exact ⟨t + 1, by omega, by go_num, by obtain ⟨m, e⟩ := HM.out; exact ⟨_, by rw [e, World.drewN_drewN]⟩⟩
            case measure => simp [intOf]; omega
          · have x2 : ¬ (t : Int) < (n : Int) := by omega
            clear cw h0 h1 h2
            go_wp2_with fail
            go_quiet (first | with_reducible exact quietOf (IS.out _))
            go_wp2_with fail
            go_roundw
            case rel => exact ⟨t + 1, by omega, by go_num, by obtain ⟨m, e⟩ := HM.out; exact ⟨_, by rw [e, World.drewN_drewN]⟩⟩
            case measure => simp [intOf]; omega
        · have x1 : ¬ (t : Int) < (n : Int) + 40 := by omega
          obtain rfl : t = n + 40 := by omega
          go_wp2_with fail
          go_roundw
          case rel => exact ⟨i + 1, by omega, by go_num, by obtain ⟨m, e⟩ := HM.out; rw [e]; exact bdrewN (KG.out.trans (WB.out.mono KG.out.size)) _⟩
          case measure => simp [intOf]; omega
    · obtain rfl : i = k := by omega
      go_wp2_with fail
      go_ret
      exact ⟨rfl, KG.out⟩
end Go.Proofs.YtefjjhfahebmeaaGreatDoor.Book
namespace Go.Proofs.YtefjjhfahebmeaaGreatDoor.Limb
open Go.RowKit Go.Sort Go.Fresh
end Go.Proofs.YtefjjhfahebmeaaGreatDoor.Limb
namespace Go.Proofs.YtefjjhfahebmeaaGreatDoor.Book
open Go.RowKit Go.Sort Go.Fresh Go.Proofs.YtefjjhfahebmeaaGreatDoor.Limb
set_option maxHeartbeats 4000000 in
theorem apart_any (b vb k cap : Nat) (A : Nat → Option Addr) (N C : Nat → Nat) (O : Nat → Nat → Int) (w : World) (hk : k ≤ 1000) (hB : w.rowIs b 50 13 (bkf k (.slice (some ⟨vb, 0, none⟩) k cap)))
    (hA : Arr w vb k A N C (fun _ => .slice none 0 0)) (hO : ∀ j, j < k → Own 54 w 0 (A j) (N j) (C j) (O j)) (hN : ∀ j, j < k → N j ≤ 900000000) (hS : ¬ UA k A b ∧ ¬ UA k A vb) (hD : Part k A) (hbv : b ≠ vb) :
    Calls Tryz.prog 22 #[.pointer (some ⟨b, 0, none⟩)] w fun e w' => e = .returned (.bool true) ∧ Touch (fun g => UA k A g ∨ g = vb) w w' := by
  have H0 := Lib.hid hB
  have N0 := Lib.hid (fun i (h1 : 0 < i) (h2 : i < 13) (h3 : i ≠ 2) => (show w.cell? ⟨b, i, none⟩ = some (.slice none 0 0) by rw [hB.cell h2]; show some (if i = 0 then _ else if i = 2 then _ else _) = _; rw [if_neg (by omega), if_neg h3]))
  have F := Lib.hid (fill_any b vb k cap A N C O w hk hB hA hO (fun j hj => by have := hN j hj; omega) hS hD)
  have HA := Lib.hid hA; have HS := Lib.hid hS; have HN := Lib.hid hN; have HD := Lib.hid hD
  have HP := Lib.hid (fun j hj p hp => ((hO j hj).blk (p := p) hp).2.2)
  clear hB hA hO hS hN hD
  go_enter Tryz.func22, Tryz.ntmps22
  go_wp2_with fail
  refine (fillByte b w (N0.out 1 (by omega) (by omega) (by omega))).mono ?_
  rintro e x ⟨⟨v, rfl⟩, hx⟩
  obtain rfl := hx.symm
  go_wp2_with fail
  refine F.out.mono ?_
  rintro e w1 ⟨⟨v, rfl⟩, hT, hO1⟩
  have T1 := Lib.hid hT
  have H1 := Lib.hid (H0.out.of_block (hT.block _ H0.out.lt HS.out.1))
  have N1 := Lib.hid (fun i (h1 : 0 < i) (h2 : i < 13) (h3 : i ≠ 2) => (show w1.cell? ⟨b, i, none⟩ = some (.slice none 0 0) by rw [H1.out.cell h2]; show some (if i = 0 then _ else if i = 2 then _ else _) = _; rw [if_neg (by omega), if_neg h3]))
  have G := Lib.hid (grow_any b vb k cap A N C w1 hk H1.out (HA.out.keep (hT.block _ HA.out.lt HS.out.2)) hO1 HN.out HS.out HD.out hbv)
  clear hT hO1 N0 F
  go_wp2_with fail
  refine (fillText b w1 (N1.out 3 (by omega) (by omega) (by omega))).mono ?_
  rintro e x ⟨⟨v, rfl⟩, hx⟩
  obtain rfl := hx.symm
  go_wp2_with fail
  refine (fillToken b w1 (N1.out 4 (by omega) (by omega) (by omega))).mono ?_
  rintro e x ⟨⟨v, rfl⟩, hx⟩
  obtain rfl := hx.symm
  go_wp2_with fail
  refine (fillNum b w1 (N1.out 5 (by omega) (by omega) (by omega))).mono ?_
  rintro e x ⟨⟨v, rfl⟩, hx⟩
  obtain rfl := hx.symm
  go_wp2_with fail
  refine (fillTerm b w1 (N1.out 6 (by omega) (by omega) (by omega))).mono ?_
  rintro e x ⟨⟨v, rfl⟩, hx⟩
  obtain rfl := hx.symm
  go_wp2_with fail
  refine (fillFactor b w1 (N1.out 7 (by omega) (by omega) (by omega))).mono ?_
  rintro e x ⟨⟨v, rfl⟩, hx⟩
  obtain rfl := hx.symm
  go_wp2_with fail
  refine (fillNode b w1 (N1.out 8 (by omega) (by omega) (by omega))).mono ?_
  rintro e x ⟨⟨v, rfl⟩, hx⟩
  obtain rfl := hx.symm
  go_wp2_with fail
  refine (fillFunc b w1 (N1.out 9 (by omega) (by omega) (by omega))).mono ?_
  rintro e x ⟨⟨v, rfl⟩, hx⟩
  obtain rfl := hx.symm
  go_wp2_with fail
  refine (fillValue b w1 (N1.out 10 (by omega) (by omega) (by omega))).mono ?_
  rintro e x ⟨⟨v, rfl⟩, hx⟩
  obtain rfl := hx.symm
  go_wp2_with fail
  refine (fillInstr b w1 (N1.out 11 (by omega) (by omega) (by omega))).mono ?_
  rintro e x ⟨⟨v, rfl⟩, hx⟩
  obtain rfl := hx.symm
  go_wp2_with fail
  refine (fillChunk b w1 (N1.out 12 (by omega) (by omega) (by omega))).mono ?_
  rintro e x ⟨⟨v, rfl⟩, hx⟩
  obtain rfl := hx.symm
  go_wp2_with fail
  refine (growByte b w1 (N1.out 1 (by omega) (by omega) (by omega))).mono ?_
  rintro e x ⟨⟨v, rfl⟩, hx⟩
  obtain rfl := hx.symm
  go_wp2_with fail
  refine G.out.mono ?_
  rintro e w2 ⟨⟨v, rfl⟩, LA, LC, hG⟩
  have T2 := Lib.hid (T1.out.mono (fun _ h => Or.inl h) |>.trans (hG.tch.weak fun g hg h => h))
  have H2 := Lib.hid (H1.out.of_block (hG.tch.block _ H1.out.lt (fun h => h.elim HS.out.1 (fun h => hbv h))))
  have N2 := Lib.hid (fun i (h1 : 0 < i) (h2 : i < 13) (h3 : i ≠ 2) => (show w2.cell? ⟨b, i, none⟩ = some (.slice none 0 0) by rw [H2.out.cell h2]; show some (if i = 0 then _ else if i = 2 then _ else _) = _; rw [if_neg (by omega), if_neg h3]))
  have L := Lib.hid (look_any b vb k cap A LA N C LC w2 hk H2.out (hG.arr.congr fun j hj => by rw [if_pos hj]) hG.own (fun j hj => (hG.lng j hj).1) HN.out)
  clear hG N1 G
  go_wp2_with fail
  refine (growText b w2 (N2.out 3 (by omega) (by omega) (by omega))).mono ?_
  rintro e x ⟨⟨v, rfl⟩, hx⟩
  obtain rfl := hx.symm
  go_wp2_with fail
  refine (growToken b w2 (N2.out 4 (by omega) (by omega) (by omega))).mono ?_
  rintro e x ⟨⟨v, rfl⟩, hx⟩
  obtain rfl := hx.symm
  go_wp2_with fail
  refine (growNum b w2 (N2.out 5 (by omega) (by omega) (by omega))).mono ?_
  rintro e x ⟨⟨v, rfl⟩, hx⟩
  obtain rfl := hx.symm
  go_wp2_with fail
  refine (growTerm b w2 (N2.out 6 (by omega) (by omega) (by omega))).mono ?_
  rintro e x ⟨⟨v, rfl⟩, hx⟩
  obtain rfl := hx.symm
  go_wp2_with fail
  refine (growFactor b w2 (N2.out 7 (by omega) (by omega) (by omega))).mono ?_
  rintro e x ⟨⟨v, rfl⟩, hx⟩
  obtain rfl := hx.symm
  go_wp2_with fail
  refine (growNode b w2 (N2.out 8 (by omega) (by omega) (by omega))).mono ?_
  rintro e x ⟨⟨v, rfl⟩, hx⟩
  obtain rfl := hx.symm
  go_wp2_with fail
  refine (growFunc b w2 (N2.out 9 (by omega) (by omega) (by omega))).mono ?_
  rintro e x ⟨⟨v, rfl⟩, hx⟩
  obtain rfl := hx.symm
  go_wp2_with fail
  refine (growValue b w2 (N2.out 10 (by omega) (by omega) (by omega))).mono ?_
  rintro e x ⟨⟨v, rfl⟩, hx⟩
  obtain rfl := hx.symm
  go_wp2_with fail
  refine (growInstr b w2 (N2.out 11 (by omega) (by omega) (by omega))).mono ?_
  rintro e x ⟨⟨v, rfl⟩, hx⟩
  obtain rfl := hx.symm
  go_wp2_with fail
  refine (growChunk b w2 (N2.out 12 (by omega) (by omega) (by omega))).mono ?_
  rintro e x ⟨⟨v, rfl⟩, hx⟩
  obtain rfl := hx.symm
  go_wp2_with fail
  refine (lookByte b w2 (N2.out 1 (by omega) (by omega) (by omega))).mono ?_
  rintro e x ⟨rfl, hx⟩
  obtain rfl := hx.symm
  go_wp2_with fail
  refine L.out.mono ?_
  rintro e w3 ⟨rfl, hb⟩
  have T3 := Lib.hid (T2.out.trans (Touch.of_below hb))
  have N3 := Lib.hid (fun i (h1 : 0 < i) (h2 : i < 13) (h3 : i ≠ 2) => (hb.cell (p := ⟨b, i, none⟩) H2.out.lt).trans (N2.out i h1 h2 h3))
  clear hb N2 L
  go_wp2_with fail
  refine (lookText b w3 (N3.out 3 (by omega) (by omega) (by omega))).mono ?_
  rintro e x ⟨rfl, hx⟩
  obtain rfl := hx.symm
  go_wp2_with fail
  refine (lookToken b w3 (N3.out 4 (by omega) (by omega) (by omega))).mono ?_
  rintro e x ⟨rfl, hx⟩
  obtain rfl := hx.symm
  go_wp2_with fail
  refine (lookNum b w3 (N3.out 5 (by omega) (by omega) (by omega))).mono ?_
  rintro e x ⟨rfl, hx⟩
  obtain rfl := hx.symm
  go_wp2_with fail
  refine (lookTerm b w3 (N3.out 6 (by omega) (by omega) (by omega))).mono ?_
  rintro e x ⟨rfl, hx⟩
  obtain rfl := hx.symm
  go_wp2_with fail
  refine (lookFactor b w3 (N3.out 7 (by omega) (by omega) (by omega))).mono ?_
  rintro e x ⟨rfl, hx⟩
  obtain rfl := hx.symm
  go_wp2_with fail
  refine (lookNode b w3 (N3.out 8 (by omega) (by omega) (by omega))).mono ?_
  rintro e x ⟨rfl, hx⟩
  obtain rfl := hx.symm
  go_wp2_with fail
  refine (lookFunc b w3 (N3.out 9 (by omega) (by omega) (by omega))).mono ?_
  rintro e x ⟨rfl, hx⟩
  obtain rfl := hx.symm
  go_wp2_with fail
  refine (lookValue b w3 (N3.out 10 (by omega) (by omega) (by omega))).mono ?_
  rintro e x ⟨rfl, hx⟩
  obtain rfl := hx.symm
  go_wp2_with fail
  refine (lookInstr b w3 (N3.out 11 (by omega) (by omega) (by omega))).mono ?_
  rintro e x ⟨rfl, hx⟩
  obtain rfl := hx.symm
  go_wp2_with fail
  refine (lookChunk b w3 (N3.out 12 (by omega) (by omega) (by omega))).mono ?_
  rintro e x ⟨rfl, hx⟩
  obtain rfl := hx.symm
  go_wp2_with fail
  go_ret
  exact ⟨rfl, T3.out⟩
end Go.Proofs.YtefjjhfahebmeaaGreatDoor.Book
namespace Go.Proofs.YtefjjhfahebmeaaGreatDoor.Book
open Go.RowKit Go.Sort Go.FreshG Go.Proofs.YtefjjhfahebmeaaGreatDoor.Limb
theorem infoHeld : (Tryz.prog.info? 121).map (fun i => (i.zero, i.size, i.bytes)) = some (some (.agg #[.slice none 0 0, .slice none 0 0, .int .i64 0]), 3, 56) := by kernel_rfl
def held (a : Option Addr) (n c k : Nat) : List Value := [.slice a n c, .slice none 0 0, .int .i64 ((k : Int) + 1)]
structure Bk (w : World) (b base k : Nat) (v : Value) (xs : List Value) : Prop where
  box : w.rowIs b 50 13 (bkf k v)
  row : w.ownsRow base 121 3 v k xs
  ne : v.ownBlock ≠ some b
def Row1 (w : World) (base k : Nat) (xs : List Value) (a : Option Addr) (n c : Nat) (x : Value) : Prop := w.ownsRow base 121 3 x (k + 1) (xs ++ held a n c k)
def Gr (base k : Nat) (v : Value) (xs : List Value) (a : Option Addr) (n c : Nat) (w w' : World) : Prop :=
  Touch (fun g => v.ownBlock = some g) w w' ∧ (w.ownsRow base 121 3 v k xs → w'.ownsRow base 121 3 v k xs) ∧ ∀ x, Row1 w base k xs a n c x → Row1 w' base k xs a n c x
theorem Gr.refl (base k : Nat) (v : Value) (xs : List Value) (a : Option Addr) (n c : Nat) (w : World) : Gr base k v xs a n c w w := ⟨Touch.refl _ _, fun h => h, fun _ h => h⟩
theorem Gr.grown {base k : Nat} {v : Value} {xs : List Value} {a : Option Addr} {n c : Nat} {w w' : World} (h : w.grownBy w' none) : Gr base k v xs a n c w w' := by
  refine ⟨(Touch.refl _ _).grown h (fun _ h => by cases h), fun hr => hr.kept h ?_, fun x hr => World.ownsRow.kept hr h ?_⟩
  · cases hv : v.ownBlock
    · exact .inl rfl
    · exact .inr (by simp)
  · cases hv : x.ownBlock
    · exact .inl rfl
    · exact .inr (by simp)
theorem Gr.alloc {base k : Nat} {v : Value} {xs : List Value} {a : Option Addr} {n c : Nat} (w : World) (o : Obj) : Gr base k v xs a n c w (w.alloc o) := Gr.grown (World.grownBy_alloc w o none)
theorem take_mid {L news : List Value} {m d : Nat} (hm : m ≤ L.length) (hn : news.length = d) : (L.take m ++ news ++ L.drop (m + d)).take (m + d) = L.take m ++ news := by
  have h : (L.take m ++ news).length = m + d := by simp [hn]; omega
  rw [← h]; exact List.take_left
theorem keep_append {w : World} {base k : Nat} {v : Value} {xs : List Value} (h : w.ownsRow base 121 3 v k xs) (hb : base ≤ w.heap.size) (hk : k ≤ 1000) (gs : Nat) (a : Option Addr) (n c : Nat)
    (hs : w.heap[gs]? = some (.cells #[.slice a n c, .slice none 0 0, .int .i64 ((k : Int) + 1)] 121 (0, 0))) (ty : Nat) :
    ∃ x w', (Builtin.append_ #[38, 38] ty #[v, .slice (some ⟨gs, 0, none⟩) 1 1]).run Tryz.prog w = .ok x w' ∧ Row1 w' base k xs a n c x ∧ Gr base k v xs a n c w w' ∧
      (v.ownBlock = x.ownBlock ∨ ∃ g, x.ownBlock = some g ∧ w.heap.size ≤ g) := by
  obtain ⟨i0, hi, hz0, hz1, hz2⟩ := info_parts infoHeld
  have hnews : ∀ j u, (held a n c k)[j]? = some u → w.cell? ((⟨gs, 0, none⟩ : Addr).add j) = some u := by
    intro j u hj
    rw [Addr.add_lit, Nat.zero_add, cell_of_row _ _ _ _ _ _ hs]
    match j, hj with
    | 0, hj => exact hj
    | 1, hj => exact hj
    | 2, hj => exact hj
    | j + 3, hj => simp [held] at hj
  have h1 : ∀ u ∈ held a n c k, u.oneCell' = true := by intro u hu; simp [held] at hu; rcases hu with rfl | rfl | rfl <;> rfl
  have hl : (held a n c k).length = 1 * 3 := rfl
  have hxl := h.1
  have hlen : (xs ++ held a n c k).length = (k + 1) * 3 := by rw [List.length_append, hxl]; show _ + 3 = _; omega
  have fresh : ∀ old, old < k + 1 → Row1 (w.drew.alloc (.cells (xs.toArray ++ (held a n c k).toArray ++ Builtin.zeroCells (Value.agg #[.slice none 0 0, .slice none 0 0, .int .i64 0]).cells (grownCap w (k + 1) old 121 - (k + 1))) 121)) base k xs a n c (.slice (some ⟨w.heap.size, 0, none⟩) (k + 1) (grownCap w (k + 1) old 121)) ∧
      w.grownBy (w.drew.alloc (.cells (xs.toArray ++ (held a n c k).toArray ++ Builtin.zeroCells (Value.agg #[.slice none 0 0, .slice none 0 0, .int .i64 0]).cells (grownCap w (k + 1) old 121 - (k + 1))) 121)) none := by
    intro old ho
    have hge := grownCap_ge w (k + 1) old 121
    have hcm := grownCap_le_maxLen w (k + 1) old 121 (by unfold maxLen; omega)
    refine ⟨⟨hlen, .inr ⟨w.heap.size, _, _, rfl, hb, heap_alloc_new w.drew _, hge, hcm, ?_, ?_⟩⟩, ⟨rfl, rfl, rfl, by simp, fun q hq _ => heap_alloc_old w.drew _ hq⟩⟩
    · simp only [Array.size_append, List.size_toArray, size_zeroCells, hxl, hl]
      show _ + _ + _ * 3 = _
      omega
    · simp only [Array.toList_append]
      rw [← hlen]
      exact List.take_left
  rcases h.2 with ⟨rfl, rfl⟩ | ⟨g, cap, cur, rfl, hbg, hg, hnc, hcm, hcs, htake⟩
  · have hx : xs = [] := List.eq_nil_of_length_eq_zero (by simpa using hxl)
    subst hx
    have hr := run_append_nil (P := Tryz.prog) w 38 ty 121 i0 _ Tryz.underlying38 hi hz0 ⟨gs, 0, none⟩ 1 1 (held a n c 0) (by rw [hz1]; rfl) hnews (by omega) (by omega) (by rw [hz2]; omega)
    have hgr := fresh 0 (by omega)
    simp only [Nat.zero_add, List.nil_append, Array.empty_append] at hgr
    exact ⟨_, _, hr, hgr.1, Gr.grown hgr.2, .inr ⟨_, rfl, Nat.le_refl _⟩⟩
  · by_cases hroom : k + 1 ≤ cap
    · have hr := run_append_room (P := Tryz.prog) w 38 ty 121 i0 Tryz.underlying38 hi g k cap cur hg ⟨gs, 0, none⟩ 1 1 (held a n c k) (by rw [hz1]; rfl) hnews h1 hroom (by rw [hz1, hl, hcs]; omega)
      rw [hz1, hl] at hr
      have hcl : k * 3 ≤ cur.toList.length := by rw [Array.length_toList, hcs]; omega
      have hnew := setRow_heap w g cur (cur.toList.take (k * 3) ++ held a n c k ++ cur.toList.drop (k * 3 + 1 * 3)).toArray 121 _ hg
      have hsz : (cur.toList.take (k * 3) ++ held a n c k ++ cur.toList.drop (k * 3 + 1 * 3)).toArray.size = cap * 3 := by
        simp only [List.size_toArray, List.length_append, List.length_take, List.length_drop, Array.length_toList, hl, hcs]
        omega
      have ht1 : (cur.toList.take (k * 3) ++ held a n c k ++ cur.toList.drop (k * 3 + 1 * 3)).take ((k + 1) * 3) = xs ++ held a n c k := by
        rw [show (k + 1) * 3 = k * 3 + 1 * 3 by omega, take_mid hcl hl, htake]
      have ht0 : (cur.toList.take (k * 3) ++ held a n c k ++ cur.toList.drop (k * 3 + 1 * 3)).take (k * 3) = xs := by
        have h3 := congrArg (List.take (k * 3)) ht1
        rw [List.take_take, Nat.min_eq_left (by omega), ← hxl, List.take_left] at h3
        rw [← hxl]; exact h3
      refine ⟨_, _, hr, ⟨hlen, .inr ⟨g, cap, _, rfl, hbg, hnew, hroom, hcm, hsz, ht1⟩⟩, ⟨?_, ?_, ?_⟩, .inl rfl⟩
      · exact ⟨rfl, rfl, rfl, by simp, fun q _ hq => setRow_other w g q _ (fun e => hq (by simp [Value.ownBlock, e]))⟩
      · exact fun _ => ⟨hxl, .inr ⟨g, cap, _, rfl, hbg, hnew, hnc, hcm, hsz, ht0⟩⟩
      · intro x hx
        rcases hx.2 with ⟨_, h0⟩ | ⟨g', cap', cur', rfl, hbg', hg', hnc', hcm', hcs', htake'⟩
        · omega
        · refine ⟨hlen, .inr ?_⟩
          by_cases e : g' = g
          · subst e
            have e2 : cur' = cur := by have := hg'.symm.trans hg; simpa using this
            subst e2
            exact ⟨g', cap', _, rfl, hbg', hnew, hnc', hcm', by rw [hsz]; omega, ht1⟩
          · exact ⟨g', cap', cur', rfl, hbg', (setRow_other w g g' _ e).trans hg', hnc', hcm', hcs', htake'⟩
    · have holds : ∀ j u, xs[j]? = some u → w.cell? ((⟨g, 0, none⟩ : Addr).add j) = some u := h.cells (g := g) rfl
      have hr := run_append_grow (P := Tryz.prog) w 38 ty 121 i0 _ Tryz.underlying38 hi hz0 ⟨g, 0, none⟩ k cap xs (by rw [hz1]; exact hxl) holds ⟨gs, 0, none⟩ 1 1 (held a n c k) (by rw [hz1]; rfl) hnews (by omega) (by omega) (growslice_fits (by omega) (by rw [hz2]; omega))
      have hgr := fresh cap (by omega)
      exact ⟨_, _, hr, hgr.1, Gr.grown hgr.2, .inr ⟨_, rfl, Nat.le_refl _⟩⟩
theorem gives_appendG {G : World → World → Prop} {P : Program} {o : Oper} {a : Act} {w w' : World} {Post : Value → World → Prop} {v u r : Value} (s x : Operand) (t : TypeId)
    (ho : o.op = .call { callee := .builtin .append, args := #[s, x], argTypes := #[t, t] }) (hs : a.eval s = v) (hx : a.eval x = u)
    (hr : (Builtin.append_ #[t, t] o.type #[v, u]).run P w = .ok r w') (hP : Post r w' ∧ G w w') : givesUpon P G w Post ((execOp a.eval o).run P w) := by
  unfold execOp
  simp only [ho, resolve, invoke, builtin, Sem.run_bind, Sem.run_pure, Result.andThen_ok, List.map_toArray, List.map_cons, List.map_nil, hs, hx, hr]
  exact hP
set_option maxRecDepth 100000 in
set_option maxHeartbeats 1000000 in
theorem keep_any (b base k : Nat) (v : Value) (xs : List Value) (a : Option Addr) (n c : Nat) (w : World) (hk : k ≤ 1000) (hB : Bk w b base k v xs) (hbase : base ≤ w.heap.size) :
    Calls Tryz.prog 114 #[.pointer (some ⟨b, 0, none⟩), .slice a n c] w fun e w' => (∃ u, e = .returned u) ∧ ∃ v', Bk w' b base (k + 1) v' (xs ++ held a n c k) ∧ (v.ownBlock = v'.ownBlock ∨ ∃ g, v'.ownBlock = some g ∧ w.heap.size ≤ g) ∧
      Touch (fun g => g = b ∨ v.ownBlock = some g) w w' := by
  obtain ⟨i0, hi, hz0, hz1, hz2⟩ := info_parts infoHeld
  have KB := Lib.hid hB
  have b0 : w.cell? ⟨b, 0, none⟩ = some (.int .i64 k) := hB.box.cell (i := 0) (by omega)
  have hfz := hB.box.frozen
  have e1 := IntWalk.i64_in ((k : Int) + 1) (by omega)
  clear hB
  go_enter Tryz.func114, Tryz.ntmps114
  go_upto_region 1 with (fail)
  obtain ⟨W, hW⟩ : ∃ W, W = w.setCell ⟨b, 0, none⟩ (.int .i64 ((k : Int) + 1)) := ⟨_, rfl⟩
  have X := (KB.out.box.set 0 (.int .i64 ((k : Int) + 1))).congr (g := bkf (k + 1) v) (fun i _ => by
    unfold bkf
    by_cases e : i = 0
    · rw [if_pos e, if_pos e]; rfl
    · rw [if_neg e, if_neg e, if_neg e])
  have R := KB.out.row.kept (w' := W) (row := some b) (by
    rw [hW]
    exact ⟨rfl, rfl, rfl, by simp, fun q _ hq => Below.heap_setCell _ _ _ _ (fun e => hq (by simp [e]))⟩) (Or.inr KB.out.ne)
  have hsz : W.heap.size = w.heap.size := by rw [hW]; simp
  have T := Lib.hid (show Touch (fun g => g = b ∨ v.ownBlock = some g) w W by rw [hW]; exact (Touch.refl _ _).setCell (p := ⟨b, 0, none⟩) (Or.inl (Or.inl rfl)) _)
  rw [← hW] at X
  rw [show (w.setCell ⟨b, 0, none⟩ (.int .i64 ((k : Int) + 1))) = W from hW.symm]
  have HX := Lib.hid X
  have HR := Lib.hid R
  have c0 : W.cell? ⟨b, 0, none⟩ = some (.int .i64 ((k : Int) + 1)) := X.cell (i := 0) (by omega)
  have c2 : W.cell? ⟨b, 2, none⟩ = some v := X.cell (i := 2) (by omega)
  have hfz := X.frozen
  have hlt := X.lt
  have hbase : base ≤ W.heap.size := by omega
  have hnb := KB.out.ne
  have HZ := Lib.hid hsz
  have f2 : W.frozen? ⟨b, 2, none⟩ = false := hfz 2
  clear X R hW b0 hsz hfz
  have HV := Lib.hid (fun g (hg : v.ownBlock = some g) => (HR.out.lt g hg).2)
  have HS := Lib.hid (fun (w' : World) (h : Touch (fun g => v.ownBlock = some g) W w') => And.intro ((World.cell?_of_block (a := ⟨b, 0, none⟩) (h.block b hlt hnb)).trans c0) (And.intro ((World.cell?_of_block (a := ⟨b, 2, none⟩) (h.block b hlt hnb)).trans c2) ((World.frozen?_of_block (a := ⟨b, 2, none⟩) (h.block b hlt hnb)).trans f2)))
  have HB := Lib.hid hbase
  have HN := Lib.hid hnb
  have HLT := Lib.hid hlt
  clear c0 c2 f2 hbase hnb hlt
  refine wp_region_fresh 15 (spOf [(11, Sp.made (fun g : Nat => .slice (some ⟨g, 0, none⟩) 1 1) (fun g w' => w'.heap[g]? = some (.cells #[.slice a n c, .slice none 0 0, .int .i64 ((k : Int) + 1)] 121 (0, 0)) ∧ W.heap.size ≤ g)),
      (12, Sp.made (fun x : Value => x) (fun x w' => Row1 w' base k xs a n c x ∧ (v.ownBlock = x.ownBlock ∨ ∃ g, x.ownBlock = some g ∧ W.heap.size ≤ g)))])
    (G := Gr base k v xs a n c) (fun w' => Touch (fun g => v.ownBlock = some g) W w' ∧ w'.ownsRow base 121 3 v k xs) (by kernel_rfl) (by kernel_rfl)
    (spOf_cons (Sp.made_keeps fun g w w' h hG => ⟨(hG.1.block g (lt_of_block h.1) (fun e => by have := HV.out g e; omega)).trans h.1, h.2⟩) (spOf_cons (Sp.made_keeps fun x w w' h hG => ⟨hG.2.2 x h.1, h.2⟩) spOf_nil))
    ⟨fun w => Gr.refl _ _ _ _ _ _ _ w, fun _ _ h hG => ⟨h.1.trans hG.1, hG.2.1 h.2⟩⟩ ⟨(Touch.refl _ _).drew, HR.out.kept (row := none) ⟨rfl, rfl, rfl, Nat.le_refl _, fun _ _ _ => rfl⟩ (by cases v.ownBlock; exact .inl rfl; exact .inr (by simp))⟩ ?_
  simp only [List.take_succ_cons, List.take_zero, List.drop_succ_cons, List.drop_zero]
  (refine wpF_reads rfl rfl ?_ (fun w' hw' => ?_) ?_; rotate_left; · (have hb' := Has.world hw'; (skip); clear hw'; go_simp; try rfl))
  (refine wpF_reads rfl rfl ?_ (fun w' hw' => ?_) ?_; rotate_left; · (have hb' := Has.world hw'; (skip); clear hw'; go_simp; try rfl))
  (refine wpF_reads rfl rfl ?_ (fun w' hw' => ?_) ?_; rotate_left; · (have hb' := Has.world hw'; (skip); clear hw'; go_simp; try rfl))
  (refine wpF_reads rfl rfl ?_ (fun w' hw' => ?_) ?_; rotate_left; · (have hb' := Has.world hw'; (skip); clear hw'; go_simp; try rfl))
  (refine wpF_reads rfl rfl ?_ (fun w' hw' => ?_) ?_; rotate_left; · (have hb' := Has.world hw'; (have hs := HS.out _ hb'.1); clear hw'; go_simp; try rfl))
  (refine wpF_reads rfl rfl ?_ (fun w' hw' => ?_) ?_; rotate_left; · (have hb' := Has.world hw'; (skip); clear hw'; go_simp; try rfl))
  (refine wpF_reads rfl rfl ?_ (fun w' hw' => ?_) ?_; rotate_left; · (have hb' := Has.world hw'; (skip); clear hw'; go_simp; try rfl))
  (refine wpF_reads rfl rfl ?_ (fun w' hw' => ?_) ?_; rotate_left; · (have hb' := Has.world hw'; (skip); clear hw'; go_simp; try rfl))
  (refine wpF_reads rfl rfl ?_ (fun w' hw' => ?_) ?_; rotate_left; · (have hb' := Has.world hw'; (skip); clear hw'; go_simp; try rfl))
  (refine wpF_reads rfl rfl ?_ (fun w' hw' => ?_) ?_; rotate_left; · (have hb' := Has.world hw'; (have hs := HS.out _ hb'.1); clear hw'; go_simp; try rfl))
  (refine wpF_reads rfl rfl ?_ (fun w' hw' => ?_) ?_; rotate_left; · (have hb' := Has.world hw'; (skip); clear hw'; go_simp; try rfl))
  refine wpF_spec rfl rfl (fun w' hw' => ?_) ?_
  · have hb' := hw'.world
    clear hw'
    go_simp
    refine ⟨⟨?_, hb'.1.size⟩, Gr.alloc _ _⟩
    show (w'.heap.push _)[w'.heap.size] = _
    simp
  rintro _ ⟨gs, rfl⟩
  refine wpF_spec rfl rfl (fun w' hw' => ?_) ?_
  · have hb' := hw'.world
    have h11 := hw'.fact 11 (by kernel_rfl)
    obtain ⟨g', eg, hg1, hg2⟩ := h11
    cases eg
    obtain ⟨x, w'', hrun, h1, h2, h3⟩ := keep_append hb'.2 (Nat.le_trans HB.out hb'.1.size) hk gs a n c hg1 38
    clear hw'
    refine gives_appendG (v := v) (u := .slice (some ⟨gs, 0, none⟩) 1 1) _ _ 38 (by rfl) (by (go_simp; try rfl)) (by (go_simp; try rfl)) hrun ?_
    exact ⟨⟨⟨x, rfl⟩, ⟨x, rfl, h1, h3.imp id fun ⟨g, e, hl⟩ => ⟨g, e, Nat.le_trans hb'.1.size hl⟩⟩⟩, h2⟩
  rintro y ⟨z, hz⟩
  obtain rfl : y = z := hz
  (refine wpF_reads rfl rfl ?_ (fun w' hw' => ?_) ?_; rotate_left; · (have hb' := Has.world hw'; (skip); clear hw'; go_simp; try rfl))
  (refine wpF_reads rfl rfl ?_ (fun w' hw' => ?_) ?_; rotate_left; · (have hb' := Has.world hw'; (skip); clear hw'; go_simp; try rfl))
  refine wpF_nil (fun w1 hC1 hF => ?_)
  obtain ⟨y', ey, hY1, hY2⟩ := hF 12
  obtain rfl : y = y' := ey
  obtain ⟨gy, cy, rfl⟩ : ∃ gy cy, y = Value.slice (some ⟨gy, 0, none⟩) (k + 1) cy := by
    rcases hY1.2 with ⟨_, h0⟩ | ⟨g, cap, cur, e, _⟩
    · omega
    · exact ⟨g, cap, e⟩
  have KY := Lib.hid (And.intro hY1 hY2)
  have KT := Lib.hid (T.out.trans (hC1.1.mono (fun g hg => Or.inr hg)))
  have KX := Lib.hid (HX.out.of_block (hC1.1.block b HLT.out HN.out))
  obtain ⟨d0, d2, df⟩ := HS.out _ hC1.1
  clear hF hC1 HS hY1 hY2
  go_wp2_with fail
  (try simp only [Exit.inBlock, Exit.then])
  refine bodyPost_end (results_none rfl _ _ _) rfl ?_
  refine ⟨⟨_, rfl⟩, Value.slice (some ⟨gy, 0, none⟩) (k + 1) cy, ⟨?_, ?_, ?_⟩, ?_, KT.out.setCell (p := ⟨b, 2, none⟩) (Or.inl (Or.inl rfl)) _⟩
  · refine (KX.out.set 2 (Value.slice (some ⟨gy, 0, none⟩) (k + 1) cy)).congr fun i _ => ?_
    unfold bkf
    by_cases e : i = 2
    · rw [if_pos e, if_neg (by omega), if_pos e]
    · rw [if_neg e]
      by_cases e0 : i = 0
      · rw [if_pos e0, if_pos e0]
      · rw [if_neg e0, if_neg e0, if_neg e, if_neg e]
  · refine World.ownsRow.kept (row := some b) KY.out.1 ⟨rfl, rfl, rfl, by simp, fun q _ hq => Below.heap_setCell _ _ _ _ (fun e => hq (by simp [e]))⟩ (Or.inr ?_)
    rcases KY.out.2 with h | ⟨g, h, hl⟩
    · rw [← h]; exact HN.out
    · rw [h]; intro e; cases e; have := HLT.out; omega
  · rcases KY.out.2 with h | ⟨g, h, hl⟩
    · rw [← h]; exact HN.out
    · rw [h]; intro e; cases e; have := HLT.out; omega
  · rcases KY.out.2 with h | ⟨g, h, hl⟩
    · exact .inl h
    · exact .inr ⟨g, h, by have := HZ.out; omega⟩
def Kept (w : World) (b base k : Nat) (v : Value) (xs : List Value) (a : Option Addr) (n c : Nat) (e : Ending) (w' : World) : Prop :=
  (∃ u, e = .returned u) ∧ ∃ v', Bk w' b base (k + 1) v' (xs ++ held a n c k) ∧ (v.ownBlock = v'.ownBlock ∨ ∃ g, v'.ownBlock = some g ∧ w.heap.size ≤ g) ∧ Touch (fun g => g = b ∨ v.ownBlock = some g) w w'
theorem Bk.alloc {w : World} {b base k : Nat} {v : Value} {xs : List Value} (h : Bk w b base k v xs) (o : Obj) : Bk (w.alloc o) b base k v xs := ⟨h.box.alloc o, h.row.alloc o, h.ne⟩
set_option maxHeartbeats 1000000 in
theorem limbs_any (b base k : Nat) (v : Value) (xs : List Value) (a : Option Addr) (n c : Nat) (w : World) (hk : k ≤ 1000) (hB : Bk w b base k v xs) (hbase : base ≤ w.heap.size) :
    Calls Tryz.prog 50 #[.pointer (some ⟨b, 0, none⟩), .slice a n c] w (Kept w b base k v xs a n c) := by
  have K := Lib.hid (keep_any b base k v xs a n c w hk hB hbase)
  clear hB hbase
  go_enter Tryz.func50, Tryz.ntmps50
  go_wp2_with fail
  refine K.out.mono ?_
  rintro e w1 ⟨⟨u, rfl⟩, h⟩
  have H := Lib.hid h
  clear h
  go_wp2_with fail
  (try simp only [Exit.inBlock, Exit.then])
  refine bodyPost_end (results_none rfl _ _ _) rfl ?_
  exact ⟨⟨_, rfl⟩, H.out⟩
set_option maxHeartbeats 1000000 in
theorem num_any (b base k : Nat) (v : Value) (xs : List Value) (s : Bool) (a : Option Addr) (n c : Nat) (w : World) (hk : k ≤ 1000) (hB : Bk w b base k v xs) (hbase : base ≤ w.heap.size) :
    Calls Tryz.prog 21 #[.pointer (some ⟨b, 0, none⟩), numV s a n c] w (Kept w b base k v xs a n c) := by
  have K := Lib.hid (limbs_any b base k v xs a n c (w.alloc (.cells #[.bool s, .slice a n c] 24)) hk (hB.alloc _) (by simp; omega))
  clear hB hbase
  go_enter Tryz.func21, Tryz.ntmps21
  go_wp2_with fail
  refine K.out.mono ?_
  rintro e w1 ⟨⟨u, rfl⟩, h⟩
  have H := Lib.hid h
  clear h
  go_wp2_with fail
  (try simp only [Exit.inBlock, Exit.then])
  refine bodyPost_end (results_none rfl _ _ _) rfl ?_
  obtain ⟨v', h1, h2, h3⟩ := H.out
  exact ⟨⟨_, rfl⟩, v', h1, h2.imp id (fun ⟨g, e, hl⟩ => ⟨g, e, by simp at hl; omega⟩), ((Touch.refl _ _).alloc _).trans h3⟩
end Go.Proofs.YtefjjhfahebmeaaGreatDoor.Book
namespace Go.Proofs.YtefjjhfahebmeaaGreatDoor.Limb
open Go.RowKit Go.Sort Go.Fresh
def lessF (up vp : Nat → Int) (j N : Nat) (g : Int) (k : Nat) : Int := up (j + k) - g * part vp N k
structure DivW (w wr : World) (gu gq gv bv n L M cv : Nat) (up qp vp : Nat → Int) : Prop where
  u : Own 54 wr w.heap.size (some ⟨gu, 0, none⟩) L L up
  q : Own 54 wr w.heap.size (some ⟨gq, 0, none⟩) M M qp
  v : Own 54 wr w.heap.size (some ⟨gv, 0, none⟩) n cv vp
  vb : wr.rowIs bv 22 1 (fun _ => .slice (some ⟨gv, 0, none⟩) n cv)
  bel : Below w.heap.size w wr
def Scaled (w : World) (L N : Nat) (A V : Int) (gu gv bv : Nat) (up vp : Nat → Int) (wx : World) : Prop :=
  Dig up L ∧ sumB up L = A ∧ Dig vp (N + 1) ∧ sumB vp (N + 1) = V ∧ Own 54 wx w.heap.size (some ⟨gu, 0, none⟩) L L up ∧ Own 54 wx w.heap.size (some ⟨gv, 0, none⟩) (N + 1) (N + 1) vp ∧
    wx.rowIs bv 22 1 (fun _ => .slice (some ⟨gv, 0, none⟩) N (N + 1)) ∧ (gu ≠ gv ∧ gu ≠ bv ∧ gv ≠ bv) ∧ w.heap.size ≤ bv ∧ Below w.heap.size w wx
theorem DivW.drewN {w wr : World} {gu gq gv bv n L M cv : Nat} {up qp vp : Nat → Int} (h : DivW w wr gu gq gv bv n L M cv up qp vp) (k : Nat) : DivW w (wr.drewN k) gu gq gv bv n L M cv up qp vp := by
  have hb : Below wr.heap.size wr (wr.drewN k) := bdrewN (Below.refl _ _) k
  exact ⟨h.u.below hb, h.q.below hb, h.v.below hb, h.vb.of_block (hb.block _ h.vb.lt), h.bel.trans (hb.mono h.bel.size)⟩
def boxN (w : World) (b : Nat) : Nat := match w.cell? ⟨b, 0, none⟩ with | some (.int _ g) => g.toNat | _ => 0
theorem Own.made (w : World) (n : Nat) (o : Nat → Int) : Own 54 (w.alloc (.cells (madeCells #[Value.int .u32 0] n) 54)) w.heap.size (some ⟨w.heap.size, 0, none⟩) 0 n o :=
  ⟨Nat.zero_le _, Or.inr ⟨_, _, rfl, Nat.le_refl _, heap_alloc_new w _, by rw [size_madeCells]; exact Nat.le_refl _, fun i hi => by omega⟩, fun i hi => by omega⟩
theorem twin_step {w wr w2 : World} {base g k N : Nat} {o : Nat → Int} {a' : Option Addr} {c' : Nat} {x : Obj} {v : Int} (hG : Below base w wr) (hbw : base ≤ wr.heap.size) (hg : base ≤ g)
    (hown : Own 54 w2 base a' (k + 1) c' (upd o k v)) (hk : k + 1 ≤ N)
    (hcase : (a' = some ⟨g, 0, none⟩ ∧ c' = N ∧ (wr.alloc x).grownBy w2 (some g)) ∨ ((∃ g', a' = some ⟨g', 0, none⟩ ∧ wr.heap.size + 1 ≤ g') ∧ (wr.alloc x).grownBy w2 none ∧ N < k + 1)) :
    a' = some ⟨g, 0, none⟩ ∧ c' = N ∧ Below base w w2 := by
  rcases hcase with ⟨rfl, rfl, h⟩ | ⟨_, _, h⟩
  · exact ⟨rfl, rfl, (hG.alloc hbw x).grown h (by simp; omega) (fun q hq => by cases hq; exact hg)⟩
  · omega
set_option maxHeartbeats 2000000 in
theorem twinLimbs_any (a : Option Addr) (n ca : Nat) (o : Nat → Int) (w : World) (ha : Rd w a n o) (hn : n ≤ 100000000) :
    Calls Tryz.prog 29 #[.slice a n ca] w fun e w' => ∃ g, e = .returned (.slice (some ⟨g, 0, none⟩) n (n + 1)) ∧ Own 54 w' w.heap.size (some ⟨g, 0, none⟩) (n + 1) (n + 1) (tw o n) ∧ Below w.heap.size w w' := by
  obtain ⟨i0, hi, hz0, hz1, hz2⟩ := info_parts info32
  have e1 := IntWalk.i64_in ((n : Int) + 1) (by omega)
  have hmk : ∀ w : World, (Instr.makeSlice 22 (.int .i64 0) (.int .i64 ((n : Int) + 1))).run Tryz.prog w = .ok (.slice (some ⟨w.heap.size, 0, none⟩) 0 (n + 1)) (w.alloc (.cells (madeCells #[Value.int .u32 0] (n + 1)) 54)) := by
    intro w
    have h := run_make (P := Tryz.prog) w 22 54 i0 _ Tryz.underlying22 hi hz0 .i64 .i64 0 ((n : Int) + 1) (by omega) (by omega) (by rw [hz2]; omega) (by omega)
    rw [hz1, show ((n : Int) + 1).toNat = n + 1 by omega, Nat.mul_one] at h
    exact h
  have HA := Lib.hid ha
  clear ha hz0 hz1 hz2 hi
  go_enter Tryz.func29, Tryz.ntmps29
  go_wp2_with fail
  go_loopw [3, 4] (fun t i wr => ∃ k : Nat, k ≤ n ∧ i = .int .i64 k ∧ t = .slice (some ⟨w.heap.size, 0, none⟩) k (n + 1) ∧ (∃ p, (∀ q, q < k → p q = o q) ∧ Own 54 wr w.heap.size (some ⟨w.heap.size, 0, none⟩) k (n + 1) p) ∧ Below w.heap.size w wr) (fun _ i _ => n - (intOf i).toNat)
  case atStart => exact ⟨0, by omega, rfl, rfl, ⟨o, fun _ _ => rfl, Own.made w (n + 1) o⟩, by (repeat' (first | (with_reducible exact Below.refl _ _) | (with_reducible assumption) | (with_reducible refine Below.alloc ?_ ?_ _) | (with_reducible refine Below.drew ?_) | (with_reducible refine bdrewN ?_ _) | (with_reducible refine Below.setCell ?_ ?_ _) | (with_reducible refine Below.frame ?_ _) | go_size))⟩
  case round =>
    obtain ⟨k, hk, rfl, rfl, ⟨p, hp, hO⟩, hG⟩ := hrel
    have HP := Lib.hid hp; have HO := Lib.hid hO; have HG := Lib.hid hG
    clear hp hO hG hmk
    by_cases hkn : k < n
    · obtain ⟨b1, o1, rfl, hc1⟩ := (HA.out.below HG.out).cells (by omega)
      have c1 : wr.cell? ⟨b1, o1 + k, none⟩ = some (.int .u32 (o k)) := hc1 k hkn
      have rng := HA.out.rng k hkn
      clear hc1
      go_wp2_with (first
        | (at_builtin; refine Book.wpList_push rfl _ _ rfl (by rfl) (HO.out.allocd _) (by omega) (by have := HG.out.size; simp; omega) (v := o k) (by rfl) ?c1 rng (by rfl) ?_))
      case c1 => simp
      intro a' c' w2 hown hcase
      obtain ⟨rfl, rfl, hb2⟩ := twin_step (N := n + 1) HG.out HG.out.size (Nat.le_refl _) hown (by omega) (hcase.imp id fun ⟨h1, h2, h3⟩ => ⟨h1, h2, by omega⟩)
      have NO := Lib.hid hown; have NG := Lib.hid hb2
      clear hown hcase hb2
      go_wp2_with fail
      go_roundw
      case rel =>
        refine ⟨k + 1, by omega, by go_num, rfl, ⟨_, fun q hq => ?_, NO.out⟩, NG.out⟩
        by_cases e : q = k
        · subst e; exact upd_same _ _ _
        · rw [upd_ne _ _ e]; exact HP.out q (by omega)
      case measure => simp [intOf]; omega
    · obtain rfl : k = n := by omega
      go_wp2_with (first
        | (at_builtin; refine Book.wpList_push rfl _ _ rfl (by rfl) (HO.out.allocd _) (by omega) (by have := HG.out.size; simp; omega) (v := 77) (by rfl) ?c1 (by omega) (by rfl) ?_))
      case c1 => simp
      intro a' c' w2 hown q1 q2 q3
      subst q1
      subst q2
      have NO := Lib.hid hown
      have NG := Lib.hid ((HG.out.alloc HG.out.size (.cells #[Value.int .u32 77] 54)).grown q3 (by have := HG.out.size; simp; omega) (fun q hq => by cases hq; exact Nat.le_refl _))
      have x1 : (k : Int) ≤ (k : Int) + 1 := by omega
      clear hown q3
      go_wp2_with fail
      go_ret
      refine ⟨_, rfl, NO.out.congr fun i hi => ?_, NG.out⟩
      show _ = if i < k then o i else 77
      by_cases e : i < k
      · rw [if_pos e, upd_ne _ _ (by omega)]; exact HP.out i e
      · rw [if_neg e, show i = k by omega]; exact upd_same _ _ _
set_option maxHeartbeats 2000000 in
theorem twinNum_any (s : Bool) (a : Option Addr) (n ca : Nat) (o : Nat → Int) (w : World) (ha : Rd w a n o) (hn : n ≤ 100000000) :
    Calls Tryz.prog 8 #[numV s a n ca] w fun e w' => ∃ g, e = .returned (numV s (some ⟨g, 0, none⟩) n (n + 1)) ∧ Own 54 w' w.heap.size (some ⟨g, 0, none⟩) (n + 1) (n + 1) (tw o n) ∧ Below w.heap.size w w' := by
  have HR := Lib.hid ha
  have B1 := ((Bx.new w 24 (.bool s) (.slice a n ca)).alloc (.cells #[.bool false, .slice none 0 0] 24))
  have B2 := (Bx.new2 w (.cells #[.bool s, .slice a n ca] 24) 24 (.bool false) (.slice none 0 0))
  clear ha
  go_enter Tryz.func8, Tryz.ntmps8
  go_upto_region 1 with (fail)
  obtain ⟨W, hW⟩ : ∃ W, W = ((w.alloc (.cells #[.bool s, .slice a n ca] 24)).alloc (.cells #[.bool false, .slice none 0 0] 24)) := ⟨_, rfl⟩
  have G1 := Lib.hid (((Below.refl _ _).alloc (by go_size) _ |>.alloc (by go_size) _) : Below w.heap.size w ((w.alloc (.cells #[.bool s, .slice a n ca] 24)).alloc (.cells #[.bool false, .slice none 0 0] 24)))
  rw [← hW] at B1 B2 G1
  rw [show ((w.alloc (.cells #[.bool s, .slice a n ca] 24)).alloc (.cells #[.bool false, .slice none 0 0] 24)) = W from hW.symm]
  have HB1 := Lib.hid B1; have HB2 := Lib.hid B2
  clear hW B1 B2
  have HS1 := Lib.hid (fun (w' : World) (hb : Below W.heap.size W w') => And.intro (HB1.out.below hb HB1.out.lt).c0 (HB1.out.below hb HB1.out.lt).c1)
  have TW := Lib.hid (fun (w' : World) (hb : Below W.heap.size W w') => twinLimbs_any a n ca o w' (HR.out.below (G1.out.trans (hb.mono G1.out.size))) hn)
  refine wp_region_fresh 6 (spOf [(4, Sp.made (fun g : Nat => .slice (some ⟨g, 0, none⟩) n (n + 1)) (fun g w' => Own 54 w' W.heap.size (some ⟨g, 0, none⟩) (n + 1) (n + 1) (tw o n)))])
    (fun w' => Below W.heap.size W w') (by kernel_rfl) (by kernel_rfl)
    (spOf_cons (Sp.made_keeps fun x w w' h hb => h.below hb) spOf_nil) (fun _ _ h hb => h.trans (hb.mono h.size)) ((Below.refl _ _).drew) ?_
  simp only [List.take_succ_cons, List.take_zero, List.drop_succ_cons, List.drop_zero]
  (refine wpF_reads rfl rfl ?_ (fun w' hw' => ?_) ?_; rotate_left; · (have hb' := Has.world hw'; (skip); clear hw'; go_simp; try rfl))
  (refine wpF_reads rfl rfl ?_ (fun w' hw' => ?_) ?_; rotate_left; · (have hb' := Has.world hw'; (have hs := HS1.out _ hb'); clear hw'; go_simp; try rfl))
  (refine wpF_reads rfl rfl ?_ (fun w' hw' => ?_) ?_; rotate_left; · (have hb' := Has.world hw'; (skip); clear hw'; go_simp; try rfl))
  (refine wpF_reads rfl rfl ?_ (fun w' hw' => ?_) ?_; rotate_left; · (have hb' := Has.world hw'; (have hs := HS1.out _ hb'); clear hw'; go_simp; try rfl))
  (refine wpF_spec rfl rfl (fun w' hw' => ?_) ?_; · (have hb' := Has.world hw'; go_simp; ((refine (TW.out w' hb').mono ?_; rintro e w'' ⟨g, rfl, hO, hb⟩; exact ⟨_, rfl, ⟨⟨g, rfl⟩, ⟨g, rfl, hO.mono hb'.size⟩⟩, hb⟩))))
  rintro _ ⟨g, rfl⟩
  (refine wpF_reads rfl rfl ?_ (fun w' hw' => ?_) ?_; rotate_left; · (have hb' := Has.world hw'; (skip); clear hw'; go_simp; try rfl))
  refine wpF_nil (fun w5 hb5 hF5 => ?_)
  have OA : Own 54 w5 W.heap.size (some ⟨g, 0, none⟩) (n + 1) (n + 1) (tw o n) := by
    obtain ⟨x, e, h⟩ := hF5 4
    cases e
    exact h
  have HO := Lib.hid OA
  have B2 := HB2.out.below hb5 HB2.out.lt
  have HB5 := Lib.hid B2
  obtain ⟨b30, b31, b32, b33⟩ := B2.all
  have HG5 := Lib.hid (G1.out.trans (hb5.mono G1.out.size))
  have hz4 := HB2.out.lt
  have hz5 := G1.out.size
  clear hF5 OA B2 hb5 HS1 TW
  go_wp2_with fail
  refine bodyPost_ret (results_cell rfl _ _ _ _ _ _ _ rfl (HB5.out.set _ _) Tryz.underlying24 rfl (by kernel_rfl)) rfl ⟨g, rfl, ?_, ?_⟩
  · exact ((HO.out.other (by dsimp only; omega) _).other (by dsimp only; omega) _).mono hz5
  · exact (HG5.out.setCell (by dsimp only; omega) _).setCell (by dsimp only; omega) _
open Classical in
set_option maxHeartbeats 1000000 in
theorem great_any (M g k c : Nat) (A : Nat → Option Addr) (N C : Nat → Nat) (w : World) (hc : ∀ i, i < k → w.cell? ⟨g, i * 2 + 1, none⟩ = some (.slice (A i) (N i) (C i))) (hk : k ≤ 1000) :
    Calls Tryz.prog 6 #[.int .i64 M, .slice (some ⟨g, 0, none⟩) k c] w fun e w' => e = .returned (.bool (decide (∃ i, i < k ∧ M < N i))) ∧ w' = w := by
  have HC := Lib.hid hc
  have Y := Lib.hid (fun i (hi : i < k) (h : M < N i) => (decide_eq_true ⟨i, hi, h⟩ : decide (∃ i, i < k ∧ M < N i) = true))
  have Z := Lib.hid (fun (h : ∀ i, i < k → N i ≤ M) => (decide_eq_false (fun ⟨i, hi, h1⟩ => by have := h i hi; omega) : decide (∃ i, i < k ∧ M < N i) = false))
  clear hc
  go_enter Tryz.func6, Tryz.ntmps6
  go_wp2_with fail
  go_loopw [5] (fun v wr => ∃ i : Nat, i ≤ k ∧ v = .int .i64 i ∧ (∀ j, j < i → N j ≤ M) ∧ wr = w) (fun v _ => k - (intOf v).toNat)
  case atStart => exact ⟨0, by omega, rfl, fun j hj => by omega, rfl⟩
  case round =>
    obtain ⟨i, hi, rfl, hM, rfl⟩ := hrel
    have HM := Lib.hid hM
    clear hM
    by_cases hik : i < k
    · have c1 := HC.out i hik
      obtain ⟨n, hn⟩ : ∃ n, n = N i := ⟨_, rfl⟩
      rw [← hn] at c1
      have EN := Lib.hid hn
      clear hn
      by_cases hg : M < n
      · have x1 : (n : Int) > (M : Int) := by omega
        have E := Lib.hid (Y.out i hik (by rw [← EN.out]; exact hg))
        go_wp2_with fail
        go_ret
        exact ⟨by rw [E.out]; rfl, rfl⟩
      · have x1 : ¬ (n : Int) > (M : Int) := by omega
        go_wp2_with fail
        go_roundw
        case rel =>
          refine ⟨i + 1, by omega, by go_num, fun j hj => ?_, by trivial⟩
          by_cases e : j = i
          · subst e; have := EN.out; omega
          · exact HM.out j (by omega)
        case measure => simp [intOf]; omega
    · obtain rfl : i = k := by omega
      have E := Lib.hid (Z.out HM.out)
      go_wp2_with fail
      go_ret
      exact ⟨by rw [E.out]; rfl, rfl⟩
end Go.Proofs.YtefjjhfahebmeaaGreatDoor.Limb
namespace Go.Fresh
open Go.RowKit
variable {P : Program} {ops : Array Oper} {md : Region.Mode} {C : World → Prop}
end Go.Fresh
namespace Go.Proofs.YtefjjhfahebmeaaGreatDoor.Limb
open Go.RowKit Go.Sort Go.Fresh
structure Num1 where
  b : Nat
  s : Bool
  a : Option Addr
  n : Nat
  c : Nat
  o : Nat → Int
def Good (lo : Nat) (w : World) (x : Num1) : Prop := Bx w x.b 24 (.bool x.s) (.slice x.a x.n x.c) ∧ Own 54 w lo x.a x.n x.c x.o
def Asunder (x y : Num1) : Prop := ∀ p q, x.a = some p → y.a = some q → p.block ≠ q.block
def All (lo : Nat) (w : World) (L : List Num1) : Prop := (∀ x ∈ L, Good lo w x) ∧ L.Pairwise Asunder
theorem All.nil (lo : Nat) (w : World) : All lo w [] := ⟨fun x h => (by cases h), List.Pairwise.nil⟩
theorem All.below {lo : Nat} {w w' : World} {L : List Num1} (h : All lo w L) (hb : Below w.heap.size w w') : All lo w' L :=
  ⟨fun x hx => ⟨(h.1 x hx).1.below hb (h.1 x hx).1.lt, (h.1 x hx).2.below hb⟩, h.2⟩
theorem All.step {lo : Nat} {w w1 : World} {L : List Num1} (h : All lo w L) (hlo : lo ≤ w.heap.size) (hb : Below w.heap.size w w1) {s : Bool} {a : Option Addr} {n c : Nat} {o : Nat → Int} (ho : Own 54 w1 w.heap.size a n c o) :
    All lo (w1.alloc (.cells #[.bool s, .slice a n c] 24)) (L ++ [⟨w1.heap.size, s, a, n, c, o⟩]) := by
  have hb2 : Below w.heap.size w (w1.alloc (.cells #[.bool s, .slice a n c] 24)) := hb.alloc hb.size _
  have h2 := h.below hb2
  refine ⟨fun x hx => ?_, List.pairwise_append.2 ⟨h.2, List.pairwise_singleton _ _, fun x hx y hy => ?_⟩⟩
  · rcases List.mem_append.1 hx with hx | hx
    · exact h2.1 x hx
    · obtain rfl := List.mem_singleton.1 hx
      exact ⟨Bx.new w1 _ _ _, (ho.mono hlo).allocd _⟩
  · obtain rfl := List.mem_singleton.1 hy
    intro p q hp hq e
    have h3 := ((h.1 x hx).2.blk hp).2.2
    have h4 := (ho.blk hq).2.1
    omega
def heldL : List Num1 → Nat → List Value
  | [], _ => []
  | x :: l, k => Book.held x.a x.n x.c k ++ heldL l (k + 1)
theorem heldL_get (L : List Num1) (k j d : Nat) (x : Num1) (hx : L[j]? = some x) (hd : d < 3) : (heldL L k)[3 * j + d]? = (Book.held x.a x.n x.c (k + j))[d]? := by
  induction L generalizing k j with
  | nil => simp at hx
  | cons y l ih =>
    show (Book.held _ _ _ _ ++ heldL l (k + 1))[_]? = _
    cases j with
    | zero =>
      simp at hx; subst hx
      rw [List.getElem?_append_left (by show _ < 3; omega), Nat.mul_zero, Nat.zero_add, Nat.add_zero]
    | succ j =>
      rw [List.getElem?_append_right (by show 3 ≤ _; omega), show 3 * (j + 1) + d - (Book.held y.a y.n y.c k).length = 3 * j + d by show _ - 3 = _; omega, ih (k + 1) j (by simpa using hx), show k + 1 + j = k + (j + 1) by omega]
def OwnAll (lo : Nat) (w : World) (L : List Num1) : Prop := (∀ x ∈ L, Own 54 w lo x.a x.n x.c x.o) ∧ L.Pairwise Asunder
theorem OwnAll.nil (lo : Nat) (w : World) : OwnAll lo w [] := ⟨fun x h => (by cases h), List.Pairwise.nil⟩
theorem OwnAll.below {lo : Nat} {w w' : World} {L : List Num1} (h : OwnAll lo w L) (hb : Below w.heap.size w w') : OwnAll lo w' L := ⟨fun x hx => (h.1 x hx).below hb, h.2⟩
theorem OwnAll.more {lo : Nat} {w w1 : World} {L : List Num1} (h : OwnAll lo w L) (hlo : lo ≤ w.heap.size) (hb : Below w.heap.size w w1) {x : Num1} (ho : Own 54 w1 w.heap.size x.a x.n x.c x.o) : OwnAll lo w1 (L ++ [x]) := by
  refine ⟨fun y hy => ?_, List.pairwise_append.2 ⟨h.2, List.pairwise_singleton _ _, fun y hy z hz => ?_⟩⟩
  · rcases List.mem_append.1 hy with hy | hy
    · exact (h.1 y hy).below hb
    · obtain rfl := List.mem_singleton.1 hy
      exact ho.mono hlo
  · obtain rfl := List.mem_singleton.1 hz
    intro p q hp hq e
    have h3 := ((h.1 y hy).blk hp).2.2
    have h4 := (ho.blk hq).2.1
    omega
theorem apart_own {lo B : Nat} {w0 V W : World} {L : List Num1} {v : Value} {xs : List Value} (hV : OwnAll lo V L) (hVB : V.heap.size = B) (hb : Below B V W) (hB : Book.Bk W B B L.length v xs) (hxs : xs = heldL L 0) (h0 : 0 < L.length) (hk : L.length ≤ 1000) (hN : ∀ x ∈ L, x.n ≤ 900000000) (hlo : w0.heap.size ≤ lo)
    (hlo2 : lo ≤ B) (hw : Below w0.heap.size w0 W) (hsz : w0.heap.size ≤ W.heap.size) :
    Calls Tryz.prog 22 #[.pointer (some ⟨B, 0, none⟩)] W fun e w' => e = .returned (.bool true) ∧ Below w0.heap.size w0 w' := by
  subst hVB
  subst hxs
  have hW := hV.below hb
  obtain ⟨g, cap, cur, rfl, hbg, hg, hnc, hcm, hcs, htake⟩ : ∃ g cap cur, v = .slice (some ⟨g, 0, none⟩) L.length cap ∧ V.heap.size ≤ g ∧ W.heap[g]? = some (.cells cur 121 (0, 0)) ∧ L.length ≤ cap ∧ cap ≤ maxLen ∧ cur.size = cap * 3 ∧ cur.toList.take (L.length * 3) = heldL L 0 := by
    rcases hB.row.2 with ⟨_, h⟩ | h
    · omega
    · exact h
  have cell : ∀ j d, j < L.length → d < 3 → cur[3 * j + d]? = (Book.held ((L.getD j ⟨0, false, none, 0, 0, fun _ => 0⟩).a) ((L.getD j ⟨0, false, none, 0, 0, fun _ => 0⟩).n) ((L.getD j ⟨0, false, none, 0, 0, fun _ => 0⟩).c) j)[d]? := by
    intro j d hj hd
    have hx : L[j]? = some (L.getD j ⟨0, false, none, 0, 0, fun _ => 0⟩) := by rw [List.getD_eq_getElem?_getD, List.getElem?_eq_getElem hj]; rfl
    have h := heldL_get L 0 j d _ hx hd
    rw [← htake, List.getElem?_take, if_pos (by omega), Array.getElem?_toList, Nat.zero_add] at h
    exact h
  have mem : ∀ j, j < L.length → L.getD j ⟨0, false, none, 0, 0, fun _ => 0⟩ ∈ L := by
    intro j hj
    rw [List.getD_eq_getElem?_getD, List.getElem?_eq_getElem hj]
    exact List.getElem_mem hj
  have hA : Book.Arr W g L.length (fun j => (L.getD j ⟨0, false, none, 0, 0, fun _ => 0⟩).a) (fun j => (L.getD j ⟨0, false, none, 0, 0, fun _ => 0⟩).n) (fun j => (L.getD j ⟨0, false, none, 0, 0, fun _ => 0⟩).c) (fun _ => .slice none 0 0) := by
    refine ⟨cap * 3, fun i => cur[i]?.getD undef, ⟨cur, hg, hcs, fun i hi => ?_⟩, fun j hj => ⟨by omega, ?_, ?_, ?_⟩⟩
    · show cur[i]? = some ((cur[i]?).getD undef)
      rw [Array.getElem?_eq_getElem (by omega)]; rfl
    · have h := cell j 0 hj (by omega)
      rw [Nat.add_zero] at h
      show (cur[3 * j]?).getD undef = _
      rw [h]; rfl
    · show (cur[3 * j + 1]?).getD undef = _
      rw [cell j 1 hj (by omega)]; rfl
    · show (cur[3 * j + 2]?).getD undef = _
      rw [cell j 2 hj (by omega)]; rfl
  have hUlt : ∀ q, Book.UA L.length (fun j => (L.getD j ⟨0, false, none, 0, 0, fun _ => 0⟩).a) q → lo ≤ q ∧ q < V.heap.size := by
    rintro q ⟨j, hj, p, hp, rfl⟩
    exact ((hV.1 _ (mem j hj)).blk hp).2
  refine (Book.apart_any V.heap.size g L.length cap _ _ _ (fun j => (L.getD j ⟨0, false, none, 0, 0, fun _ => 0⟩).o) W hk hB.box hA (fun j hj => ((hW.1 _ (mem j hj)).mono (Nat.zero_le _))) (fun j hj => hN _ (mem j hj))
    ⟨fun h => by have := (hUlt _ h).2; omega, fun h => by have := (hUlt _ h).2; omega⟩ ?_ (fun e => hB.ne (by rw [e]; rfl))).mono ?_
  · intro i hi j hj hij p q hp hq
    have key : ∀ i j, i < j → i < L.length → j < L.length → ∀ p q, (L.getD i ⟨0, false, none, 0, 0, fun _ => 0⟩).a = some p → (L.getD j ⟨0, false, none, 0, 0, fun _ => 0⟩).a = some q → p.block ≠ q.block := by
      intro i j hij hi hj p q hp hq
      have h := List.pairwise_iff_getElem.1 hV.2 i j hi hj hij
      rw [List.getD_eq_getElem?_getD, List.getElem?_eq_getElem hi] at hp
      rw [List.getD_eq_getElem?_getD, List.getElem?_eq_getElem hj] at hq
      exact h p q hp hq
    rcases Nat.lt_or_ge i j with h | h
    · exact key i j h hi hj p q hp hq
    · exact fun e => key j i (by omega) hj hi q p hq hp e.symm
  · rintro e w' ⟨rfl, hT⟩
    refine ⟨rfl, hw.trans (hT.to_below hsz fun k hk hu => ?_)⟩
    rcases hu with hu | rfl
    · have := (hUlt _ hu).1; omega
    · omega
theorem kept_nxt {W W' : World} {B k : Nat} {v : Value} {xs : List Value} {a : Option Addr} {n c : Nat} {e : Ending} (h : Book.Kept W B B k v xs a n c e W') (hB : Book.Bk W B B k v xs) (hb : B ≤ W.heap.size) :
    (∃ u, e = .returned u) ∧ ∃ v', Book.Bk W' B B (k + 1) v' (xs ++ Book.held a n c k) ∧ Below B W W' := by
  obtain ⟨hu, v', h1, -, h3⟩ := h
  refine ⟨hu, v', h1, h3.to_below hb fun q hq hU => ?_⟩
  rcases hU with rfl | hU
  · omega
  · have := (hB.row.lt q hU).1; omega
theorem book_nw (w : World) : Book.Bk (w.alloc (.cells #[.int .i64 0, .slice none 0 0, .slice none 0 0, .slice none 0 0, .slice none 0 0, .slice none 0 0, .slice none 0 0, .slice none 0 0, .slice none 0 0, .slice none 0 0, .slice none 0 0, .slice none 0 0, .slice none 0 0] 50)) w.heap.size w.heap.size 0 (.slice none 0 0) [] := by
  refine ⟨World.rowIs_alloc w #[Value.int .i64 0, .slice none 0 0, .slice none 0 0, .slice none 0 0, .slice none 0 0, .slice none 0 0, .slice none 0 0, .slice none 0 0, .slice none 0 0, .slice none 0 0, .slice none 0 0, .slice none 0 0, .slice none 0 0] 50 (Book.bkf 0 (.slice none 0 0)) (fun i hi => ?_), World.ownsRow_nil _ _ _ _, fun e => by cases e⟩
  match i, hi with
  | 0, _ => rfl
  | 1, _ => rfl
  | 2, _ => rfl
  | 3, _ => rfl
  | 4, _ => rfl
  | 5, _ => rfl
  | 6, _ => rfl
  | 7, _ => rfl
  | 8, _ => rfl
  | 9, _ => rfl
  | 10, _ => rfl
  | 11, _ => rfl
  | 12, _ => rfl
def Apart2 (a b : Option Addr) : Prop := ∀ p q, a = some p → b = some q → p.block ≠ q.block
def DivR (w : World) (x y : Int) (e : Ending) (w' : World) : Prop :=
  ∃ aq ar, e = .returned (.tuple #[numV (decide (x / y < 0)) aq (lenB (x / y).natAbs) (lenB (x / y).natAbs), numV (decide (x % y < 0)) ar (lenB (x % y).natAbs) (lenB (x % y).natAbs), .int .i64 0]) ∧
    Own 54 w' w.heap.size aq (lenB (x / y).natAbs) (lenB (x / y).natAbs) (dgi (x / y).natAbs) ∧ Own 54 w' w.heap.size ar (lenB (x % y).natAbs) (lenB (x % y).natAbs) (dgi (x % y).natAbs) ∧
    Apart2 aq ar ∧ (aq = none → lenB (x / y).natAbs = 0) ∧ (ar = none → lenB (x % y).natAbs = 0) ∧ Below w.heap.size w w'
structure AmtO (w : World) (lo : Nat) (a : Option Addr) (K c N : Nat) (o : Nat → Int) : Prop where
  own : Own 54 w lo a K c o
  dig : Dig o K
  sum : sumB o K = (N : Int)
  le : K ≤ 100000001
  nil : a = none → c = 0
theorem AmtO.below {w w' : World} {lo : Nat} {a : Option Addr} {K c N : Nat} {o : Nat → Int} (h : AmtO w lo a K c N o) (hb : Below w.heap.size w w') : AmtO w' lo a K c N o := ⟨h.own.below hb, h.dig, h.sum, h.le, h.nil⟩
theorem AmtO.other {w : World} {lo : Nat} {a : Option Addr} {K c N : Nat} {o : Nat → Int} (h : AmtO w lo a K c N o) {p : Addr} (hp : p.block < lo) (v : Value) : AmtO (w.setCell p v) lo a K c N o := ⟨h.own.other hp v, h.dig, h.sum, h.le, h.nil⟩
theorem AmtO.none {w : World} {lo : Nat} {a : Option Addr} {K c N : Nat} {o : Nat → Int} (h : AmtO w lo a K c N o) (ha : a = none) : lenB N = 0 := by
  have hs : (sumB o K).toNat = N := by rw [h.sum]; omega
  have hl := lenB_le_of h.dig
  rw [hs] at hl
  have h1 := h.nil ha
  have h2 := h.own.le
  omega
end Go.Proofs.YtefjjhfahebmeaaGreatDoor.Limb
