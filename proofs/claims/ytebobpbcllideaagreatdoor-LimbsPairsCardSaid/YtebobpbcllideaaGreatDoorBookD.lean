/-
  The walk of a Book's lookLimb: all marks are there.
-/
import Derived.Test.YtebobpbcllideaaGreatDoorBookC
namespace Go.Proofs.YtebobpbcllideaaGreatDoor.Book
open Go.RowKit Go.Sort Go.Fresh Go.Proofs.YtebobpbcllideaaGreatDoor.Limb

set_option maxHeartbeats 4000000 in
theorem look_any (b vb k cap : Nat) (A LA : Nat → Option Addr) (N C LC : Nat → Nat) (w : World) (hk : k ≤ 1000) (hB : w.rowIs b 44 13 (bkf k (.slice (some ⟨vb, 0, none⟩) k cap)))
    (hA : Arr w vb k A N C (fun j => .slice (LA j) (N j + 40) (LC j))) (hO : ∀ j, j < k → Own 57 w 0 (A j) (N j) (C j) (fun _ => mk j)) (hL : ∀ j, j < k → Own 57 w 0 (LA j) (N j + 40) (LC j) (fun _ => mk j)) (hN : ∀ j, j < k → N j ≤ 900000000) :
    Calls Tryz.prog 70 #[.pointer (some ⟨b, 0, none⟩)] w fun e w' => e = .returned (.bool true) ∧ Below w.heap.size w w' := by
  have HB := Lib.hid hB; have HA := Lib.hid hA; have HO := Lib.hid hO; have HL := Lib.hid hL; have HN := Lib.hid hN
  clear hB hA hO hL hN
  go_enter Tryz.func70, Tryz.ntmps70
  go_wp2_with fail
  go_loopw [3] (fun v wr => ∃ i : Nat, i ≤ k ∧ v = .int .i64 i ∧ Below w.heap.size w wr) (fun v _ => k - (intOf v).toNat)
  case atStart => exact ⟨0, by omega, rfl, Below.refl _ _⟩
  case round =>
    obtain ⟨w1, rfl⟩ : ∃ w1, w1 = wr := ⟨_, rfl⟩
    obtain ⟨i, hik, rfl, hG⟩ := hrel
    have KG := Lib.hid hG
    have KB := Lib.hid (HB.out.of_block (hG.block _ HB.out.lt))
    have KA := Lib.hid (HA.out.keep (hG.block _ HA.out.lt))
    clear hG
    have b2 : w1.cell? ⟨b, 2, none⟩ = some (.slice (some ⟨vb, 0, none⟩) k cap) := KB.out.cell (i := 2) (by omega)
    by_cases hi : i < k
    · obtain ⟨a0, a1, a2, -, hvb⟩ := KA.out.cells hi
      have O1 := (HO.out i hi).below KG.out
      have L1 := (HL.out i hi).below KG.out
      obtain ⟨n, hn⟩ : ∃ n, n = N i := ⟨_, rfl⟩
      obtain ⟨ai, ha⟩ : ∃ ai, ai = A i := ⟨_, rfl⟩
      obtain ⟨ci, hc⟩ : ∃ ci, ci = C i := ⟨_, rfl⟩
      obtain ⟨lc, hlc⟩ : ∃ lc, lc = LC i := ⟨_, rfl⟩
      obtain ⟨gq, hlg⟩ := L1.some_of_pos (by omega)
      rw [← hlc, hlg, ← hn] at L1 a1
      rw [← ha, ← hn, ← hc] at a0 O1
      have hnb : n ≤ 900000000 := by rw [hn]; exact HN.out i hi
      have LO := Lib.hid O1; have LL := Lib.hid L1
      obtain ⟨W, hW⟩ : ∃ W, W = w1.alloc (.cells #[.slice ai n ci, .slice (some ⟨gq, 0, none⟩) (n + 40) lc, .int .i64 ((i : Int) + 1)] 78) := ⟨_, rfl⟩
      have R := World.rowIs_alloc w1 #[Value.slice ai n ci, Value.slice (some ⟨gq, 0, none⟩) (n + 40) lc, Value.int IntKind.i64 ((i : Int) + 1)] 78 (hcell ai n ci (.slice (some ⟨gq, 0, none⟩) (n + 40) lc) ((i : Int) + 1)) (fun q hq => by
          match q, hq with
          | 0, _ => rfl
          | 1, _ => rfl
          | 2, _ => rfl)
      rw [← hW] at R
      have WB := Lib.hid (show Below w1.heap.size w1 W by rw [hW]; exact (Below.refl _ _).alloc (Nat.le_refl _) _)
      have WR := Lib.hid (show W.rowIs w1.heap.size 78 3 (hcell ai n ci (.slice (some ⟨gq, 0, none⟩) (n + 40) lc) ((i : Int) + 1)) from R)
      have HW := Lib.hid hW
      have e40 := IntWalk.i64_in ((n : Int) + 40) (by omega)
      have ec : ((n + 40 : Nat) : Int) = (n : Int) + 40 := by omega
      clear ha hn hc hlc O1 L1 R hW hlg
      go_upto_region 5 with (fail)
      rw [show (w1.alloc (.cells #[.slice ai n ci, .slice (some ⟨gq, 0, none⟩) (n + 40) lc, .int .i64 ((i : Int) + 1)] 78)) = W from HW.out.symm]
      have h0 : W.cell? ⟨w1.heap.size, 0, none⟩ = some (.slice ai n ci) := WR.out.cell (i := 0) (by omega)
      have h1 : W.cell? ⟨w1.heap.size, 1, none⟩ = some (.slice (some ⟨gq, 0, none⟩) (n + 40) lc) := WR.out.cell (i := 1) (by omega)
      have h2 : W.cell? ⟨w1.heap.size, 2, none⟩ = some (.int .i64 ((i : Int) + 1)) := WR.out.cell (i := 2) (by omega)
      go_wp2_with fail
      go_loopw [5] (fun v wr => ∃ t : Nat, t ≤ n + 40 ∧ v = .int .i64 t ∧ ∃ m, wr = W.drewN m) (fun v _ => n + 40 - (intOf v).toNat)
      case atStart => exact ⟨0, by omega, rfl, 0, rfl⟩
      case round =>
        obtain ⟨t, htn, rfl, hm⟩ := hrel
        have HM := Lib.hid hm
        have cw : ∀ p, wr.cell? p = W.cell? p := by obtain ⟨m, rfl⟩ := hm; intro p; rfl
        clear hm
        have g0 : wr.cell? ⟨w1.heap.size, 0, none⟩ = some (.slice ai n ci) := (cw _).trans h0
        have g1 : wr.cell? ⟨w1.heap.size, 1, none⟩ = some (.slice (some ⟨gq, 0, none⟩) (n + 40) lc) := (cw _).trans h1
        have g2 : wr.cell? ⟨w1.heap.size, 2, none⟩ = some (.int .i64 ((i : Int) + 1)) := (cw _).trans h2
        have IS := Lib.hid (fun (v1 : World) => is_any (mk i) i v1 (by omega))
        rw [show (mk i == mk i) = true by simp] at IS
        by_cases ht : t < n + 40
        · have c1 : wr.cell? ⟨gq, t, none⟩ = some (.int .u32 (mk i)) := (cw _).trans ((LL.out.below WB.out).cell ht)
          have x1 : (t : Int) < (n : Int) + 40 := by omega
          by_cases ht2 : t < n
          · obtain ⟨g, rfl⟩ := LO.out.some_of_pos (by omega)
            have c2 : wr.cell? ⟨g, t, none⟩ = some (.int .u32 (mk i)) := (cw _).trans ((LO.out.below WB.out).cell ht2)
            have x2 : (t : Int) < (n : Int) := by omega
            clear cw h0 h1 h2
            go_wp2_with fail
            go_quiet (first | with_reducible exact quietOf (IS.out _))
            go_wp2_with fail
            go_roundw
            case rel => exact ⟨t + 1, by omega, by go_num, by obtain ⟨m, e⟩ := HM.out; exact ⟨_, by rw [e, World.drewN_drewN]⟩⟩
            case measure => simp [intOf]; omega
          · have x2 : ¬ (t : Int) < (n : Int) := by omega
            clear cw h0 h1 h2
            go_wp2_with fail
            go_quiet (first | with_reducible exact quietOf (IS.out _))
            go_wp2_with fail
            go_roundw
            case rel => exact ⟨t + 1, by omega, by go_num, by obtain ⟨m, e⟩ := HM.out; exact ⟨_, by rw [e, World.drewN_drewN]⟩⟩
            case measure => simp [intOf]; omega
        · have x1 : ¬ (t : Int) < (n : Int) + 40 := by omega
          obtain rfl : t = n + 40 := by omega
          go_wp2_with fail
          go_roundw
          case rel => exact ⟨i + 1, by omega, by go_num, by obtain ⟨m, e⟩ := HM.out; rw [e]; exact bdrewN (KG.out.trans (WB.out.mono KG.out.size)) _⟩
          case measure => simp [intOf]; omega
    · obtain rfl : i = k := by omega
      go_wp2_with fail
      go_ret
      exact ⟨rfl, KG.out⟩
end Go.Proofs.YtebobpbcllideaaGreatDoor.Book
