/-
  The walk of the document's answer for limbs: times.
-/
import Derived.Test.YtebobpbcllideaaGreatDoorLimbL
import Derived.Test.YtebobpbcllideaaGreatDoorLimbJ
namespace Go.Proofs.YtebobpbcllideaaGreatDoor.Limb
open Go.RowKit Go.Sort Go.Fresh

set_option maxHeartbeats 2000000 in
theorem times_any (x y : Option Addr) (X Y cx cy : Nat) (fx fy : Nat → Int) (w : World) (hx : Rd w x X fx) (hy : Rd w y Y fy) (dx : Dig fx X) (dy : Dig fy Y) (hX : X ≤ 100000000) (hY : Y ≤ 100000000) :
    Calls Tryz.prog 41 #[.slice x X cx, .slice y Y cy] w fun e w' => ∃ o, e = .returned (.slice (some ⟨w.heap.size, 0, none⟩) (X + Y) (X + Y)) ∧ Dig o (X + Y) ∧ sumB o (X + Y) = sumB fx X * sumB fy Y ∧
      Own 57 w' w.heap.size (some ⟨w.heap.size, 0, none⟩) (X + Y) (X + Y) o ∧ Below w.heap.size w w' := by
  obtain ⟨n, hn⟩ : ∃ n, n = X + Y := ⟨_, rfl⟩
  rw [← hn]
  have HN := Lib.hid hn
  have hnb : n ≤ 200000000 := by omega
  have ew : (X : Int) + (Y : Int) = (n : Int) := by omega
  have hmk := run_make_row' (P := Tryz.prog) 22 57 (.int .u32 0) 4 Tryz.underlying22 info32 rfl .i64 .i64 n (by omega) (by omega)
  have HR1 := Lib.hid hx; have HR2 := Lib.hid hy; have DX := Lib.hid dx; have DY := Lib.hid dy
  clear hx hy dx dy hn
  go_enter Tryz.func41, Tryz.ntmps41
  go_wp2_with fail
  go_loopw [6] (fun i wr => ∃ k : Nat, k ≤ X ∧ i = .int .i64 k ∧ (∃ o, MulRow fx fy Y n k o ∧ wr.rowIs w.heap.size 57 n (uc o)) ∧ Below w.heap.size w wr) (fun i _ => X - (intOf i).toNat)
  case atStart => exact ⟨0, by omega, rfl, ⟨_, MulRow.start _ _ _ _, World.rowIs_made w (.int .u32 0) n 57⟩, by (repeat' (first | (with_reducible exact Below.refl _ _) | (with_reducible assumption) | (with_reducible refine Below.alloc ?_ ?_ _) | (with_reducible refine Below.drew ?_) | (with_reducible refine bdrewN ?_ _) | (with_reducible refine Below.setCell ?_ ?_ _) | (with_reducible refine Below.frame ?_ _) | go_size))⟩
  case round =>
    obtain ⟨k, hk, rfl, ⟨o, hM, hR⟩, G⟩ := hrel
    have KM := Lib.hid hM; have KR := Lib.hid hR; have KG1 := Lib.hid G
    clear hM hR G hmk
    by_cases hkX : k < X
    · obtain ⟨pb, po, rfl, _⟩ := (HR1.out.below KG1.out).cells (by omega)
      go_wp2_with fail
      go_loopw [7, 8] (fun on i wr2 => ∃ j : Nat, j ≤ Y ∧ i = .int .i64 j ∧ (∃ p v, on = .int .u64 v ∧ MulIn fx fy Y n k j p v ∧ wr2.rowIs w.heap.size 57 n (uc p)) ∧ Below w.heap.size w wr2) (fun _ i _ => Y - (intOf i).toNat)
      case atStart => exact ⟨0, by omega, rfl, ⟨_, _, rfl, KM.out.inner, KR.out⟩, KG1.out⟩
      case round =>
        obtain ⟨j, hj, rfl, ⟨p, v, rfl, hI, hR⟩, G⟩ := hrel
        have LM := Lib.hid hI; have LR := Lib.hid hR; have LG := Lib.hid G
        have hfz := hR.frozen
        clear hI hR G
        by_cases hjY : j < Y
        · obtain ⟨qb, qo, rfl, hc⟩ := (HR2.out.below LG.out).cells (by omega)
          have c2 : wr.cell? ⟨qb, qo + j, none⟩ = some (.int .u32 (fy j)) := hc j hjY
          obtain ⟨pb', po', e', hc1⟩ := (HR1.out.below LG.out).cells (by omega)
          cases e'
          have c1 : wr.cell? ⟨pb, po + k, none⟩ = some (.int .u32 (fx k)) := hc1 k hkX
          have hkn : k + j < n := by have := HN.out; omega
          have c3 : wr.cell? ⟨w.heap.size, k + j, none⟩ = some (.int .u32 (p (k + j))) := LR.out.cell (i := k + j) hkn
          have hx := DX.out k hkX
          have hy := DY.out j hjY
          obtain ⟨hT, hS⟩ := LM.out.step hx hy hjY (by have := HN.out; omega)
          rw [← Int.add_assoc] at hT hS
          have hpd := LM.out.dig (k + j) hkn
          have hon := LM.out.on0
          have hb := mul_bd hx hy
          have HSt := Lib.hid hS
          have w1' := IntWalk.u64_in (fx k) (by omega)
          have w2' := IntWalk.u64_in (fy j) (by omega)
          have w3' := IntWalk.u64_in (p (k + j)) (by omega)
          have w4' := IntWalk.u64_in (fx k * fy j) (by omega)
          have w5' := IntWalk.u64_in (v + fx k * fy j) (by omega)
          have w6' := IntWalk.u64_in (v + fx k * fy j + p (k + j)) (by omega)
          have t1 : (v + fx k * fy j + p (k + j)).tmod 1000000000 = (v + fx k * fy j + p (k + j)) % 1000000000 := Int.tmod_eq_emod_of_nonneg hT.1
          have t2 : (v + fx k * fy j + p (k + j)).tdiv 1000000000 = (v + fx k * fy j + p (k + j)) / 1000000000 := Int.tdiv_eq_ediv_of_nonneg hT.1
          have w7' := IntWalk.u32_in ((v + fx k * fy j + p (k + j)) % 1000000000) (by omega)
          have w8' := IntWalk.u64_in ((v + fx k * fy j + p (k + j)) / 1000000000) (by omega)
          have w9' := IntWalk.i64_in ((k : Int) + (j : Int)) (by omega)
          clear hc hc1 hS hT hpd hon hb hx hy
          go_wp2_with fail
          go_quiet (fail)
          go_wp2_with fail
          go_roundw
          case rel => exact ⟨j + 1, by omega, by go_num, ⟨_, _, rfl, HSt.out, rows_upd (w := wr.drewN nq) LR.out _⟩, (bdrewN LG.out nq).setCell (by dsimp only; omega) _⟩
          case measure => simp [intOf]; omega
        · obtain rfl : j = Y := by omega
          have hkn : k + j < n := by have := HN.out; omega
          obtain ⟨vo, hco⟩ : ∃ vo, wr.cell? ⟨w.heap.size, k + j, none⟩ = some vo := ⟨_, LR.out.cell (i := k + j) hkn⟩
          have hon := LM.out.on0
          have w7' := IntWalk.u32_in v (by omega)
          have HSt := Lib.hid (LM.out.row hkn)
          go_wp2_with fail
          go_roundw
          case rel => exact ⟨k + 1, by omega, by go_num, ⟨_, HSt.out, rows_upd LR.out _⟩, LG.out.setCell (by dsimp only; omega) _⟩
          case measure => simp [intOf]; omega
    · obtain rfl : k = X := by omega
      go_wp2_with fail
      go_ret
      exact ⟨o, rfl, KM.out.dig, KM.out.sum, Own.of_rowIs KR.out (Nat.le_refl _) (fun i hi => by have := KM.out.dig i hi; omega), KG1.out⟩
end Go.Proofs.YtebobpbcllideaaGreatDoor.Limb
