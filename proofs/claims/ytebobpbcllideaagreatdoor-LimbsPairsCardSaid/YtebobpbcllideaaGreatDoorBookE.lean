/-
  The walk of a Book's Apart: no two lists share memory.
-/
import Derived.Test.YtebobpbcllideaaGreatDoorBookD
namespace Go.Proofs.YtebobpbcllideaaGreatDoor.Book
open Go.RowKit Go.Sort Go.Fresh Go.Proofs.YtebobpbcllideaaGreatDoor.Limb

set_option maxHeartbeats 4000000 in
theorem apart_any (b vb k cap : Nat) (A : Nat → Option Addr) (N C : Nat → Nat) (O : Nat → Nat → Int) (w : World) (hk : k ≤ 1000) (hB : w.rowIs b 44 13 (bkf k (.slice (some ⟨vb, 0, none⟩) k cap)))
    (hA : Arr w vb k A N C (fun _ => .slice none 0 0)) (hO : ∀ j, j < k → Own 57 w 0 (A j) (N j) (C j) (O j)) (hN : ∀ j, j < k → N j ≤ 900000000) (hS : ¬ UA k A b ∧ ¬ UA k A vb) (hD : Part k A) (hbv : b ≠ vb) :
    Calls Tryz.prog 22 #[.pointer (some ⟨b, 0, none⟩)] w fun e w' => e = .returned (.bool true) ∧ Touch (fun g => UA k A g ∨ g = vb) w w' := by
  have H0 := Lib.hid hB
  have N0 := Lib.hid (fun i (h1 : 0 < i) (h2 : i < 13) (h3 : i ≠ 2) => (show w.cell? ⟨b, i, none⟩ = some (.slice none 0 0) by rw [hB.cell h2]; show some (if i = 0 then _ else if i = 2 then _ else _) = _; rw [if_neg (by omega), if_neg h3]))
  have F := Lib.hid (fill_any b vb k cap A N C O w hk hB hA hO (fun j hj => by have := hN j hj; omega) hS hD)
  have HA := Lib.hid hA; have HS := Lib.hid hS; have HN := Lib.hid hN; have HD := Lib.hid hD
  have HP := Lib.hid (fun j hj p hp => ((hO j hj).blk (p := p) hp).2.2)
  clear hB hA hO hS hN hD
  go_enter Tryz.func22, Tryz.ntmps22
  go_wp2_with fail
  refine (fillByte b w (N0.out 1 (by omega) (by omega) (by omega))).mono ?_
  rintro e x ⟨⟨v, rfl⟩, hx⟩
  obtain rfl := hx.symm
  go_wp2_with fail
  refine F.out.mono ?_
  rintro e w1 ⟨⟨v, rfl⟩, hT, hO1⟩
  have T1 := Lib.hid hT
  have H1 := Lib.hid (H0.out.of_block (hT.block _ H0.out.lt HS.out.1))
  have N1 := Lib.hid (fun i (h1 : 0 < i) (h2 : i < 13) (h3 : i ≠ 2) => (show w1.cell? ⟨b, i, none⟩ = some (.slice none 0 0) by rw [H1.out.cell h2]; show some (if i = 0 then _ else if i = 2 then _ else _) = _; rw [if_neg (by omega), if_neg h3]))
  have G := Lib.hid (grow_any b vb k cap A N C w1 hk H1.out (HA.out.keep (hT.block _ HA.out.lt HS.out.2)) hO1 HN.out HS.out HD.out hbv)
  clear hT hO1 N0 F
  go_wp2_with fail
  refine (fillText b w1 (N1.out 3 (by omega) (by omega) (by omega))).mono ?_
  rintro e x ⟨⟨v, rfl⟩, hx⟩
  obtain rfl := hx.symm
  go_wp2_with fail
  refine (fillToken b w1 (N1.out 4 (by omega) (by omega) (by omega))).mono ?_
  rintro e x ⟨⟨v, rfl⟩, hx⟩
  obtain rfl := hx.symm
  go_wp2_with fail
  refine (fillNum b w1 (N1.out 5 (by omega) (by omega) (by omega))).mono ?_
  rintro e x ⟨⟨v, rfl⟩, hx⟩
  obtain rfl := hx.symm
  go_wp2_with fail
  refine (fillTerm b w1 (N1.out 6 (by omega) (by omega) (by omega))).mono ?_
  rintro e x ⟨⟨v, rfl⟩, hx⟩
  obtain rfl := hx.symm
  go_wp2_with fail
  refine (fillFactor b w1 (N1.out 7 (by omega) (by omega) (by omega))).mono ?_
  rintro e x ⟨⟨v, rfl⟩, hx⟩
  obtain rfl := hx.symm
  go_wp2_with fail
  refine (fillNode b w1 (N1.out 8 (by omega) (by omega) (by omega))).mono ?_
  rintro e x ⟨⟨v, rfl⟩, hx⟩
  obtain rfl := hx.symm
  go_wp2_with fail
  refine (fillFunc b w1 (N1.out 9 (by omega) (by omega) (by omega))).mono ?_
  rintro e x ⟨⟨v, rfl⟩, hx⟩
  obtain rfl := hx.symm
  go_wp2_with fail
  refine (fillValue b w1 (N1.out 10 (by omega) (by omega) (by omega))).mono ?_
  rintro e x ⟨⟨v, rfl⟩, hx⟩
  obtain rfl := hx.symm
  go_wp2_with fail
  refine (fillInstr b w1 (N1.out 11 (by omega) (by omega) (by omega))).mono ?_
  rintro e x ⟨⟨v, rfl⟩, hx⟩
  obtain rfl := hx.symm
  go_wp2_with fail
  refine (fillChunk b w1 (N1.out 12 (by omega) (by omega) (by omega))).mono ?_
  rintro e x ⟨⟨v, rfl⟩, hx⟩
  obtain rfl := hx.symm
  go_wp2_with fail
  refine (growByte b w1 (N1.out 1 (by omega) (by omega) (by omega))).mono ?_
  rintro e x ⟨⟨v, rfl⟩, hx⟩
  obtain rfl := hx.symm
  go_wp2_with fail
  refine G.out.mono ?_
  rintro e w2 ⟨⟨v, rfl⟩, LA, LC, hG⟩
  have T2 := Lib.hid (T1.out.mono (fun _ h => Or.inl h) |>.trans (hG.tch.weak fun g hg h => h))
  have H2 := Lib.hid (H1.out.of_block (hG.tch.block _ H1.out.lt (fun h => h.elim HS.out.1 (fun h => hbv h))))
  have N2 := Lib.hid (fun i (h1 : 0 < i) (h2 : i < 13) (h3 : i ≠ 2) => (show w2.cell? ⟨b, i, none⟩ = some (.slice none 0 0) by rw [H2.out.cell h2]; show some (if i = 0 then _ else if i = 2 then _ else _) = _; rw [if_neg (by omega), if_neg h3]))
  have L := Lib.hid (look_any b vb k cap A LA N C LC w2 hk H2.out (hG.arr.congr fun j hj => by rw [if_pos hj]) hG.own (fun j hj => (hG.lng j hj).1) HN.out)
  clear hG N1 G
  go_wp2_with fail
  refine (growText b w2 (N2.out 3 (by omega) (by omega) (by omega))).mono ?_
  rintro e x ⟨⟨v, rfl⟩, hx⟩
  obtain rfl := hx.symm
  go_wp2_with fail
  refine (growToken b w2 (N2.out 4 (by omega) (by omega) (by omega))).mono ?_
  rintro e x ⟨⟨v, rfl⟩, hx⟩
  obtain rfl := hx.symm
  go_wp2_with fail
  refine (growNum b w2 (N2.out 5 (by omega) (by omega) (by omega))).mono ?_
  rintro e x ⟨⟨v, rfl⟩, hx⟩
  obtain rfl := hx.symm
  go_wp2_with fail
  refine (growTerm b w2 (N2.out 6 (by omega) (by omega) (by omega))).mono ?_
  rintro e x ⟨⟨v, rfl⟩, hx⟩
  obtain rfl := hx.symm
  go_wp2_with fail
  refine (growFactor b w2 (N2.out 7 (by omega) (by omega) (by omega))).mono ?_
  rintro e x ⟨⟨v, rfl⟩, hx⟩
  obtain rfl := hx.symm
  go_wp2_with fail
  refine (growNode b w2 (N2.out 8 (by omega) (by omega) (by omega))).mono ?_
  rintro e x ⟨⟨v, rfl⟩, hx⟩
  obtain rfl := hx.symm
  go_wp2_with fail
  refine (growFunc b w2 (N2.out 9 (by omega) (by omega) (by omega))).mono ?_
  rintro e x ⟨⟨v, rfl⟩, hx⟩
  obtain rfl := hx.symm
  go_wp2_with fail
  refine (growValue b w2 (N2.out 10 (by omega) (by omega) (by omega))).mono ?_
  rintro e x ⟨⟨v, rfl⟩, hx⟩
  obtain rfl := hx.symm
  go_wp2_with fail
  refine (growInstr b w2 (N2.out 11 (by omega) (by omega) (by omega))).mono ?_
  rintro e x ⟨⟨v, rfl⟩, hx⟩
  obtain rfl := hx.symm
  go_wp2_with fail
  refine (growChunk b w2 (N2.out 12 (by omega) (by omega) (by omega))).mono ?_
  rintro e x ⟨⟨v, rfl⟩, hx⟩
  obtain rfl := hx.symm
  go_wp2_with fail
  refine (lookByte b w2 (N2.out 1 (by omega) (by omega) (by omega))).mono ?_
  rintro e x ⟨rfl, hx⟩
  obtain rfl := hx.symm
  go_wp2_with fail
  refine L.out.mono ?_
  rintro e w3 ⟨rfl, hb⟩
  have T3 := Lib.hid (T2.out.trans (Touch.of_below hb))
  have N3 := Lib.hid (fun i (h1 : 0 < i) (h2 : i < 13) (h3 : i ≠ 2) => (hb.cell (p := ⟨b, i, none⟩) H2.out.lt).trans (N2.out i h1 h2 h3))
  clear hb N2 L
  go_wp2_with fail
  refine (lookText b w3 (N3.out 3 (by omega) (by omega) (by omega))).mono ?_
  rintro e x ⟨rfl, hx⟩
  obtain rfl := hx.symm
  go_wp2_with fail
  refine (lookToken b w3 (N3.out 4 (by omega) (by omega) (by omega))).mono ?_
  rintro e x ⟨rfl, hx⟩
  obtain rfl := hx.symm
  go_wp2_with fail
  refine (lookNum b w3 (N3.out 5 (by omega) (by omega) (by omega))).mono ?_
  rintro e x ⟨rfl, hx⟩
  obtain rfl := hx.symm
  go_wp2_with fail
  refine (lookTerm b w3 (N3.out 6 (by omega) (by omega) (by omega))).mono ?_
  rintro e x ⟨rfl, hx⟩
  obtain rfl := hx.symm
  go_wp2_with fail
  refine (lookFactor b w3 (N3.out 7 (by omega) (by omega) (by omega))).mono ?_
  rintro e x ⟨rfl, hx⟩
  obtain rfl := hx.symm
  go_wp2_with fail
  refine (lookNode b w3 (N3.out 8 (by omega) (by omega) (by omega))).mono ?_
  rintro e x ⟨rfl, hx⟩
  obtain rfl := hx.symm
  go_wp2_with fail
  refine (lookFunc b w3 (N3.out 9 (by omega) (by omega) (by omega))).mono ?_
  rintro e x ⟨rfl, hx⟩
  obtain rfl := hx.symm
  go_wp2_with fail
  refine (lookValue b w3 (N3.out 10 (by omega) (by omega) (by omega))).mono ?_
  rintro e x ⟨rfl, hx⟩
  obtain rfl := hx.symm
  go_wp2_with fail
  refine (lookInstr b w3 (N3.out 11 (by omega) (by omega) (by omega))).mono ?_
  rintro e x ⟨rfl, hx⟩
  obtain rfl := hx.symm
  go_wp2_with fail
  refine (lookChunk b w3 (N3.out 12 (by omega) (by omega) (by omega))).mono ?_
  rintro e x ⟨rfl, hx⟩
  obtain rfl := hx.symm
  go_wp2_with fail
  go_ret
  exact ⟨rfl, T3.out⟩
end Go.Proofs.YtebobpbcllideaaGreatDoor.Book
