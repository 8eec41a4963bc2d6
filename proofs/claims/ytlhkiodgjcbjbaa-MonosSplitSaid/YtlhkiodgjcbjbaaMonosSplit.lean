/-
  MonosSplit: whatever three products come in, the law returns true.
-/
import Derived.Test.YtlhkiodgjcbjbaaMonoKeys
import Derived.Test.YtlhkiodgjcbjbaaLawPost
import Derived.Deep.DeepCutAuto
import Derived.Deep.RegionHeld3
namespace Go.Proofs.Ytlhkiodgjcbjbaa.Mono
open Go.RowKit Go.Sort

set_option maxHeartbeats 4000000 in
theorem split_no (a b c : Nat → Int) (w : World) (ha : Small a) (hb : Small b) (hc : Small c) (hM : mulB a b = false) :
    Calls Try.prog 10 #[mvf a, mvf b, mvf c] w fun e w' => e = .returned (.bool true) ∧ Below w.heap.size w w' := by
  have HA := Lib.hid ha
  have HB := Lib.hid hb
  have HC := Lib.hid hc
  have HX := Lib.hid (boxes3 w 24 a b c)
  have zz : ∀ i, zeroM i = 0 := fun _ => rfl
  have E1 := Lib.hid (mulB_false hM)
  clear ha hb hc hM
  go_enter Try.func10, Try.ntmps10
  go_wp2_with fail
  refine (mul_as (c := zeroM) (n := 3) _ HA.out HB.out E1.out.1 E1.out.2).mono ?_
  rintro e w1 ⟨rfl, hb1⟩
  have A1 := rowBelow HX.out.1 hb1 (by first | (simp; done) | (simp; omega) | exact A0.lt)
  have B1 := rowBelow HX.out.2.1 hb1 (by first | (simp; done) | (simp; omega) | exact B0.lt)
  have C1 := rowBelow HX.out.2.2 hb1 (by first | (simp; done) | (simp; omega) | exact C0.lt)
  have L1 := Lib.hid (((((Below.refl _ _).alloc (by go_size) _).alloc (by go_size) _).alloc (by go_size) _).trans (hb1.mono (by go_size)) : Below w.heap.size w w1)
  clear hb1
  obtain ⟨a1_0, a1_1, a1_2, a1_3⟩ := rowc A1
  have ltA := A1.lt
  obtain ⟨b1_0, b1_1, b1_2, b1_3⟩ := rowc B1
  have ltB := B1.lt
  obtain ⟨c1_0, c1_1, c1_2, c1_3⟩ := rowc C1
  have ltC := C1.lt
  go_wp2_with fail
  refine (alive_any _).mono ?_
  rintro e w2 ⟨rfl, hb2⟩
  have A2 := rowBelow (A1.alloc (.cells (arr4 zeroM) 24)) hb2 (by first | (simp; done) | (simp; omega) | exact A1.lt)
  have B2 := rowBelow (B1.alloc (.cells (arr4 zeroM) 24)) hb2 (by first | (simp; done) | (simp; omega) | exact B1.lt)
  have C2 := rowBelow (C1.alloc (.cells (arr4 zeroM) 24)) hb2 (by first | (simp; done) | (simp; omega) | exact C1.lt)
  have P2 := rowBelow (rowNew w1 24 zeroM) hb2 (by simp)
  have L2 := Lib.hid ((L1.out.alloc (by have := L1.out.size; omega) _).trans (hb2.mono (by have := L1.out.size; simp; omega)) : Below w.heap.size w w2)
  clear hb2 L1 A1 a1_0 a1_1 a1_2 a1_3 ltA B1 b1_0 b1_1 b1_2 b1_3 ltB C1 c1_0 c1_1 c1_2 c1_3 ltC
  obtain ⟨a2_0, a2_1, a2_2, a2_3⟩ := rowc A2
  have ltA := A2.lt
  obtain ⟨b2_0, b2_1, b2_2, b2_3⟩ := rowc B2
  have ltB := B2.lt
  obtain ⟨c2_0, c2_1, c2_2, c2_3⟩ := rowc C2
  have ltC := C2.lt
  obtain ⟨p2_0, p2_1, p2_2, p2_3⟩ := rowc P2
  have ltP := P2.lt
  go_wp2
  go_ret
  exact ⟨rfl, L2.out⟩

theorem keepS {W w' : World} (h : Below W.heap.size W w') {p a b : Nat} {fp fa fb : Nat → Value} {t1 t2 t3 : Nat} (hp : W.rowIs p t1 4 fp) (ha : W.rowIs a t2 4 fa) (hb : W.rowIs b t3 4 fb) :
    (w'.cell? ⟨p, 0, none⟩ = some (fp 0) ∧ w'.cell? ⟨p, 1, none⟩ = some (fp 1) ∧ w'.cell? ⟨p, 2, none⟩ = some (fp 2) ∧ w'.cell? ⟨p, 3, none⟩ = some (fp 3)) ∧
    (w'.cell? ⟨a, 0, none⟩ = some (fa 0) ∧ w'.cell? ⟨a, 1, none⟩ = some (fa 1) ∧ w'.cell? ⟨a, 2, none⟩ = some (fa 2) ∧ w'.cell? ⟨a, 3, none⟩ = some (fa 3)) ∧
    (w'.cell? ⟨b, 0, none⟩ = some (fb 0) ∧ w'.cell? ⟨b, 1, none⟩ = some (fb 1) ∧ w'.cell? ⟨b, 2, none⟩ = some (fb 2) ∧ w'.cell? ⟨b, 3, none⟩ = some (fb 3)) ∧ Below W.heap.size W w' :=
  ⟨rowc (rowBelow hp h hp.lt), rowc (rowBelow ha h ha.lt), rowc (rowBelow hb h hb.lt), h⟩
theorem relW {W X Y : World} (hX : Below W.heap.size W X) (hb : Below X.heap.size X Y) : Below W.heap.size W Y := hX.trans (hb.mono hX.size)

set_option maxRecDepth 20000 in
set_option maxHeartbeats 8000000 in
theorem split_yes (a b c : Nat → Int) (w : World) (ha : Small a) (hb : Small b) (hc : Small c) (hM : mulB a b = true) :
    Calls Try.prog 10 #[mvf a, mvf b, mvf c] w fun e w' => e = .returned (.bool true) ∧ Below w.heap.size w w' := by
  have HA := Lib.hid ha
  have HB := Lib.hid hb
  have HC := Lib.hid hc
  have HX := Lib.hid (boxes3 w 24 a b c)
  have HL := Lib.hid (lcm_small ha hb)
  have HP := Lib.hid (mul_small ha hb)
  have HG := Lib.hid (div_small (mul_small ha hb) (lcm_small ha hb))
  have E0 := Lib.hid (mulE_true hM)
  have E1 := Lib.hid (split_ok hM ha hb)
  have E2 := Lib.hid (split_a hM ha hb)
  have E3 := Lib.hid (split_b hM ha hb)
  have EX := Lib.hid (split_all hM ha hb c)
  have E5 := Lib.hid (lcm_div.2 (split_a hM ha hb))
  have E6 := Lib.hid (split_deg hM ha hb)
  have dd := Lib.hid (And.intro (degM_bd (lcm_small ha hb)) (degM_bd (div_small (mul_small ha hb) (lcm_small ha hb))))
  clear ha hb hc hM
  go_enter Try.func10, Try.ntmps10
  go_wp2_with fail
  refine (mul_as (c := mulM a b) (n := 0) _ HA.out HB.out rfl E0.out).mono ?_
  rintro e w1 ⟨rfl, hb1⟩
  have A1 := rowBelow HX.out.1 hb1 (by first | (simp; done) | (simp; omega) | exact A0.lt)
  have B1 := rowBelow HX.out.2.1 hb1 (by first | (simp; done) | (simp; omega) | exact B0.lt)
  have C1 := rowBelow HX.out.2.2 hb1 (by first | (simp; done) | (simp; omega) | exact C0.lt)
  have L1 := Lib.hid (((((Below.refl _ _).alloc (by go_size) _).alloc (by go_size) _).alloc (by go_size) _).trans (hb1.mono (by go_size)) : Below w.heap.size w w1)
  clear hb1
  obtain ⟨a1_0, a1_1, a1_2, a1_3⟩ := rowc A1
  have ltA := A1.lt
  obtain ⟨b1_0, b1_1, b1_2, b1_3⟩ := rowc B1
  have ltB := B1.lt
  obtain ⟨c1_0, c1_1, c1_2, c1_3⟩ := rowc C1
  have ltC := C1.lt
  have QA := Lib.hid (A1.alloc (.cells (arr4 (mulM a b)) 24))
  have QB := Lib.hid (B1.alloc (.cells (arr4 (mulM a b)) 24))
  have QC := Lib.hid (C1.alloc (.cells (arr4 (mulM a b)) 24))
  have QP := Lib.hid (rowNew w1 24 (mulM a b))
  have QL := Lib.hid (L1.out.alloc (by have := L1.out.size; omega) (.cells (arr4 (mulM a b)) 24))
  obtain ⟨W, hW⟩ : ∃ W, W = (w1.alloc (.cells (arr4 (mulM a b)) 24)) := ⟨_, rfl⟩
  rw [← hW] at QA QB QC QP QL
  go_upto_region 4 with (fail)
  rw [show (w1.alloc (.cells #[.int .u16 (mulM a b 0), .int .u16 (mulM a b 1), .int .u16 (mulM a b 2), .int .u16 (mulM a b 3)] 24)) = W from hW.symm]
  clear hW HX a1_0 a1_1 a1_2 a1_3 b1_0 b1_1 b1_2 b1_3 c1_0 c1_1 c1_2 c1_3 A1 B1 C1 ltA ltB ltC L1
  go_cut [9, 10] (fun v9 v10 w => ∃ g, v9 = .pointer (some ⟨g, 0, none⟩) ∧ v10 = .bool true ∧ w.rowIs g 24 4 (cell (divM (mulM a b) (lcmM a b))) ∧ W.heap.size ≤ g ∧ Below W.heap.size W w)
  case first =>
    clear QC QL E2 E3 EX E5 E6 dd HG
    go_region_held3 (fun w' => (w'.cell? ⟨w1.heap.size, 0, none⟩ = some (cell (mulM a b) 0) ∧ w'.cell? ⟨w1.heap.size, 1, none⟩ = some (cell (mulM a b) 1) ∧ w'.cell? ⟨w1.heap.size, 2, none⟩ = some (cell (mulM a b) 2) ∧ w'.cell? ⟨w1.heap.size, 3, none⟩ = some (cell (mulM a b) 3)) ∧
      (w'.cell? ⟨w.heap.size, 0, none⟩ = some (cell a 0) ∧ w'.cell? ⟨w.heap.size, 1, none⟩ = some (cell a 1) ∧ w'.cell? ⟨w.heap.size, 2, none⟩ = some (cell a 2) ∧ w'.cell? ⟨w.heap.size, 3, none⟩ = some (cell a 3)) ∧
      (w'.cell? ⟨w.heap.size + 1, 0, none⟩ = some (cell b 0) ∧ w'.cell? ⟨w.heap.size + 1, 1, none⟩ = some (cell b 1) ∧ w'.cell? ⟨w.heap.size + 1, 2, none⟩ = some (cell b 2) ∧ w'.cell? ⟨w.heap.size + 1, 3, none⟩ = some (cell b 3)) ∧ Below W.heap.size W w')
      ((refine keepS ?_ QP.out QA.out QB.out; repeat (first
        | (with_reducible assumption)
        | (with_reducible exact Below.refl _ _)
        | (with_reducible refine Below.setCell ?_ ?_ _)
        | (with_reducible refine Below.alloc ?_ ?_ _)
        | (with_reducible refine Below.drew ?_)
        | (with_reducible exact (‹(_ ∧ _) ∧ (_ ∧ _) ∧ (_ ∧ _) ∧ Below W.heap.size W _›).2.2.2)
        | (simp only [World.size_alloc, World.size_drew, World.size_setCell]; omega) | omega)))
      (first
        | (go_at_call 15; refine (lcm_any a b _ HA.out HB.out).mono ?_; rintro e w6 ⟨rfl, hb6⟩; have hB6 := relW (by first | with_reducible assumption | exact (‹(_ ∧ _) ∧ (_ ∧ _) ∧ (_ ∧ _) ∧ Below W.heap.size W _›).2.2.2) hb6; obtain ⟨hc6, hf6⟩ := bcell hb6; have hz6 := hb6.size; (try simp only [World.size_alloc, World.size_drew] at hz6 hc6 hf6); (try rw [Nat.add_one_le_iff] at hz6); have hs6 := hB6.size; have Y6 := Lib.hid hb6; clear hb6)
        | (go_at_call 12; refine (div_as (c := divM (mulM a b) (lcmM a b)) (n := true) _ HP.out HL.out rfl E1.out).mono ?_; rintro e w7 ⟨rfl, hb7⟩; have hB7 := relW (by first | with_reducible assumption | exact (‹(_ ∧ _) ∧ (_ ∧ _) ∧ (_ ∧ _) ∧ Below W.heap.size W _›).2.2.2) hb7; obtain ⟨hc7, hf7⟩ := bcell hb7; have hz7 := hb7.size; (try simp only [World.size_alloc, World.size_drew] at hz7 hc7 hf7); (try rw [Nat.add_one_le_iff] at hz7); have hs7 := hB7.size; have Y7 := Lib.hid hb7; clear hb7))
    · go_wp2_with fail
      go_meet
      case rel => exact ⟨_, rfl, rfl, rowNew w7 24 (divM (mulM a b) (lcmM a b)), hs7, hB7.alloc hs7 _⟩
    · go_wp2_with fail
      go_meet
      case rel => exact ⟨_, rfl, rfl, (set4r (rowBelow (rowNew w6 24 zeroM) Y7.out (by simp)) (divM (mulM a b) (lcmM a b))), hs6, (((hB7.setCell hs6 _).setCell hs6 _).setCell hs6 _).setCell hs6 _⟩
    · go_wp2_with fail
      go_meet
      case rel => exact ⟨_, rfl, rfl, (set4r (rowBelow (rowBelow (rowNew W.drew 24 zeroM) Y6.out (by simp)) Y7.out (by have e : W.drew.heap.size = W.heap.size := rfl; omega)) (divM (mulM a b) (lcmM a b))), Nat.le_refl _, (((hB7.setCell (Nat.le_refl _) _).setCell (Nat.le_refl _) _).setCell (Nat.le_refl _) _).setCell (Nat.le_refl _) _⟩
  case rest =>
    obtain ⟨g, rfl, rfl, G2, hg, hbc⟩ := hcut
    obtain ⟨w2, rfl⟩ : ∃ w2, w2 = wc := ⟨_, rfl⟩
    have A2 := rowBelow QA.out hbc QA.out.lt
    have B2 := rowBelow QB.out hbc QB.out.lt
    have C2 := rowBelow QC.out hbc QC.out.lt
    have P2 := rowBelow QP.out hbc QP.out.lt
    have L2 := Lib.hid (QL.out.trans (hbc.mono QL.out.size))
    clear QA QB QC QP QL hbc hg
    obtain ⟨a2_0, a2_1, a2_2, a2_3⟩ := rowc A2
    have ltA := A2.lt
    obtain ⟨b2_0, b2_1, b2_2, b2_3⟩ := rowc B2
    have ltB := B2.lt
    obtain ⟨c2_0, c2_1, c2_2, c2_3⟩ := rowc C2
    have ltC := C2.lt
    obtain ⟨p2_0, p2_1, p2_2, p2_3⟩ := rowc P2
    have ltP := P2.lt
    obtain ⟨g2_0, g2_1, g2_2, g2_3⟩ := rowc G2
    have ltG := G2.lt
    go_wp2_with fail
    refine (div_as (c := divM a (divM (mulM a b) (lcmM a b))) (n := true) _ HA.out HG.out rfl E2.out).mono ?_
    rintro e w3 ⟨rfl, hb3⟩
    have A3 := rowBelow A2 hb3 (by first | (simp; done) | (simp; omega) | exact A2.lt)
    have B3 := rowBelow B2 hb3 (by first | (simp; done) | (simp; omega) | exact B2.lt)
    have C3 := rowBelow C2 hb3 (by first | (simp; done) | (simp; omega) | exact C2.lt)
    have P3 := rowBelow P2 hb3 (by first | (simp; done) | (simp; omega) | exact P2.lt)
    have G3 := rowBelow G2 hb3 (by first | (simp; done) | (simp; omega) | exact G2.lt)
    have L3 := Lib.hid (L2.out.trans (hb3.mono L2.out.size) : Below w.heap.size w w3)
    clear hb3 L2 A2 a2_0 a2_1 a2_2 a2_3 ltA B2 b2_0 b2_1 b2_2 b2_3 ltB C2 c2_0 c2_1 c2_2 c2_3 ltC P2 p2_0 p2_1 p2_2 p2_3 ltP G2 g2_0 g2_1 g2_2 g2_3 ltG
    obtain ⟨a3_0, a3_1, a3_2, a3_3⟩ := rowc A3
    have ltA := A3.lt
    obtain ⟨b3_0, b3_1, b3_2, b3_3⟩ := rowc B3
    have ltB := B3.lt
    obtain ⟨c3_0, c3_1, c3_2, c3_3⟩ := rowc C3
    have ltC := C3.lt
    obtain ⟨p3_0, p3_1, p3_2, p3_3⟩ := rowc P3
    have ltP := P3.lt
    obtain ⟨g3_0, g3_1, g3_2, g3_3⟩ := rowc G3
    have ltG := G3.lt
    go_wp2_with fail
    refine (div_as (c := divM b (divM (mulM a b) (lcmM a b))) (n := true) _ HB.out HG.out rfl E3.out).mono ?_
    rintro e w4 ⟨rfl, hb4⟩
    have A4 := rowBelow (A3.alloc (.cells (arr4 (divM a (divM (mulM a b) (lcmM a b)))) 24)) hb4 (by first | (simp; done) | (simp; omega) | exact A3.lt)
    have B4 := rowBelow (B3.alloc (.cells (arr4 (divM a (divM (mulM a b) (lcmM a b)))) 24)) hb4 (by first | (simp; done) | (simp; omega) | exact B3.lt)
    have C4 := rowBelow (C3.alloc (.cells (arr4 (divM a (divM (mulM a b) (lcmM a b)))) 24)) hb4 (by first | (simp; done) | (simp; omega) | exact C3.lt)
    have P4 := rowBelow (P3.alloc (.cells (arr4 (divM a (divM (mulM a b) (lcmM a b)))) 24)) hb4 (by first | (simp; done) | (simp; omega) | exact P3.lt)
    have G4 := rowBelow (G3.alloc (.cells (arr4 (divM a (divM (mulM a b) (lcmM a b)))) 24)) hb4 (by first | (simp; done) | (simp; omega) | exact G3.lt)
    have L4 := Lib.hid ((L3.out.alloc (by have := L3.out.size; omega) _).trans (hb4.mono (by have := L3.out.size; simp; omega)) : Below w.heap.size w w4)
    clear hb4 L3 A3 a3_0 a3_1 a3_2 a3_3 ltA B3 b3_0 b3_1 b3_2 b3_3 ltB C3 c3_0 c3_1 c3_2 c3_3 ltC P3 p3_0 p3_1 p3_2 p3_3 ltP G3 g3_0 g3_1 g3_2 g3_3 ltG
    obtain ⟨a4_0, a4_1, a4_2, a4_3⟩ := rowc A4
    have ltA := A4.lt
    obtain ⟨b4_0, b4_1, b4_2, b4_3⟩ := rowc B4
    have ltB := B4.lt
    obtain ⟨c4_0, c4_1, c4_2, c4_3⟩ := rowc C4
    have ltC := C4.lt
    obtain ⟨p4_0, p4_1, p4_2, p4_3⟩ := rowc P4
    have ltP := P4.lt
    obtain ⟨g4_0, g4_1, g4_2, g4_3⟩ := rowc G4
    have ltG := G4.lt
    cases hX : divB a c <;> cases hY : divB b c
    · have X0 := Lib.hid hX
      have Y0 := Lib.hid hY
      have E4 := Lib.hid (show divB (divM (mulM a b) (lcmM a b)) c = false by rw [EX.out, hX, hY]; rfl)
      have es := IntWalk.i64_in (degM (divM (mulM a b) (lcmM a b)) + degM (lcmM a b)) (by have := dd.out; omega)
      clear hX hY
      go_wp2_with fail
      refine (div_as (c := divM a c) (n := false) _ HA.out HC.out rfl X0.out).mono ?_
      rintro e w5 ⟨rfl, hb5⟩
      have A5 := rowBelow (A4.alloc (.cells (arr4 (divM b (divM (mulM a b) (lcmM a b)))) 24)) hb5 (by first | (simp; done) | (simp; omega) | exact A4.lt)
      have B5 := rowBelow (B4.alloc (.cells (arr4 (divM b (divM (mulM a b) (lcmM a b)))) 24)) hb5 (by first | (simp; done) | (simp; omega) | exact B4.lt)
      have C5 := rowBelow (C4.alloc (.cells (arr4 (divM b (divM (mulM a b) (lcmM a b)))) 24)) hb5 (by first | (simp; done) | (simp; omega) | exact C4.lt)
      have P5 := rowBelow (P4.alloc (.cells (arr4 (divM b (divM (mulM a b) (lcmM a b)))) 24)) hb5 (by first | (simp; done) | (simp; omega) | exact P4.lt)
      have G5 := rowBelow (G4.alloc (.cells (arr4 (divM b (divM (mulM a b) (lcmM a b)))) 24)) hb5 (by first | (simp; done) | (simp; omega) | exact G4.lt)
      have L5 := Lib.hid ((L4.out.alloc (by have := L4.out.size; omega) _).trans (hb5.mono (by have := L4.out.size; simp; omega)) : Below w.heap.size w w5)
      clear hb5 L4 A4 a4_0 a4_1 a4_2 a4_3 ltA B4 b4_0 b4_1 b4_2 b4_3 ltB C4 c4_0 c4_1 c4_2 c4_3 ltC P4 p4_0 p4_1 p4_2 p4_3 ltP G4 g4_0 g4_1 g4_2 g4_3 ltG
      obtain ⟨a5_0, a5_1, a5_2, a5_3⟩ := rowc A5
      have ltA := A5.lt
      obtain ⟨b5_0, b5_1, b5_2, b5_3⟩ := rowc B5
      have ltB := B5.lt
      obtain ⟨c5_0, c5_1, c5_2, c5_3⟩ := rowc C5
      have ltC := C5.lt
      obtain ⟨p5_0, p5_1, p5_2, p5_3⟩ := rowc P5
      have ltP := P5.lt
      obtain ⟨g5_0, g5_1, g5_2, g5_3⟩ := rowc G5
      have ltG := G5.lt
      go_wp2_with fail
      refine (div_as (c := divM b c) (n := false) _ HB.out HC.out rfl Y0.out).mono ?_
      rintro e w6 ⟨rfl, hb6⟩
      have A6 := rowBelow (A5.alloc (.cells (arr4 (divM a c)) 24)) hb6 (by first | (simp; done) | (simp; omega) | exact A5.lt)
      have B6 := rowBelow (B5.alloc (.cells (arr4 (divM a c)) 24)) hb6 (by first | (simp; done) | (simp; omega) | exact B5.lt)
      have C6 := rowBelow (C5.alloc (.cells (arr4 (divM a c)) 24)) hb6 (by first | (simp; done) | (simp; omega) | exact C5.lt)
      have P6 := rowBelow (P5.alloc (.cells (arr4 (divM a c)) 24)) hb6 (by first | (simp; done) | (simp; omega) | exact P5.lt)
      have G6 := rowBelow (G5.alloc (.cells (arr4 (divM a c)) 24)) hb6 (by first | (simp; done) | (simp; omega) | exact G5.lt)
      have L6 := Lib.hid ((L5.out.alloc (by have := L5.out.size; omega) _).trans (hb6.mono (by have := L5.out.size; simp; omega)) : Below w.heap.size w w6)
      clear hb6 L5 A5 a5_0 a5_1 a5_2 a5_3 ltA B5 b5_0 b5_1 b5_2 b5_3 ltB C5 c5_0 c5_1 c5_2 c5_3 ltC P5 p5_0 p5_1 p5_2 p5_3 ltP G5 g5_0 g5_1 g5_2 g5_3 ltG
      obtain ⟨a6_0, a6_1, a6_2, a6_3⟩ := rowc A6
      have ltA := A6.lt
      obtain ⟨b6_0, b6_1, b6_2, b6_3⟩ := rowc B6
      have ltB := B6.lt
      obtain ⟨c6_0, c6_1, c6_2, c6_3⟩ := rowc C6
      have ltC := C6.lt
      obtain ⟨p6_0, p6_1, p6_2, p6_3⟩ := rowc P6
      have ltP := P6.lt
      obtain ⟨g6_0, g6_1, g6_2, g6_3⟩ := rowc G6
      have ltG := G6.lt
      go_wp2_with fail
      refine (div_as (c := divM (divM (mulM a b) (lcmM a b)) c) (n := false) _ HG.out HC.out rfl E4.out).mono ?_
      rintro e w7 ⟨rfl, hb7⟩
      have A7 := rowBelow (A6.alloc (.cells (arr4 (divM b c)) 24)) hb7 (by first | (simp; done) | (simp; omega) | exact A6.lt)
      have B7 := rowBelow (B6.alloc (.cells (arr4 (divM b c)) 24)) hb7 (by first | (simp; done) | (simp; omega) | exact B6.lt)
      have C7 := rowBelow (C6.alloc (.cells (arr4 (divM b c)) 24)) hb7 (by first | (simp; done) | (simp; omega) | exact C6.lt)
      have P7 := rowBelow (P6.alloc (.cells (arr4 (divM b c)) 24)) hb7 (by first | (simp; done) | (simp; omega) | exact P6.lt)
      have G7 := rowBelow (G6.alloc (.cells (arr4 (divM b c)) 24)) hb7 (by first | (simp; done) | (simp; omega) | exact G6.lt)
      have L7 := Lib.hid ((L6.out.alloc (by have := L6.out.size; omega) _).trans (hb7.mono (by have := L6.out.size; simp; omega)) : Below w.heap.size w w7)
      clear hb7 L6 A6 a6_0 a6_1 a6_2 a6_3 ltA B6 b6_0 b6_1 b6_2 b6_3 ltB C6 c6_0 c6_1 c6_2 c6_3 ltC P6 p6_0 p6_1 p6_2 p6_3 ltP G6 g6_0 g6_1 g6_2 g6_3 ltG
      obtain ⟨a7_0, a7_1, a7_2, a7_3⟩ := rowc A7
      have ltA := A7.lt
      obtain ⟨b7_0, b7_1, b7_2, b7_3⟩ := rowc B7
      have ltB := B7.lt
      obtain ⟨c7_0, c7_1, c7_2, c7_3⟩ := rowc C7
      have ltC := C7.lt
      obtain ⟨p7_0, p7_1, p7_2, p7_3⟩ := rowc P7
      have ltP := P7.lt
      obtain ⟨g7_0, g7_1, g7_2, g7_3⟩ := rowc G7
      have ltG := G7.lt
      go_wp2_with fail
      refine wp_region_quiet_below (by kernel_rfl) (by kernel_rfl) ?_
      obtain ⟨ar_0, ar_1, ar_2, ar_3⟩ := rows4 (A7.alloc (.cells (arr4 (divM (divM (mulM a b) (lcmM a b)) c)) 24))
      obtain ⟨br_0, br_1, br_2, br_3⟩ := rows4 (B7.alloc (.cells (arr4 (divM (divM (mulM a b) (lcmM a b)) c)) 24))
      obtain ⟨cr_0, cr_1, cr_2, cr_3⟩ := rows4 (C7.alloc (.cells (arr4 (divM (divM (mulM a b) (lcmM a b)) c)) 24))
      obtain ⟨pr_0, pr_1, pr_2, pr_3⟩ := rows4 (P7.alloc (.cells (arr4 (divM (divM (mulM a b) (lcmM a b)) c)) 24))
      obtain ⟨gr_0, gr_1, gr_2, gr_3⟩ := rows4 (G7.alloc (.cells (arr4 (divM (divM (mulM a b) (lcmM a b)) c)) 24))
      repeat (go_big_quiet_step (first
        | (go_at_call 21; exact Calls.regrown_of (alive_any _))
        | (go_at_call 15; first | (with_reducible exact Calls.regrown_of (lcm_at (a := a) (b := divM (mulM a b) (lcmM a b)) (c := a) _ HA.out HG.out E5.out)) | (with_reducible exact Calls.regrown_of (lcm_any a b _ HA.out HB.out)))
        | (go_at_call 17; first | (with_reducible exact Calls.regrown_of (degree_any (divM (mulM a b) (lcmM a b)) _ HG.out)) | (with_reducible exact Calls.regrown_of (degree_any (lcmM a b) _ HL.out)) | (with_reducible exact Calls.regrown_of (degree_as (a := mulM a b) _ HP.out E6.out)))))
      refine wpQuiet_nil ?_
      intro w8 hw8
      obtain ⟨q, hq⟩ := hw8
      have hb8 : Below (w7.alloc (.cells (arr4 (divM (divM (mulM a b) (lcmM a b)) c)) 24)).heap.size (w7.alloc (.cells (arr4 (divM (divM (mulM a b) (lcmM a b)) c)) 24)) w8 := by
        have h := below_regrown (w7.alloc (.cells (arr4 (divM (divM (mulM a b) (lcmM a b)) c)) 24)) q.d q.os
        have e : w8 = grow (redrawn (w7.alloc (.cells (arr4 (divM (divM (mulM a b) (lcmM a b)) c)) 24)) q.d) q.os := hq
        rw [e]; exact h
      clear hq ar_0 ar_1 ar_2 ar_3 br_0 br_1 br_2 br_3 cr_0 cr_1 cr_2 cr_3 pr_0 pr_1 pr_2 pr_3 gr_0 gr_1 gr_2 gr_3
      have A8 := rowBelow (A7.alloc (.cells (arr4 (divM (divM (mulM a b) (lcmM a b)) c)) 24)) hb8 (by first | (simp; done) | (simp; omega) | exact A7.lt)
      have B8 := rowBelow (B7.alloc (.cells (arr4 (divM (divM (mulM a b) (lcmM a b)) c)) 24)) hb8 (by first | (simp; done) | (simp; omega) | exact B7.lt)
      have C8 := rowBelow (C7.alloc (.cells (arr4 (divM (divM (mulM a b) (lcmM a b)) c)) 24)) hb8 (by first | (simp; done) | (simp; omega) | exact C7.lt)
      have P8 := rowBelow (P7.alloc (.cells (arr4 (divM (divM (mulM a b) (lcmM a b)) c)) 24)) hb8 (by first | (simp; done) | (simp; omega) | exact P7.lt)
      have G8 := rowBelow (G7.alloc (.cells (arr4 (divM (divM (mulM a b) (lcmM a b)) c)) 24)) hb8 (by first | (simp; done) | (simp; omega) | exact G7.lt)
      have L8 := Lib.hid ((L7.out.alloc (by have := L7.out.size; omega) _).trans (hb8.mono (by have := L7.out.size; simp; omega)) : Below w.heap.size w w8)
      clear hb8 L7 A7 a7_0 a7_1 a7_2 a7_3 ltA B7 b7_0 b7_1 b7_2 b7_3 ltB C7 c7_0 c7_1 c7_2 c7_3 ltC P7 p7_0 p7_1 p7_2 p7_3 ltP G7 g7_0 g7_1 g7_2 g7_3 ltG
      obtain ⟨a8_0, a8_1, a8_2, a8_3⟩ := rowc A8
      have ltA := A8.lt
      obtain ⟨b8_0, b8_1, b8_2, b8_3⟩ := rowc B8
      have ltB := B8.lt
      obtain ⟨c8_0, c8_1, c8_2, c8_3⟩ := rowc C8
      have ltC := C8.lt
      obtain ⟨p8_0, p8_1, p8_2, p8_3⟩ := rowc P8
      have ltP := P8.lt
      obtain ⟨g8_0, g8_1, g8_2, g8_3⟩ := rowc G8
      have ltG := G8.lt
      go_wp2
      go_ret
      exact ⟨rfl, L8.out⟩
    · have X0 := Lib.hid hX
      have Y0 := Lib.hid hY
      have E4 := Lib.hid (show divB (divM (mulM a b) (lcmM a b)) c = false by rw [EX.out, hX, hY]; rfl)
      have es := IntWalk.i64_in (degM (divM (mulM a b) (lcmM a b)) + degM (lcmM a b)) (by have := dd.out; omega)
      clear hX hY
      go_wp2_with fail
      refine (div_as (c := divM a c) (n := false) _ HA.out HC.out rfl X0.out).mono ?_
      rintro e w5 ⟨rfl, hb5⟩
      have A5 := rowBelow (A4.alloc (.cells (arr4 (divM b (divM (mulM a b) (lcmM a b)))) 24)) hb5 (by first | (simp; done) | (simp; omega) | exact A4.lt)
      have B5 := rowBelow (B4.alloc (.cells (arr4 (divM b (divM (mulM a b) (lcmM a b)))) 24)) hb5 (by first | (simp; done) | (simp; omega) | exact B4.lt)
      have C5 := rowBelow (C4.alloc (.cells (arr4 (divM b (divM (mulM a b) (lcmM a b)))) 24)) hb5 (by first | (simp; done) | (simp; omega) | exact C4.lt)
      have P5 := rowBelow (P4.alloc (.cells (arr4 (divM b (divM (mulM a b) (lcmM a b)))) 24)) hb5 (by first | (simp; done) | (simp; omega) | exact P4.lt)
      have G5 := rowBelow (G4.alloc (.cells (arr4 (divM b (divM (mulM a b) (lcmM a b)))) 24)) hb5 (by first | (simp; done) | (simp; omega) | exact G4.lt)
      have L5 := Lib.hid ((L4.out.alloc (by have := L4.out.size; omega) _).trans (hb5.mono (by have := L4.out.size; simp; omega)) : Below w.heap.size w w5)
      clear hb5 L4 A4 a4_0 a4_1 a4_2 a4_3 ltA B4 b4_0 b4_1 b4_2 b4_3 ltB C4 c4_0 c4_1 c4_2 c4_3 ltC P4 p4_0 p4_1 p4_2 p4_3 ltP G4 g4_0 g4_1 g4_2 g4_3 ltG
      obtain ⟨a5_0, a5_1, a5_2, a5_3⟩ := rowc A5
      have ltA := A5.lt
      obtain ⟨b5_0, b5_1, b5_2, b5_3⟩ := rowc B5
      have ltB := B5.lt
      obtain ⟨c5_0, c5_1, c5_2, c5_3⟩ := rowc C5
      have ltC := C5.lt
      obtain ⟨p5_0, p5_1, p5_2, p5_3⟩ := rowc P5
      have ltP := P5.lt
      obtain ⟨g5_0, g5_1, g5_2, g5_3⟩ := rowc G5
      have ltG := G5.lt
      go_wp2_with fail
      refine (div_as (c := divM b c) (n := true) _ HB.out HC.out rfl Y0.out).mono ?_
      rintro e w6 ⟨rfl, hb6⟩
      have A6 := rowBelow (A5.alloc (.cells (arr4 (divM a c)) 24)) hb6 (by first | (simp; done) | (simp; omega) | exact A5.lt)
      have B6 := rowBelow (B5.alloc (.cells (arr4 (divM a c)) 24)) hb6 (by first | (simp; done) | (simp; omega) | exact B5.lt)
      have C6 := rowBelow (C5.alloc (.cells (arr4 (divM a c)) 24)) hb6 (by first | (simp; done) | (simp; omega) | exact C5.lt)
      have P6 := rowBelow (P5.alloc (.cells (arr4 (divM a c)) 24)) hb6 (by first | (simp; done) | (simp; omega) | exact P5.lt)
      have G6 := rowBelow (G5.alloc (.cells (arr4 (divM a c)) 24)) hb6 (by first | (simp; done) | (simp; omega) | exact G5.lt)
      have L6 := Lib.hid ((L5.out.alloc (by have := L5.out.size; omega) _).trans (hb6.mono (by have := L5.out.size; simp; omega)) : Below w.heap.size w w6)
      clear hb6 L5 A5 a5_0 a5_1 a5_2 a5_3 ltA B5 b5_0 b5_1 b5_2 b5_3 ltB C5 c5_0 c5_1 c5_2 c5_3 ltC P5 p5_0 p5_1 p5_2 p5_3 ltP G5 g5_0 g5_1 g5_2 g5_3 ltG
      obtain ⟨a6_0, a6_1, a6_2, a6_3⟩ := rowc A6
      have ltA := A6.lt
      obtain ⟨b6_0, b6_1, b6_2, b6_3⟩ := rowc B6
      have ltB := B6.lt
      obtain ⟨c6_0, c6_1, c6_2, c6_3⟩ := rowc C6
      have ltC := C6.lt
      obtain ⟨p6_0, p6_1, p6_2, p6_3⟩ := rowc P6
      have ltP := P6.lt
      obtain ⟨g6_0, g6_1, g6_2, g6_3⟩ := rowc G6
      have ltG := G6.lt
      go_wp2_with fail
      refine (div_as (c := divM (divM (mulM a b) (lcmM a b)) c) (n := false) _ HG.out HC.out rfl E4.out).mono ?_
      rintro e w7 ⟨rfl, hb7⟩
      have A7 := rowBelow (A6.alloc (.cells (arr4 (divM b c)) 24)) hb7 (by first | (simp; done) | (simp; omega) | exact A6.lt)
      have B7 := rowBelow (B6.alloc (.cells (arr4 (divM b c)) 24)) hb7 (by first | (simp; done) | (simp; omega) | exact B6.lt)
      have C7 := rowBelow (C6.alloc (.cells (arr4 (divM b c)) 24)) hb7 (by first | (simp; done) | (simp; omega) | exact C6.lt)
      have P7 := rowBelow (P6.alloc (.cells (arr4 (divM b c)) 24)) hb7 (by first | (simp; done) | (simp; omega) | exact P6.lt)
      have G7 := rowBelow (G6.alloc (.cells (arr4 (divM b c)) 24)) hb7 (by first | (simp; done) | (simp; omega) | exact G6.lt)
      have L7 := Lib.hid ((L6.out.alloc (by have := L6.out.size; omega) _).trans (hb7.mono (by have := L6.out.size; simp; omega)) : Below w.heap.size w w7)
      clear hb7 L6 A6 a6_0 a6_1 a6_2 a6_3 ltA B6 b6_0 b6_1 b6_2 b6_3 ltB C6 c6_0 c6_1 c6_2 c6_3 ltC P6 p6_0 p6_1 p6_2 p6_3 ltP G6 g6_0 g6_1 g6_2 g6_3 ltG
      obtain ⟨a7_0, a7_1, a7_2, a7_3⟩ := rowc A7
      have ltA := A7.lt
      obtain ⟨b7_0, b7_1, b7_2, b7_3⟩ := rowc B7
      have ltB := B7.lt
      obtain ⟨c7_0, c7_1, c7_2, c7_3⟩ := rowc C7
      have ltC := C7.lt
      obtain ⟨p7_0, p7_1, p7_2, p7_3⟩ := rowc P7
      have ltP := P7.lt
      obtain ⟨g7_0, g7_1, g7_2, g7_3⟩ := rowc G7
      have ltG := G7.lt
      go_wp2_with fail
      refine wp_region_quiet_below (by kernel_rfl) (by kernel_rfl) ?_
      obtain ⟨ar_0, ar_1, ar_2, ar_3⟩ := rows4 (A7.alloc (.cells (arr4 (divM (divM (mulM a b) (lcmM a b)) c)) 24))
      obtain ⟨br_0, br_1, br_2, br_3⟩ := rows4 (B7.alloc (.cells (arr4 (divM (divM (mulM a b) (lcmM a b)) c)) 24))
      obtain ⟨cr_0, cr_1, cr_2, cr_3⟩ := rows4 (C7.alloc (.cells (arr4 (divM (divM (mulM a b) (lcmM a b)) c)) 24))
      obtain ⟨pr_0, pr_1, pr_2, pr_3⟩ := rows4 (P7.alloc (.cells (arr4 (divM (divM (mulM a b) (lcmM a b)) c)) 24))
      obtain ⟨gr_0, gr_1, gr_2, gr_3⟩ := rows4 (G7.alloc (.cells (arr4 (divM (divM (mulM a b) (lcmM a b)) c)) 24))
      repeat (go_big_quiet_step (first
        | (go_at_call 21; exact Calls.regrown_of (alive_any _))
        | (go_at_call 15; first | (with_reducible exact Calls.regrown_of (lcm_at (a := a) (b := divM (mulM a b) (lcmM a b)) (c := a) _ HA.out HG.out E5.out)) | (with_reducible exact Calls.regrown_of (lcm_any a b _ HA.out HB.out)))
        | (go_at_call 17; first | (with_reducible exact Calls.regrown_of (degree_any (divM (mulM a b) (lcmM a b)) _ HG.out)) | (with_reducible exact Calls.regrown_of (degree_any (lcmM a b) _ HL.out)) | (with_reducible exact Calls.regrown_of (degree_as (a := mulM a b) _ HP.out E6.out)))))
      refine wpQuiet_nil ?_
      intro w8 hw8
      obtain ⟨q, hq⟩ := hw8
      have hb8 : Below (w7.alloc (.cells (arr4 (divM (divM (mulM a b) (lcmM a b)) c)) 24)).heap.size (w7.alloc (.cells (arr4 (divM (divM (mulM a b) (lcmM a b)) c)) 24)) w8 := by
        have h := below_regrown (w7.alloc (.cells (arr4 (divM (divM (mulM a b) (lcmM a b)) c)) 24)) q.d q.os
        have e : w8 = grow (redrawn (w7.alloc (.cells (arr4 (divM (divM (mulM a b) (lcmM a b)) c)) 24)) q.d) q.os := hq
        rw [e]; exact h
      clear hq ar_0 ar_1 ar_2 ar_3 br_0 br_1 br_2 br_3 cr_0 cr_1 cr_2 cr_3 pr_0 pr_1 pr_2 pr_3 gr_0 gr_1 gr_2 gr_3
      have A8 := rowBelow (A7.alloc (.cells (arr4 (divM (divM (mulM a b) (lcmM a b)) c)) 24)) hb8 (by first | (simp; done) | (simp; omega) | exact A7.lt)
      have B8 := rowBelow (B7.alloc (.cells (arr4 (divM (divM (mulM a b) (lcmM a b)) c)) 24)) hb8 (by first | (simp; done) | (simp; omega) | exact B7.lt)
      have C8 := rowBelow (C7.alloc (.cells (arr4 (divM (divM (mulM a b) (lcmM a b)) c)) 24)) hb8 (by first | (simp; done) | (simp; omega) | exact C7.lt)
      have P8 := rowBelow (P7.alloc (.cells (arr4 (divM (divM (mulM a b) (lcmM a b)) c)) 24)) hb8 (by first | (simp; done) | (simp; omega) | exact P7.lt)
      have G8 := rowBelow (G7.alloc (.cells (arr4 (divM (divM (mulM a b) (lcmM a b)) c)) 24)) hb8 (by first | (simp; done) | (simp; omega) | exact G7.lt)
      have L8 := Lib.hid ((L7.out.alloc (by have := L7.out.size; omega) _).trans (hb8.mono (by have := L7.out.size; simp; omega)) : Below w.heap.size w w8)
      clear hb8 L7 A7 a7_0 a7_1 a7_2 a7_3 ltA B7 b7_0 b7_1 b7_2 b7_3 ltB C7 c7_0 c7_1 c7_2 c7_3 ltC P7 p7_0 p7_1 p7_2 p7_3 ltP G7 g7_0 g7_1 g7_2 g7_3 ltG
      obtain ⟨a8_0, a8_1, a8_2, a8_3⟩ := rowc A8
      have ltA := A8.lt
      obtain ⟨b8_0, b8_1, b8_2, b8_3⟩ := rowc B8
      have ltB := B8.lt
      obtain ⟨c8_0, c8_1, c8_2, c8_3⟩ := rowc C8
      have ltC := C8.lt
      obtain ⟨p8_0, p8_1, p8_2, p8_3⟩ := rowc P8
      have ltP := P8.lt
      obtain ⟨g8_0, g8_1, g8_2, g8_3⟩ := rowc G8
      have ltG := G8.lt
      go_wp2
      go_ret
      exact ⟨rfl, L8.out⟩
    · have X0 := Lib.hid hX
      have Y0 := Lib.hid hY
      have E4 := Lib.hid (show divB (divM (mulM a b) (lcmM a b)) c = false by rw [EX.out, hX, hY]; rfl)
      have es := IntWalk.i64_in (degM (divM (mulM a b) (lcmM a b)) + degM (lcmM a b)) (by have := dd.out; omega)
      clear hX hY
      go_wp2_with fail
      refine (div_as (c := divM a c) (n := true) _ HA.out HC.out rfl X0.out).mono ?_
      rintro e w5 ⟨rfl, hb5⟩
      have A5 := rowBelow (A4.alloc (.cells (arr4 (divM b (divM (mulM a b) (lcmM a b)))) 24)) hb5 (by first | (simp; done) | (simp; omega) | exact A4.lt)
      have B5 := rowBelow (B4.alloc (.cells (arr4 (divM b (divM (mulM a b) (lcmM a b)))) 24)) hb5 (by first | (simp; done) | (simp; omega) | exact B4.lt)
      have C5 := rowBelow (C4.alloc (.cells (arr4 (divM b (divM (mulM a b) (lcmM a b)))) 24)) hb5 (by first | (simp; done) | (simp; omega) | exact C4.lt)
      have P5 := rowBelow (P4.alloc (.cells (arr4 (divM b (divM (mulM a b) (lcmM a b)))) 24)) hb5 (by first | (simp; done) | (simp; omega) | exact P4.lt)
      have G5 := rowBelow (G4.alloc (.cells (arr4 (divM b (divM (mulM a b) (lcmM a b)))) 24)) hb5 (by first | (simp; done) | (simp; omega) | exact G4.lt)
      have L5 := Lib.hid ((L4.out.alloc (by have := L4.out.size; omega) _).trans (hb5.mono (by have := L4.out.size; simp; omega)) : Below w.heap.size w w5)
      clear hb5 L4 A4 a4_0 a4_1 a4_2 a4_3 ltA B4 b4_0 b4_1 b4_2 b4_3 ltB C4 c4_0 c4_1 c4_2 c4_3 ltC P4 p4_0 p4_1 p4_2 p4_3 ltP G4 g4_0 g4_1 g4_2 g4_3 ltG
      obtain ⟨a5_0, a5_1, a5_2, a5_3⟩ := rowc A5
      have ltA := A5.lt
      obtain ⟨b5_0, b5_1, b5_2, b5_3⟩ := rowc B5
      have ltB := B5.lt
      obtain ⟨c5_0, c5_1, c5_2, c5_3⟩ := rowc C5
      have ltC := C5.lt
      obtain ⟨p5_0, p5_1, p5_2, p5_3⟩ := rowc P5
      have ltP := P5.lt
      obtain ⟨g5_0, g5_1, g5_2, g5_3⟩ := rowc G5
      have ltG := G5.lt
      go_wp2_with fail
      refine (div_as (c := divM b c) (n := false) _ HB.out HC.out rfl Y0.out).mono ?_
      rintro e w6 ⟨rfl, hb6⟩
      have A6 := rowBelow (A5.alloc (.cells (arr4 (divM a c)) 24)) hb6 (by first | (simp; done) | (simp; omega) | exact A5.lt)
      have B6 := rowBelow (B5.alloc (.cells (arr4 (divM a c)) 24)) hb6 (by first | (simp; done) | (simp; omega) | exact B5.lt)
      have C6 := rowBelow (C5.alloc (.cells (arr4 (divM a c)) 24)) hb6 (by first | (simp; done) | (simp; omega) | exact C5.lt)
      have P6 := rowBelow (P5.alloc (.cells (arr4 (divM a c)) 24)) hb6 (by first | (simp; done) | (simp; omega) | exact P5.lt)
      have G6 := rowBelow (G5.alloc (.cells (arr4 (divM a c)) 24)) hb6 (by first | (simp; done) | (simp; omega) | exact G5.lt)
      have L6 := Lib.hid ((L5.out.alloc (by have := L5.out.size; omega) _).trans (hb6.mono (by have := L5.out.size; simp; omega)) : Below w.heap.size w w6)
      clear hb6 L5 A5 a5_0 a5_1 a5_2 a5_3 ltA B5 b5_0 b5_1 b5_2 b5_3 ltB C5 c5_0 c5_1 c5_2 c5_3 ltC P5 p5_0 p5_1 p5_2 p5_3 ltP G5 g5_0 g5_1 g5_2 g5_3 ltG
      obtain ⟨a6_0, a6_1, a6_2, a6_3⟩ := rowc A6
      have ltA := A6.lt
      obtain ⟨b6_0, b6_1, b6_2, b6_3⟩ := rowc B6
      have ltB := B6.lt
      obtain ⟨c6_0, c6_1, c6_2, c6_3⟩ := rowc C6
      have ltC := C6.lt
      obtain ⟨p6_0, p6_1, p6_2, p6_3⟩ := rowc P6
      have ltP := P6.lt
      obtain ⟨g6_0, g6_1, g6_2, g6_3⟩ := rowc G6
      have ltG := G6.lt
      go_wp2_with fail
      refine (div_as (c := divM (divM (mulM a b) (lcmM a b)) c) (n := false) _ HG.out HC.out rfl E4.out).mono ?_
      rintro e w7 ⟨rfl, hb7⟩
      have A7 := rowBelow (A6.alloc (.cells (arr4 (divM b c)) 24)) hb7 (by first | (simp; done) | (simp; omega) | exact A6.lt)
      have B7 := rowBelow (B6.alloc (.cells (arr4 (divM b c)) 24)) hb7 (by first | (simp; done) | (simp; omega) | exact B6.lt)
      have C7 := rowBelow (C6.alloc (.cells (arr4 (divM b c)) 24)) hb7 (by first | (simp; done) | (simp; omega) | exact C6.lt)
      have P7 := rowBelow (P6.alloc (.cells (arr4 (divM b c)) 24)) hb7 (by first | (simp; done) | (simp; omega) | exact P6.lt)
      have G7 := rowBelow (G6.alloc (.cells (arr4 (divM b c)) 24)) hb7 (by first | (simp; done) | (simp; omega) | exact G6.lt)
      have L7 := Lib.hid ((L6.out.alloc (by have := L6.out.size; omega) _).trans (hb7.mono (by have := L6.out.size; simp; omega)) : Below w.heap.size w w7)
      clear hb7 L6 A6 a6_0 a6_1 a6_2 a6_3 ltA B6 b6_0 b6_1 b6_2 b6_3 ltB C6 c6_0 c6_1 c6_2 c6_3 ltC P6 p6_0 p6_1 p6_2 p6_3 ltP G6 g6_0 g6_1 g6_2 g6_3 ltG
      obtain ⟨a7_0, a7_1, a7_2, a7_3⟩ := rowc A7
      have ltA := A7.lt
      obtain ⟨b7_0, b7_1, b7_2, b7_3⟩ := rowc B7
      have ltB := B7.lt
      obtain ⟨c7_0, c7_1, c7_2, c7_3⟩ := rowc C7
      have ltC := C7.lt
      obtain ⟨p7_0, p7_1, p7_2, p7_3⟩ := rowc P7
      have ltP := P7.lt
      obtain ⟨g7_0, g7_1, g7_2, g7_3⟩ := rowc G7
      have ltG := G7.lt
      go_wp2_with fail
      refine wp_region_quiet_below (by kernel_rfl) (by kernel_rfl) ?_
      obtain ⟨ar_0, ar_1, ar_2, ar_3⟩ := rows4 (A7.alloc (.cells (arr4 (divM (divM (mulM a b) (lcmM a b)) c)) 24))
      obtain ⟨br_0, br_1, br_2, br_3⟩ := rows4 (B7.alloc (.cells (arr4 (divM (divM (mulM a b) (lcmM a b)) c)) 24))
      obtain ⟨cr_0, cr_1, cr_2, cr_3⟩ := rows4 (C7.alloc (.cells (arr4 (divM (divM (mulM a b) (lcmM a b)) c)) 24))
      obtain ⟨pr_0, pr_1, pr_2, pr_3⟩ := rows4 (P7.alloc (.cells (arr4 (divM (divM (mulM a b) (lcmM a b)) c)) 24))
      obtain ⟨gr_0, gr_1, gr_2, gr_3⟩ := rows4 (G7.alloc (.cells (arr4 (divM (divM (mulM a b) (lcmM a b)) c)) 24))
      repeat (go_big_quiet_step (first
        | (go_at_call 21; exact Calls.regrown_of (alive_any _))
        | (go_at_call 15; first | (with_reducible exact Calls.regrown_of (lcm_at (a := a) (b := divM (mulM a b) (lcmM a b)) (c := a) _ HA.out HG.out E5.out)) | (with_reducible exact Calls.regrown_of (lcm_any a b _ HA.out HB.out)))
        | (go_at_call 17; first | (with_reducible exact Calls.regrown_of (degree_any (divM (mulM a b) (lcmM a b)) _ HG.out)) | (with_reducible exact Calls.regrown_of (degree_any (lcmM a b) _ HL.out)) | (with_reducible exact Calls.regrown_of (degree_as (a := mulM a b) _ HP.out E6.out)))))
      refine wpQuiet_nil ?_
      intro w8 hw8
      obtain ⟨q, hq⟩ := hw8
      have hb8 : Below (w7.alloc (.cells (arr4 (divM (divM (mulM a b) (lcmM a b)) c)) 24)).heap.size (w7.alloc (.cells (arr4 (divM (divM (mulM a b) (lcmM a b)) c)) 24)) w8 := by
        have h := below_regrown (w7.alloc (.cells (arr4 (divM (divM (mulM a b) (lcmM a b)) c)) 24)) q.d q.os
        have e : w8 = grow (redrawn (w7.alloc (.cells (arr4 (divM (divM (mulM a b) (lcmM a b)) c)) 24)) q.d) q.os := hq
        rw [e]; exact h
      clear hq ar_0 ar_1 ar_2 ar_3 br_0 br_1 br_2 br_3 cr_0 cr_1 cr_2 cr_3 pr_0 pr_1 pr_2 pr_3 gr_0 gr_1 gr_2 gr_3
      have A8 := rowBelow (A7.alloc (.cells (arr4 (divM (divM (mulM a b) (lcmM a b)) c)) 24)) hb8 (by first | (simp; done) | (simp; omega) | exact A7.lt)
      have B8 := rowBelow (B7.alloc (.cells (arr4 (divM (divM (mulM a b) (lcmM a b)) c)) 24)) hb8 (by first | (simp; done) | (simp; omega) | exact B7.lt)
      have C8 := rowBelow (C7.alloc (.cells (arr4 (divM (divM (mulM a b) (lcmM a b)) c)) 24)) hb8 (by first | (simp; done) | (simp; omega) | exact C7.lt)
      have P8 := rowBelow (P7.alloc (.cells (arr4 (divM (divM (mulM a b) (lcmM a b)) c)) 24)) hb8 (by first | (simp; done) | (simp; omega) | exact P7.lt)
      have G8 := rowBelow (G7.alloc (.cells (arr4 (divM (divM (mulM a b) (lcmM a b)) c)) 24)) hb8 (by first | (simp; done) | (simp; omega) | exact G7.lt)
      have L8 := Lib.hid ((L7.out.alloc (by have := L7.out.size; omega) _).trans (hb8.mono (by have := L7.out.size; simp; omega)) : Below w.heap.size w w8)
      clear hb8 L7 A7 a7_0 a7_1 a7_2 a7_3 ltA B7 b7_0 b7_1 b7_2 b7_3 ltB C7 c7_0 c7_1 c7_2 c7_3 ltC P7 p7_0 p7_1 p7_2 p7_3 ltP G7 g7_0 g7_1 g7_2 g7_3 ltG
      obtain ⟨a8_0, a8_1, a8_2, a8_3⟩ := rowc A8
      have ltA := A8.lt
      obtain ⟨b8_0, b8_1, b8_2, b8_3⟩ := rowc B8
      have ltB := B8.lt
      obtain ⟨c8_0, c8_1, c8_2, c8_3⟩ := rowc C8
      have ltC := C8.lt
      obtain ⟨p8_0, p8_1, p8_2, p8_3⟩ := rowc P8
      have ltP := P8.lt
      obtain ⟨g8_0, g8_1, g8_2, g8_3⟩ := rowc G8
      have ltG := G8.lt
      go_wp2
      go_ret
      exact ⟨rfl, L8.out⟩
    · have X0 := Lib.hid hX
      have Y0 := Lib.hid hY
      have E4 := Lib.hid (show divB (divM (mulM a b) (lcmM a b)) c = true by rw [EX.out, hX, hY]; rfl)
      have es := IntWalk.i64_in (degM (divM (mulM a b) (lcmM a b)) + degM (lcmM a b)) (by have := dd.out; omega)
      clear hX hY
      go_wp2_with fail
      refine (div_as (c := divM a c) (n := true) _ HA.out HC.out rfl X0.out).mono ?_
      rintro e w5 ⟨rfl, hb5⟩
      have A5 := rowBelow (A4.alloc (.cells (arr4 (divM b (divM (mulM a b) (lcmM a b)))) 24)) hb5 (by first | (simp; done) | (simp; omega) | exact A4.lt)
      have B5 := rowBelow (B4.alloc (.cells (arr4 (divM b (divM (mulM a b) (lcmM a b)))) 24)) hb5 (by first | (simp; done) | (simp; omega) | exact B4.lt)
      have C5 := rowBelow (C4.alloc (.cells (arr4 (divM b (divM (mulM a b) (lcmM a b)))) 24)) hb5 (by first | (simp; done) | (simp; omega) | exact C4.lt)
      have P5 := rowBelow (P4.alloc (.cells (arr4 (divM b (divM (mulM a b) (lcmM a b)))) 24)) hb5 (by first | (simp; done) | (simp; omega) | exact P4.lt)
      have G5 := rowBelow (G4.alloc (.cells (arr4 (divM b (divM (mulM a b) (lcmM a b)))) 24)) hb5 (by first | (simp; done) | (simp; omega) | exact G4.lt)
      have L5 := Lib.hid ((L4.out.alloc (by have := L4.out.size; omega) _).trans (hb5.mono (by have := L4.out.size; simp; omega)) : Below w.heap.size w w5)
      clear hb5 L4 A4 a4_0 a4_1 a4_2 a4_3 ltA B4 b4_0 b4_1 b4_2 b4_3 ltB C4 c4_0 c4_1 c4_2 c4_3 ltC P4 p4_0 p4_1 p4_2 p4_3 ltP G4 g4_0 g4_1 g4_2 g4_3 ltG
      obtain ⟨a5_0, a5_1, a5_2, a5_3⟩ := rowc A5
      have ltA := A5.lt
      obtain ⟨b5_0, b5_1, b5_2, b5_3⟩ := rowc B5
      have ltB := B5.lt
      obtain ⟨c5_0, c5_1, c5_2, c5_3⟩ := rowc C5
      have ltC := C5.lt
      obtain ⟨p5_0, p5_1, p5_2, p5_3⟩ := rowc P5
      have ltP := P5.lt
      obtain ⟨g5_0, g5_1, g5_2, g5_3⟩ := rowc G5
      have ltG := G5.lt
      go_wp2_with fail
      refine (div_as (c := divM b c) (n := true) _ HB.out HC.out rfl Y0.out).mono ?_
      rintro e w6 ⟨rfl, hb6⟩
      have A6 := rowBelow (A5.alloc (.cells (arr4 (divM a c)) 24)) hb6 (by first | (simp; done) | (simp; omega) | exact A5.lt)
      have B6 := rowBelow (B5.alloc (.cells (arr4 (divM a c)) 24)) hb6 (by first | (simp; done) | (simp; omega) | exact B5.lt)
      have C6 := rowBelow (C5.alloc (.cells (arr4 (divM a c)) 24)) hb6 (by first | (simp; done) | (simp; omega) | exact C5.lt)
      have P6 := rowBelow (P5.alloc (.cells (arr4 (divM a c)) 24)) hb6 (by first | (simp; done) | (simp; omega) | exact P5.lt)
      have G6 := rowBelow (G5.alloc (.cells (arr4 (divM a c)) 24)) hb6 (by first | (simp; done) | (simp; omega) | exact G5.lt)
      have L6 := Lib.hid ((L5.out.alloc (by have := L5.out.size; omega) _).trans (hb6.mono (by have := L5.out.size; simp; omega)) : Below w.heap.size w w6)
      clear hb6 L5 A5 a5_0 a5_1 a5_2 a5_3 ltA B5 b5_0 b5_1 b5_2 b5_3 ltB C5 c5_0 c5_1 c5_2 c5_3 ltC P5 p5_0 p5_1 p5_2 p5_3 ltP G5 g5_0 g5_1 g5_2 g5_3 ltG
      obtain ⟨a6_0, a6_1, a6_2, a6_3⟩ := rowc A6
      have ltA := A6.lt
      obtain ⟨b6_0, b6_1, b6_2, b6_3⟩ := rowc B6
      have ltB := B6.lt
      obtain ⟨c6_0, c6_1, c6_2, c6_3⟩ := rowc C6
      have ltC := C6.lt
      obtain ⟨p6_0, p6_1, p6_2, p6_3⟩ := rowc P6
      have ltP := P6.lt
      obtain ⟨g6_0, g6_1, g6_2, g6_3⟩ := rowc G6
      have ltG := G6.lt
      go_wp2_with fail
      refine (div_as (c := divM (divM (mulM a b) (lcmM a b)) c) (n := true) _ HG.out HC.out rfl E4.out).mono ?_
      rintro e w7 ⟨rfl, hb7⟩
      have A7 := rowBelow (A6.alloc (.cells (arr4 (divM b c)) 24)) hb7 (by first | (simp; done) | (simp; omega) | exact A6.lt)
      have B7 := rowBelow (B6.alloc (.cells (arr4 (divM b c)) 24)) hb7 (by first | (simp; done) | (simp; omega) | exact B6.lt)
      have C7 := rowBelow (C6.alloc (.cells (arr4 (divM b c)) 24)) hb7 (by first | (simp; done) | (simp; omega) | exact C6.lt)
      have P7 := rowBelow (P6.alloc (.cells (arr4 (divM b c)) 24)) hb7 (by first | (simp; done) | (simp; omega) | exact P6.lt)
      have G7 := rowBelow (G6.alloc (.cells (arr4 (divM b c)) 24)) hb7 (by first | (simp; done) | (simp; omega) | exact G6.lt)
      have L7 := Lib.hid ((L6.out.alloc (by have := L6.out.size; omega) _).trans (hb7.mono (by have := L6.out.size; simp; omega)) : Below w.heap.size w w7)
      clear hb7 L6 A6 a6_0 a6_1 a6_2 a6_3 ltA B6 b6_0 b6_1 b6_2 b6_3 ltB C6 c6_0 c6_1 c6_2 c6_3 ltC P6 p6_0 p6_1 p6_2 p6_3 ltP G6 g6_0 g6_1 g6_2 g6_3 ltG
      obtain ⟨a7_0, a7_1, a7_2, a7_3⟩ := rowc A7
      have ltA := A7.lt
      obtain ⟨b7_0, b7_1, b7_2, b7_3⟩ := rowc B7
      have ltB := B7.lt
      obtain ⟨c7_0, c7_1, c7_2, c7_3⟩ := rowc C7
      have ltC := C7.lt
      obtain ⟨p7_0, p7_1, p7_2, p7_3⟩ := rowc P7
      have ltP := P7.lt
      obtain ⟨g7_0, g7_1, g7_2, g7_3⟩ := rowc G7
      have ltG := G7.lt
      go_wp2_with fail
      refine wp_region_quiet_below (by kernel_rfl) (by kernel_rfl) ?_
      obtain ⟨ar_0, ar_1, ar_2, ar_3⟩ := rows4 (A7.alloc (.cells (arr4 (divM (divM (mulM a b) (lcmM a b)) c)) 24))
      obtain ⟨br_0, br_1, br_2, br_3⟩ := rows4 (B7.alloc (.cells (arr4 (divM (divM (mulM a b) (lcmM a b)) c)) 24))
      obtain ⟨cr_0, cr_1, cr_2, cr_3⟩ := rows4 (C7.alloc (.cells (arr4 (divM (divM (mulM a b) (lcmM a b)) c)) 24))
      obtain ⟨pr_0, pr_1, pr_2, pr_3⟩ := rows4 (P7.alloc (.cells (arr4 (divM (divM (mulM a b) (lcmM a b)) c)) 24))
      obtain ⟨gr_0, gr_1, gr_2, gr_3⟩ := rows4 (G7.alloc (.cells (arr4 (divM (divM (mulM a b) (lcmM a b)) c)) 24))
      repeat (go_big_quiet_step (first
        | (go_at_call 21; exact Calls.regrown_of (alive_any _))
        | (go_at_call 15; first | (with_reducible exact Calls.regrown_of (lcm_at (a := a) (b := divM (mulM a b) (lcmM a b)) (c := a) _ HA.out HG.out E5.out)) | (with_reducible exact Calls.regrown_of (lcm_any a b _ HA.out HB.out)))
        | (go_at_call 17; first | (with_reducible exact Calls.regrown_of (degree_any (divM (mulM a b) (lcmM a b)) _ HG.out)) | (with_reducible exact Calls.regrown_of (degree_any (lcmM a b) _ HL.out)) | (with_reducible exact Calls.regrown_of (degree_as (a := mulM a b) _ HP.out E6.out)))))
      refine wpQuiet_nil ?_
      intro w8 hw8
      obtain ⟨q, hq⟩ := hw8
      have hb8 : Below (w7.alloc (.cells (arr4 (divM (divM (mulM a b) (lcmM a b)) c)) 24)).heap.size (w7.alloc (.cells (arr4 (divM (divM (mulM a b) (lcmM a b)) c)) 24)) w8 := by
        have h := below_regrown (w7.alloc (.cells (arr4 (divM (divM (mulM a b) (lcmM a b)) c)) 24)) q.d q.os
        have e : w8 = grow (redrawn (w7.alloc (.cells (arr4 (divM (divM (mulM a b) (lcmM a b)) c)) 24)) q.d) q.os := hq
        rw [e]; exact h
      clear hq ar_0 ar_1 ar_2 ar_3 br_0 br_1 br_2 br_3 cr_0 cr_1 cr_2 cr_3 pr_0 pr_1 pr_2 pr_3 gr_0 gr_1 gr_2 gr_3
      have A8 := rowBelow (A7.alloc (.cells (arr4 (divM (divM (mulM a b) (lcmM a b)) c)) 24)) hb8 (by first | (simp; done) | (simp; omega) | exact A7.lt)
      have B8 := rowBelow (B7.alloc (.cells (arr4 (divM (divM (mulM a b) (lcmM a b)) c)) 24)) hb8 (by first | (simp; done) | (simp; omega) | exact B7.lt)
      have C8 := rowBelow (C7.alloc (.cells (arr4 (divM (divM (mulM a b) (lcmM a b)) c)) 24)) hb8 (by first | (simp; done) | (simp; omega) | exact C7.lt)
      have P8 := rowBelow (P7.alloc (.cells (arr4 (divM (divM (mulM a b) (lcmM a b)) c)) 24)) hb8 (by first | (simp; done) | (simp; omega) | exact P7.lt)
      have G8 := rowBelow (G7.alloc (.cells (arr4 (divM (divM (mulM a b) (lcmM a b)) c)) 24)) hb8 (by first | (simp; done) | (simp; omega) | exact G7.lt)
      have L8 := Lib.hid ((L7.out.alloc (by have := L7.out.size; omega) _).trans (hb8.mono (by have := L7.out.size; simp; omega)) : Below w.heap.size w w8)
      clear hb8 L7 A7 a7_0 a7_1 a7_2 a7_3 ltA B7 b7_0 b7_1 b7_2 b7_3 ltB C7 c7_0 c7_1 c7_2 c7_3 ltC P7 p7_0 p7_1 p7_2 p7_3 ltP G7 g7_0 g7_1 g7_2 g7_3 ltG
      obtain ⟨a8_0, a8_1, a8_2, a8_3⟩ := rowc A8
      have ltA := A8.lt
      obtain ⟨b8_0, b8_1, b8_2, b8_3⟩ := rowc B8
      have ltB := B8.lt
      obtain ⟨c8_0, c8_1, c8_2, c8_3⟩ := rowc C8
      have ltC := C8.lt
      obtain ⟨p8_0, p8_1, p8_2, p8_3⟩ := rowc P8
      have ltP := P8.lt
      obtain ⟨g8_0, g8_1, g8_2, g8_3⟩ := rowc G8
      have ltG := G8.lt
      go_wp2
      go_ret
      exact ⟨rfl, L8.out⟩

theorem split_walk (a b c : Nat → Int) (w : World) (ha : Small a) (hb : Small b) (hc : Small c) :
    Calls Try.prog 10 #[mvf a, mvf b, mvf c] w fun e w' => e = .returned (.bool true) ∧ Below w.heap.size w w' := by
  cases hM : mulB a b
  · exact split_no a b c w ha hb hc hM
  · exact split_yes a b c w ha hb hc hM

open Go.ChangeShapes Go.WideShapes Go.ChangeAt
theorem own : ownKnob Try.prog.godebug = none := by kernel_rfl
theorem laidOut : laidOutB Try.prog = true := by kernel_rfl
theorem cellsM : Try.prog.cellsOf 24 = 4 := by kernel_rfl
theorem cellsU : Try.prog.cellsOf 22 = 1 := by kernel_rfl

set_option maxRecDepth 100000 in
theorem split_lifted (os : Os) (started : os.Started) (H : Type) (enc : TypeId × Value → H) :
    ReturnsInHanded {} Try.checked os 10 .any (Rows.monosSplitSpec.pre6 enc Try.prog Try.f10 Rows.monosSplitRow.domain false) (Rows.monosSplitSpec.post enc Try.prog Try.f10 false true false false) := by
  refine returnsInHanded_of_change (C := Try.checked) own started (by kernel_rfl) Try.func10
    (ChangeSpec.witness6 (enc := enc) (C := Try.checked) false ⟨#[], #[mv 0 0 0 0, mv 0 0 0 0, mv 0 0 0 0], []⟩ 8 (by kernel_rfl) (by kernel_rfl) (by kernel_rfl) (by kernel_rfl)) ?_
  intro W base args ds gs before hval0 hW hcnd _
  have hval : ∀ (j : Nat) t v, Try.f10.params[j]? = some t → args[j]? = some v → Value.okWide Try.prog W .any base t v := hval0
  have hW' := hW
  obtain ⟨p, q, hA0, hV, rfl, hfz, hnd⟩ := hW
  have hA : DataW.TrodAll enc Try.prog W 0 (fun _ => true) true Try.f10.params.toList args.toList ds p := hA0
  rw [Try.params10] at hA hval
  obtain ⟨v0, v1, v2, d0, d1, d2, p0, p1, p2, rfl, rfl, rfl, h0, h1, h2⟩ := trodAll_three hA
  obtain ⟨rfl, rfl⟩ := trodVars_none hV
  obtain ⟨a, rfl, ha⟩ := LawPost.open_four Try.underlying24 Try.underlying22 cellsU cellsM (hval 0 24 v0 rfl rfl) h0
  obtain ⟨b, rfl, hb⟩ := LawPost.open_four Try.underlying24 Try.underlying22 cellsU cellsM (hval 1 24 v1 rfl rfl) h1
  obtain ⟨c, rfl, hc⟩ := LawPost.open_four Try.underlying24 Try.underlying22 cellsU cellsM (hval 2 24 v2 rfl rfl) h2
  refine (split_walk a b c W ha hb hc).mono fun e W' ⟨he, hg⟩ => ?_
  subst he
  exact ⟨_, rfl, LawPost.law_post laidOut (by kernel_rfl) (by kernel_rfl) Try.underlying4 hW' rfl rfl hg⟩

theorem split_holds : Rows.MonosSplitSaid :=
  OpenClaim.holds_of_wide 10 Try.f10 rfl rfl rfl rfl rfl rfl rfl ⟨rfl, rfl, rfl, rfl, rfl⟩ rfl rfl rfl rfl rfl (by kernel_rfl) Try.func10 (by kernel_rfl)
    (of_decide_eq_true (by kernel_rfl)) (by unfold Func.isWrapper; first | (rw [if_pos (by decide +kernel)]; kernel_rfl) | (rw [if_neg (by decide +kernel)]; exact ⟨rfl, rfl⟩))
    (fun os started H enc _ => split_lifted os started H enc)
#print axioms split_holds
end Go.Proofs.Ytlhkiodgjcbjbaa.Mono
