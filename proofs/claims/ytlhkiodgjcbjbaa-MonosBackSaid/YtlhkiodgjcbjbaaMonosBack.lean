/-
  MonosBack: whatever two products come in, the law returns true.
-/
import Derived.Test.YtlhkiodgjcbjbaaMonoAlive
import Derived.Test.YtlhkiodgjcbjbaaMonoPlain
import Derived.Test.YtlhkiodgjcbjbaaLawPost
namespace Go.Proofs.Ytlhkiodgjcbjbaa.Mono
open Go.RowKit Go.Sort

set_option maxHeartbeats 4000000 in
theorem back_yy (a b : Nat → Int) (w : World) (ha : Small a) (hb : Small b) (hM : mulB a b = true) (hD : divB a b = true) :
    Calls Try.prog 5 #[mvf a, mvf b] w fun e w' => e = .returned (.bool true) ∧ Below w.heap.size w w' := by
  have HA := Lib.hid ha
  have HB := Lib.hid hb
  have HX := Lib.hid (boxes w 24 a b)
  have zz : ∀ i, zeroM i = 0 := fun _ => rfl
  have HC := Lib.hid (mul_small ha hb)
  have E1 := Lib.hid (mulE_true hM)
  have E2 := Lib.hid (divM_mul hM ha)
  have E3 := Lib.hid (divB_mul hM ha)
  have E4 := Lib.hid (degM_mul hM)
  have da := degM_bd ha
  have db := degM_bd hb
  have es := IntWalk.i64_in (degM a + degM b) (by omega)
  have HD := Lib.hid (div_small ha hb)
  have F1 := Lib.hid (mulM_div hD ha)
  have F2 := Lib.hid (mulE_true (mulB_div hD ha))
  have F3 := Lib.hid (lcm_div.2 hD)
  have D0 := Lib.hid hD
  clear ha hb hM hD
  go_enter Try.func5, Try.ntmps5
  go_wp2_with fail
  refine (mul_as (c := mulM a b) (n := 0) _ HA.out HB.out rfl E1.out).mono ?_
  rintro e w1 ⟨rfl, hb1⟩
  have A1 := rowBelow HX.out.1 hb1 (by first | (simp; done) | (simp; omega) | exact A0.lt)
  have B1 := rowBelow HX.out.2 hb1 (by first | (simp; done) | (simp; omega) | exact B0.lt)
  have L1 := Lib.hid ((((Below.refl _ _).alloc (by go_size) _).alloc (by go_size) _).trans (hb1.mono (by go_size)) : Below w.heap.size w w1)
  clear hb1
  obtain ⟨a1_0, a1_1, a1_2, a1_3⟩ := rowc A1
  have ltA := A1.lt
  obtain ⟨b1_0, b1_1, b1_2, b1_3⟩ := rowc B1
  have ltB := B1.lt
  go_wp2_with fail
  refine (div_as (c := a) (n := true) _ HC.out HB.out E2.out E3.out).mono ?_
  rintro e w2 ⟨rfl, hb2⟩
  have A2 := rowBelow (A1.alloc (.cells (arr4 (mulM a b)) 24)) hb2 (by first | (simp; done) | (simp; omega) | exact A1.lt)
  have B2 := rowBelow (B1.alloc (.cells (arr4 (mulM a b)) 24)) hb2 (by first | (simp; done) | (simp; omega) | exact B1.lt)
  have C2 := rowBelow (rowNew w1 24 (mulM a b)) hb2 (by simp)
  have L2 := Lib.hid ((L1.out.alloc (by have := L1.out.size; omega) _).trans (hb2.mono (by have := L1.out.size; simp; omega)) : Below w.heap.size w w2)
  clear hb2 L1 A1 a1_0 a1_1 a1_2 a1_3 ltA B1 b1_0 b1_1 b1_2 b1_3 ltB
  obtain ⟨a2_0, a2_1, a2_2, a2_3⟩ := rowc A2
  have ltA := A2.lt
  obtain ⟨b2_0, b2_1, b2_2, b2_3⟩ := rowc B2
  have ltB := B2.lt
  obtain ⟨c2_0, c2_1, c2_2, c2_3⟩ := rowc C2
  have ltC := C2.lt
  go_wp2_with fail
  refine wp_region_quiet_below (by kernel_rfl) (by kernel_rfl) ?_
  obtain ⟨ar_0, ar_1, ar_2, ar_3⟩ := rows4 (A2.alloc (.cells (arr4 a) 24))
  obtain ⟨br_0, br_1, br_2, br_3⟩ := rows4 (B2.alloc (.cells (arr4 a) 24))
  obtain ⟨cr_0, cr_1, cr_2, cr_3⟩ := rows4 (C2.alloc (.cells (arr4 a) 24))
  obtain ⟨dr_0, dr_1, dr_2, dr_3⟩ := rows4 (rowNew w2 24 a)
  repeat (go_big_quiet_step (first
    | (go_at_call 17; first | (with_reducible exact Calls.regrown_of (degree_as (a := mulM a b) _ HC.out E4.out)) | (with_reducible exact Calls.regrown_of (degree_any a _ HA.out)) | (with_reducible exact Calls.regrown_of (degree_any b _ HB.out)))))
  refine wpQuiet_nil ?_
  intro w3 hw3
  obtain ⟨q, hq⟩ := hw3
  have hb3 : Below (w2.alloc (.cells (arr4 a) 24)).heap.size (w2.alloc (.cells (arr4 a) 24)) w3 := by
    have h := below_regrown (w2.alloc (.cells (arr4 a) 24)) q.d q.os
    have e : w3 = grow (redrawn (w2.alloc (.cells (arr4 a) 24)) q.d) q.os := hq
    rw [e]; exact h
  clear hq ar_0 ar_1 ar_2 ar_3 br_0 br_1 br_2 br_3 cr_0 cr_1 cr_2 cr_3 dr_0 dr_1 dr_2 dr_3
  have A3 := rowBelow (A2.alloc (.cells (arr4 a) 24)) hb3 (by first | (simp; done) | (simp; omega) | exact A2.lt)
  have B3 := rowBelow (B2.alloc (.cells (arr4 a) 24)) hb3 (by first | (simp; done) | (simp; omega) | exact B2.lt)
  have C3 := rowBelow (C2.alloc (.cells (arr4 a) 24)) hb3 (by first | (simp; done) | (simp; omega) | exact C2.lt)
  have D3 := rowBelow (rowNew w2 24 a) hb3 (by simp)
  have L3 := Lib.hid ((L2.out.alloc (by have := L2.out.size; omega) _).trans (hb3.mono (by have := L2.out.size; simp; omega)) : Below w.heap.size w w3)
  clear hb3 L2 A2 a2_0 a2_1 a2_2 a2_3 ltA B2 b2_0 b2_1 b2_2 b2_3 ltB C2 c2_0 c2_1 c2_2 c2_3 ltC
  obtain ⟨a3_0, a3_1, a3_2, a3_3⟩ := rowc A3
  have ltA := A3.lt
  obtain ⟨b3_0, b3_1, b3_2, b3_3⟩ := rowc B3
  have ltB := B3.lt
  obtain ⟨c3_0, c3_1, c3_2, c3_3⟩ := rowc C3
  have ltC := C3.lt
  obtain ⟨d3_0, d3_1, d3_2, d3_3⟩ := rowc D3
  have ltD := D3.lt
  go_wp2_with fail
  refine (div_as (c := divM a b) (n := true) _ HA.out HB.out rfl D0.out).mono ?_
  rintro e w4 ⟨rfl, hb4⟩
  have A4 := rowBelow A3 hb4 (by first | (simp; done) | (simp; omega) | exact A3.lt)
  have B4 := rowBelow B3 hb4 (by first | (simp; done) | (simp; omega) | exact B3.lt)
  have C4 := rowBelow C3 hb4 (by first | (simp; done) | (simp; omega) | exact C3.lt)
  have D4 := rowBelow D3 hb4 (by first | (simp; done) | (simp; omega) | exact D3.lt)
  have L4 := Lib.hid (L3.out.trans (hb4.mono L3.out.size) : Below w.heap.size w w4)
  clear hb4 L3 A3 a3_0 a3_1 a3_2 a3_3 ltA B3 b3_0 b3_1 b3_2 b3_3 ltB C3 c3_0 c3_1 c3_2 c3_3 ltC D3 d3_0 d3_1 d3_2 d3_3 ltD
  obtain ⟨a4_0, a4_1, a4_2, a4_3⟩ := rowc A4
  have ltA := A4.lt
  obtain ⟨b4_0, b4_1, b4_2, b4_3⟩ := rowc B4
  have ltB := B4.lt
  obtain ⟨c4_0, c4_1, c4_2, c4_3⟩ := rowc C4
  have ltC := C4.lt
  obtain ⟨d4_0, d4_1, d4_2, d4_3⟩ := rowc D4
  have ltD := D4.lt
  go_wp2_with fail
  refine (mul_as (c := a) (n := 0) _ HD.out HB.out F1.out F2.out).mono ?_
  rintro e w5 ⟨rfl, hb5⟩
  have A5 := rowBelow (A4.alloc (.cells (arr4 (divM a b)) 24)) hb5 (by first | (simp; done) | (simp; omega) | exact A4.lt)
  have B5 := rowBelow (B4.alloc (.cells (arr4 (divM a b)) 24)) hb5 (by first | (simp; done) | (simp; omega) | exact B4.lt)
  have C5 := rowBelow (C4.alloc (.cells (arr4 (divM a b)) 24)) hb5 (by first | (simp; done) | (simp; omega) | exact C4.lt)
  have D5 := rowBelow (D4.alloc (.cells (arr4 (divM a b)) 24)) hb5 (by first | (simp; done) | (simp; omega) | exact D4.lt)
  have P5 := rowBelow (rowNew w4 24 (divM a b)) hb5 (by simp)
  have L5 := Lib.hid ((L4.out.alloc (by have := L4.out.size; omega) _).trans (hb5.mono (by have := L4.out.size; simp; omega)) : Below w.heap.size w w5)
  clear hb5 L4 A4 a4_0 a4_1 a4_2 a4_3 ltA B4 b4_0 b4_1 b4_2 b4_3 ltB C4 c4_0 c4_1 c4_2 c4_3 ltC D4 d4_0 d4_1 d4_2 d4_3 ltD
  obtain ⟨a5_0, a5_1, a5_2, a5_3⟩ := rowc A5
  have ltA := A5.lt
  obtain ⟨b5_0, b5_1, b5_2, b5_3⟩ := rowc B5
  have ltB := B5.lt
  obtain ⟨c5_0, c5_1, c5_2, c5_3⟩ := rowc C5
  have ltC := C5.lt
  obtain ⟨d5_0, d5_1, d5_2, d5_3⟩ := rowc D5
  have ltD := D5.lt
  obtain ⟨p5_0, p5_1, p5_2, p5_3⟩ := rowc P5
  have ltP := P5.lt
  go_wp2_with fail
  refine wp_region_quiet_below (by kernel_rfl) (by kernel_rfl) ?_
  obtain ⟨ar_0, ar_1, ar_2, ar_3⟩ := rows4 (A5.alloc (.cells (arr4 a) 24))
  obtain ⟨br_0, br_1, br_2, br_3⟩ := rows4 (B5.alloc (.cells (arr4 a) 24))
  obtain ⟨cr_0, cr_1, cr_2, cr_3⟩ := rows4 (C5.alloc (.cells (arr4 a) 24))
  obtain ⟨dr_0, dr_1, dr_2, dr_3⟩ := rows4 (D5.alloc (.cells (arr4 a) 24))
  obtain ⟨pr_0, pr_1, pr_2, pr_3⟩ := rows4 (P5.alloc (.cells (arr4 a) 24))
  obtain ⟨qr_0, qr_1, qr_2, qr_3⟩ := rows4 (rowNew w5 24 a)
  repeat (go_big_quiet_step (first
    | (go_at_call 21; exact Calls.regrown_of (alive_any _))
    | (go_at_call 15; exact Calls.regrown_of (lcm_at (c := a) _ HA.out HB.out F3.out))))
  refine wpQuiet_nil ?_
  intro w6 hw6
  obtain ⟨q, hq⟩ := hw6
  have hb6 : Below (w5.alloc (.cells (arr4 a) 24)).heap.size (w5.alloc (.cells (arr4 a) 24)) w6 := by
    have h := below_regrown (w5.alloc (.cells (arr4 a) 24)) q.d q.os
    have e : w6 = grow (redrawn (w5.alloc (.cells (arr4 a) 24)) q.d) q.os := hq
    rw [e]; exact h
  clear hq ar_0 ar_1 ar_2 ar_3 br_0 br_1 br_2 br_3 cr_0 cr_1 cr_2 cr_3 dr_0 dr_1 dr_2 dr_3 pr_0 pr_1 pr_2 pr_3 qr_0 qr_1 qr_2 qr_3
  have A6 := rowBelow (A5.alloc (.cells (arr4 a) 24)) hb6 (by first | (simp; done) | (simp; omega) | exact A5.lt)
  have B6 := rowBelow (B5.alloc (.cells (arr4 a) 24)) hb6 (by first | (simp; done) | (simp; omega) | exact B5.lt)
  have C6 := rowBelow (C5.alloc (.cells (arr4 a) 24)) hb6 (by first | (simp; done) | (simp; omega) | exact C5.lt)
  have D6 := rowBelow (D5.alloc (.cells (arr4 a) 24)) hb6 (by first | (simp; done) | (simp; omega) | exact D5.lt)
  have P6 := rowBelow (P5.alloc (.cells (arr4 a) 24)) hb6 (by first | (simp; done) | (simp; omega) | exact P5.lt)
  have Q6 := rowBelow (rowNew w5 24 a) hb6 (by simp)
  have L6 := Lib.hid ((L5.out.alloc (by have := L5.out.size; omega) _).trans (hb6.mono (by have := L5.out.size; simp; omega)) : Below w.heap.size w w6)
  clear hb6 L5 A5 a5_0 a5_1 a5_2 a5_3 ltA B5 b5_0 b5_1 b5_2 b5_3 ltB C5 c5_0 c5_1 c5_2 c5_3 ltC D5 d5_0 d5_1 d5_2 d5_3 ltD P5 p5_0 p5_1 p5_2 p5_3 ltP
  obtain ⟨a6_0, a6_1, a6_2, a6_3⟩ := rowc A6
  have ltA := A6.lt
  obtain ⟨b6_0, b6_1, b6_2, b6_3⟩ := rowc B6
  have ltB := B6.lt
  obtain ⟨c6_0, c6_1, c6_2, c6_3⟩ := rowc C6
  have ltC := C6.lt
  obtain ⟨d6_0, d6_1, d6_2, d6_3⟩ := rowc D6
  have ltD := D6.lt
  obtain ⟨p6_0, p6_1, p6_2, p6_3⟩ := rowc P6
  have ltP := P6.lt
  obtain ⟨q6_0, q6_1, q6_2, q6_3⟩ := rowc Q6
  have ltQ := Q6.lt
  go_wp2
  go_ret
  exact ⟨rfl, L6.out⟩

set_option maxHeartbeats 4000000 in
theorem back_yn (a b : Nat → Int) (w : World) (ha : Small a) (hb : Small b) (hM : mulB a b = true) (hD : divB a b = false) :
    Calls Try.prog 5 #[mvf a, mvf b] w fun e w' => e = .returned (.bool true) ∧ Below w.heap.size w w' := by
  have HA := Lib.hid ha
  have HB := Lib.hid hb
  have HX := Lib.hid (boxes w 24 a b)
  have zz : ∀ i, zeroM i = 0 := fun _ => rfl
  have HC := Lib.hid (mul_small ha hb)
  have E1 := Lib.hid (mulE_true hM)
  have E2 := Lib.hid (divM_mul hM ha)
  have E3 := Lib.hid (divB_mul hM ha)
  have E4 := Lib.hid (degM_mul hM)
  have da := degM_bd ha
  have db := degM_bd hb
  have es := IntWalk.i64_in (degM a + degM b) (by omega)
  have F1 := Lib.hid (divB_false hD)
  have F3 : (lcmM a b 0 == a 0 && (lcmM a b 1 == a 1 && (lcmM a b 2 == a 2 && lcmM a b 3 == a 3))) = false := same4_false (mt lcm_div.1 (by simp [hD]))
  have D0 := Lib.hid hD
  clear ha hb hM hD
  go_enter Try.func5, Try.ntmps5
  go_wp2_with fail
  refine (mul_as (c := mulM a b) (n := 0) _ HA.out HB.out rfl E1.out).mono ?_
  rintro e w1 ⟨rfl, hb1⟩
  have A1 := rowBelow HX.out.1 hb1 (by first | (simp; done) | (simp; omega) | exact A0.lt)
  have B1 := rowBelow HX.out.2 hb1 (by first | (simp; done) | (simp; omega) | exact B0.lt)
  have L1 := Lib.hid ((((Below.refl _ _).alloc (by go_size) _).alloc (by go_size) _).trans (hb1.mono (by go_size)) : Below w.heap.size w w1)
  clear hb1
  obtain ⟨a1_0, a1_1, a1_2, a1_3⟩ := rowc A1
  have ltA := A1.lt
  obtain ⟨b1_0, b1_1, b1_2, b1_3⟩ := rowc B1
  have ltB := B1.lt
  go_wp2_with fail
  refine (div_as (c := a) (n := true) _ HC.out HB.out E2.out E3.out).mono ?_
  rintro e w2 ⟨rfl, hb2⟩
  have A2 := rowBelow (A1.alloc (.cells (arr4 (mulM a b)) 24)) hb2 (by first | (simp; done) | (simp; omega) | exact A1.lt)
  have B2 := rowBelow (B1.alloc (.cells (arr4 (mulM a b)) 24)) hb2 (by first | (simp; done) | (simp; omega) | exact B1.lt)
  have C2 := rowBelow (rowNew w1 24 (mulM a b)) hb2 (by simp)
  have L2 := Lib.hid ((L1.out.alloc (by have := L1.out.size; omega) _).trans (hb2.mono (by have := L1.out.size; simp; omega)) : Below w.heap.size w w2)
  clear hb2 L1 A1 a1_0 a1_1 a1_2 a1_3 ltA B1 b1_0 b1_1 b1_2 b1_3 ltB
  obtain ⟨a2_0, a2_1, a2_2, a2_3⟩ := rowc A2
  have ltA := A2.lt
  obtain ⟨b2_0, b2_1, b2_2, b2_3⟩ := rowc B2
  have ltB := B2.lt
  obtain ⟨c2_0, c2_1, c2_2, c2_3⟩ := rowc C2
  have ltC := C2.lt
  go_wp2_with fail
  refine wp_region_quiet_below (by kernel_rfl) (by kernel_rfl) ?_
  obtain ⟨ar_0, ar_1, ar_2, ar_3⟩ := rows4 (A2.alloc (.cells (arr4 a) 24))
  obtain ⟨br_0, br_1, br_2, br_3⟩ := rows4 (B2.alloc (.cells (arr4 a) 24))
  obtain ⟨cr_0, cr_1, cr_2, cr_3⟩ := rows4 (C2.alloc (.cells (arr4 a) 24))
  obtain ⟨dr_0, dr_1, dr_2, dr_3⟩ := rows4 (rowNew w2 24 a)
  repeat (go_big_quiet_step (first
    | (go_at_call 17; first | (with_reducible exact Calls.regrown_of (degree_as (a := mulM a b) _ HC.out E4.out)) | (with_reducible exact Calls.regrown_of (degree_any a _ HA.out)) | (with_reducible exact Calls.regrown_of (degree_any b _ HB.out)))))
  refine wpQuiet_nil ?_
  intro w3 hw3
  obtain ⟨q, hq⟩ := hw3
  have hb3 : Below (w2.alloc (.cells (arr4 a) 24)).heap.size (w2.alloc (.cells (arr4 a) 24)) w3 := by
    have h := below_regrown (w2.alloc (.cells (arr4 a) 24)) q.d q.os
    have e : w3 = grow (redrawn (w2.alloc (.cells (arr4 a) 24)) q.d) q.os := hq
    rw [e]; exact h
  clear hq ar_0 ar_1 ar_2 ar_3 br_0 br_1 br_2 br_3 cr_0 cr_1 cr_2 cr_3 dr_0 dr_1 dr_2 dr_3
  have A3 := rowBelow (A2.alloc (.cells (arr4 a) 24)) hb3 (by first | (simp; done) | (simp; omega) | exact A2.lt)
  have B3 := rowBelow (B2.alloc (.cells (arr4 a) 24)) hb3 (by first | (simp; done) | (simp; omega) | exact B2.lt)
  have C3 := rowBelow (C2.alloc (.cells (arr4 a) 24)) hb3 (by first | (simp; done) | (simp; omega) | exact C2.lt)
  have D3 := rowBelow (rowNew w2 24 a) hb3 (by simp)
  have L3 := Lib.hid ((L2.out.alloc (by have := L2.out.size; omega) _).trans (hb3.mono (by have := L2.out.size; simp; omega)) : Below w.heap.size w w3)
  clear hb3 L2 A2 a2_0 a2_1 a2_2 a2_3 ltA B2 b2_0 b2_1 b2_2 b2_3 ltB C2 c2_0 c2_1 c2_2 c2_3 ltC
  obtain ⟨a3_0, a3_1, a3_2, a3_3⟩ := rowc A3
  have ltA := A3.lt
  obtain ⟨b3_0, b3_1, b3_2, b3_3⟩ := rowc B3
  have ltB := B3.lt
  obtain ⟨c3_0, c3_1, c3_2, c3_3⟩ := rowc C3
  have ltC := C3.lt
  obtain ⟨d3_0, d3_1, d3_2, d3_3⟩ := rowc D3
  have ltD := D3.lt
  go_wp2_with fail
  refine (div_as (c := zeroM) (n := false) _ HA.out HB.out F1.out D0.out).mono ?_
  rintro e w4 ⟨rfl, hb4⟩
  have A4 := rowBelow A3 hb4 (by first | (simp; done) | (simp; omega) | exact A3.lt)
  have B4 := rowBelow B3 hb4 (by first | (simp; done) | (simp; omega) | exact B3.lt)
  have C4 := rowBelow C3 hb4 (by first | (simp; done) | (simp; omega) | exact C3.lt)
  have D4 := rowBelow D3 hb4 (by first | (simp; done) | (simp; omega) | exact D3.lt)
  have L4 := Lib.hid (L3.out.trans (hb4.mono L3.out.size) : Below w.heap.size w w4)
  clear hb4 L3 A3 a3_0 a3_1 a3_2 a3_3 ltA B3 b3_0 b3_1 b3_2 b3_3 ltB C3 c3_0 c3_1 c3_2 c3_3 ltC D3 d3_0 d3_1 d3_2 d3_3 ltD
  obtain ⟨a4_0, a4_1, a4_2, a4_3⟩ := rowc A4
  have ltA := A4.lt
  obtain ⟨b4_0, b4_1, b4_2, b4_3⟩ := rowc B4
  have ltB := B4.lt
  obtain ⟨c4_0, c4_1, c4_2, c4_3⟩ := rowc C4
  have ltC := C4.lt
  obtain ⟨d4_0, d4_1, d4_2, d4_3⟩ := rowc D4
  have ltD := D4.lt
  go_wp2_with fail
  refine wp_region_quiet_below (by kernel_rfl) (by kernel_rfl) ?_
  obtain ⟨ar_0, ar_1, ar_2, ar_3⟩ := rows4 (A4.alloc (.cells (arr4 zeroM) 24))
  obtain ⟨br_0, br_1, br_2, br_3⟩ := rows4 (B4.alloc (.cells (arr4 zeroM) 24))
  obtain ⟨cr_0, cr_1, cr_2, cr_3⟩ := rows4 (C4.alloc (.cells (arr4 zeroM) 24))
  obtain ⟨dr_0, dr_1, dr_2, dr_3⟩ := rows4 (D4.alloc (.cells (arr4 zeroM) 24))
  obtain ⟨pr_0, pr_1, pr_2, pr_3⟩ := rows4 (rowNew w4 24 zeroM)
  simp only [arr4, zz] at ar_0 ar_1 ar_2 ar_3 br_0 br_1 br_2 br_3 cr_0 cr_1 cr_2 cr_3 dr_0 dr_1 dr_2 dr_3 pr_0 pr_1 pr_2 pr_3
  repeat (go_big_quiet_step (first
    | (go_at_call 21; exact Calls.regrown_of (alive_any _))
    | (go_at_call 15; exact Calls.regrown_of (lcm_any a b _ HA.out HB.out))))
  refine wpQuiet_nil ?_
  intro w5 hw5
  obtain ⟨q, hq⟩ := hw5
  have hb5 : Below (w4.alloc (.cells (arr4 zeroM) 24)).heap.size (w4.alloc (.cells (arr4 zeroM) 24)) w5 := by
    have h := below_regrown (w4.alloc (.cells (arr4 zeroM) 24)) q.d q.os
    have e : w5 = grow (redrawn (w4.alloc (.cells (arr4 zeroM) 24)) q.d) q.os := hq
    rw [e]; exact h
  clear hq ar_0 ar_1 ar_2 ar_3 br_0 br_1 br_2 br_3 cr_0 cr_1 cr_2 cr_3 dr_0 dr_1 dr_2 dr_3 pr_0 pr_1 pr_2 pr_3
  have A5 := rowBelow (A4.alloc (.cells (arr4 zeroM) 24)) hb5 (by first | (simp; done) | (simp; omega) | exact A4.lt)
  have B5 := rowBelow (B4.alloc (.cells (arr4 zeroM) 24)) hb5 (by first | (simp; done) | (simp; omega) | exact B4.lt)
  have C5 := rowBelow (C4.alloc (.cells (arr4 zeroM) 24)) hb5 (by first | (simp; done) | (simp; omega) | exact C4.lt)
  have D5 := rowBelow (D4.alloc (.cells (arr4 zeroM) 24)) hb5 (by first | (simp; done) | (simp; omega) | exact D4.lt)
  have P5 := rowBelow (rowNew w4 24 zeroM) hb5 (by simp)
  have L5 := Lib.hid ((L4.out.alloc (by have := L4.out.size; omega) _).trans (hb5.mono (by have := L4.out.size; simp; omega)) : Below w.heap.size w w5)
  clear hb5 L4 A4 a4_0 a4_1 a4_2 a4_3 ltA B4 b4_0 b4_1 b4_2 b4_3 ltB C4 c4_0 c4_1 c4_2 c4_3 ltC D4 d4_0 d4_1 d4_2 d4_3 ltD
  obtain ⟨a5_0, a5_1, a5_2, a5_3⟩ := rowc A5
  have ltA := A5.lt
  obtain ⟨b5_0, b5_1, b5_2, b5_3⟩ := rowc B5
  have ltB := B5.lt
  obtain ⟨c5_0, c5_1, c5_2, c5_3⟩ := rowc C5
  have ltC := C5.lt
  obtain ⟨d5_0, d5_1, d5_2, d5_3⟩ := rowc D5
  have ltD := D5.lt
  obtain ⟨p5_0, p5_1, p5_2, p5_3⟩ := rowc P5
  have ltP := P5.lt
  go_wp2
  go_ret
  exact ⟨rfl, L5.out⟩

set_option maxHeartbeats 4000000 in
theorem back_ny (a b : Nat → Int) (w : World) (ha : Small a) (hb : Small b) (hM : mulB a b = false) (hD : divB a b = true) :
    Calls Try.prog 5 #[mvf a, mvf b] w fun e w' => e = .returned (.bool true) ∧ Below w.heap.size w w' := by
  have HA := Lib.hid ha
  have HB := Lib.hid hb
  have HX := Lib.hid (boxes w 24 a b)
  have zz : ∀ i, zeroM i = 0 := fun _ => rfl
  have E1 := Lib.hid (mulB_false hM)
  have HD := Lib.hid (div_small ha hb)
  have F1 := Lib.hid (mulM_div hD ha)
  have F2 := Lib.hid (mulE_true (mulB_div hD ha))
  have F3 := Lib.hid (lcm_div.2 hD)
  have D0 := Lib.hid hD
  clear ha hb hM hD
  go_enter Try.func5, Try.ntmps5
  go_wp2_with fail
  refine (mul_as (c := zeroM) (n := 3) _ HA.out HB.out E1.out.1 E1.out.2).mono ?_
  rintro e w1 ⟨rfl, hb1⟩
  have A1 := rowBelow HX.out.1 hb1 (by first | (simp; done) | (simp; omega) | exact A0.lt)
  have B1 := rowBelow HX.out.2 hb1 (by first | (simp; done) | (simp; omega) | exact B0.lt)
  have L1 := Lib.hid ((((Below.refl _ _).alloc (by go_size) _).alloc (by go_size) _).trans (hb1.mono (by go_size)) : Below w.heap.size w w1)
  clear hb1
  obtain ⟨a1_0, a1_1, a1_2, a1_3⟩ := rowc A1
  have ltA := A1.lt
  obtain ⟨b1_0, b1_1, b1_2, b1_3⟩ := rowc B1
  have ltB := B1.lt
  go_wp2_with fail
  refine (div_as (c := divM a b) (n := true) _ HA.out HB.out rfl D0.out).mono ?_
  rintro e w2 ⟨rfl, hb2⟩
  have A2 := rowBelow (A1.alloc (.cells (arr4 zeroM) 24)) hb2 (by first | (simp; done) | (simp; omega) | exact A1.lt)
  have B2 := rowBelow (B1.alloc (.cells (arr4 zeroM) 24)) hb2 (by first | (simp; done) | (simp; omega) | exact B1.lt)
  have C2 := rowBelow (rowNew w1 24 zeroM) hb2 (by simp)
  have L2 := Lib.hid ((L1.out.alloc (by have := L1.out.size; omega) _).trans (hb2.mono (by have := L1.out.size; simp; omega)) : Below w.heap.size w w2)
  clear hb2 L1 A1 a1_0 a1_1 a1_2 a1_3 ltA B1 b1_0 b1_1 b1_2 b1_3 ltB
  obtain ⟨a2_0, a2_1, a2_2, a2_3⟩ := rowc A2
  have ltA := A2.lt
  obtain ⟨b2_0, b2_1, b2_2, b2_3⟩ := rowc B2
  have ltB := B2.lt
  obtain ⟨c2_0, c2_1, c2_2, c2_3⟩ := rowc C2
  have ltC := C2.lt
  go_wp2_with fail
  refine (mul_as (c := a) (n := 0) _ HD.out HB.out F1.out F2.out).mono ?_
  rintro e w3 ⟨rfl, hb3⟩
  have A3 := rowBelow (A2.alloc (.cells (arr4 (divM a b)) 24)) hb3 (by first | (simp; done) | (simp; omega) | exact A2.lt)
  have B3 := rowBelow (B2.alloc (.cells (arr4 (divM a b)) 24)) hb3 (by first | (simp; done) | (simp; omega) | exact B2.lt)
  have C3 := rowBelow (C2.alloc (.cells (arr4 (divM a b)) 24)) hb3 (by first | (simp; done) | (simp; omega) | exact C2.lt)
  have P3 := rowBelow (rowNew w2 24 (divM a b)) hb3 (by simp)
  have L3 := Lib.hid ((L2.out.alloc (by have := L2.out.size; omega) _).trans (hb3.mono (by have := L2.out.size; simp; omega)) : Below w.heap.size w w3)
  clear hb3 L2 A2 a2_0 a2_1 a2_2 a2_3 ltA B2 b2_0 b2_1 b2_2 b2_3 ltB C2 c2_0 c2_1 c2_2 c2_3 ltC
  obtain ⟨a3_0, a3_1, a3_2, a3_3⟩ := rowc A3
  have ltA := A3.lt
  obtain ⟨b3_0, b3_1, b3_2, b3_3⟩ := rowc B3
  have ltB := B3.lt
  obtain ⟨c3_0, c3_1, c3_2, c3_3⟩ := rowc C3
  have ltC := C3.lt
  obtain ⟨p3_0, p3_1, p3_2, p3_3⟩ := rowc P3
  have ltP := P3.lt
  go_wp2_with fail
  refine wp_region_quiet_below (by kernel_rfl) (by kernel_rfl) ?_
  obtain ⟨ar_0, ar_1, ar_2, ar_3⟩ := rows4 (A3.alloc (.cells (arr4 a) 24))
  obtain ⟨br_0, br_1, br_2, br_3⟩ := rows4 (B3.alloc (.cells (arr4 a) 24))
  obtain ⟨cr_0, cr_1, cr_2, cr_3⟩ := rows4 (C3.alloc (.cells (arr4 a) 24))
  obtain ⟨pr_0, pr_1, pr_2, pr_3⟩ := rows4 (P3.alloc (.cells (arr4 a) 24))
  obtain ⟨qr_0, qr_1, qr_2, qr_3⟩ := rows4 (rowNew w3 24 a)
  repeat (go_big_quiet_step (first
    | (go_at_call 21; exact Calls.regrown_of (alive_any _))
    | (go_at_call 15; exact Calls.regrown_of (lcm_at (c := a) _ HA.out HB.out F3.out))))
  refine wpQuiet_nil ?_
  intro w4 hw4
  obtain ⟨q, hq⟩ := hw4
  have hb4 : Below (w3.alloc (.cells (arr4 a) 24)).heap.size (w3.alloc (.cells (arr4 a) 24)) w4 := by
    have h := below_regrown (w3.alloc (.cells (arr4 a) 24)) q.d q.os
    have e : w4 = grow (redrawn (w3.alloc (.cells (arr4 a) 24)) q.d) q.os := hq
    rw [e]; exact h
  clear hq ar_0 ar_1 ar_2 ar_3 br_0 br_1 br_2 br_3 cr_0 cr_1 cr_2 cr_3 pr_0 pr_1 pr_2 pr_3 qr_0 qr_1 qr_2 qr_3
  have A4 := rowBelow (A3.alloc (.cells (arr4 a) 24)) hb4 (by first | (simp; done) | (simp; omega) | exact A3.lt)
  have B4 := rowBelow (B3.alloc (.cells (arr4 a) 24)) hb4 (by first | (simp; done) | (simp; omega) | exact B3.lt)
  have C4 := rowBelow (C3.alloc (.cells (arr4 a) 24)) hb4 (by first | (simp; done) | (simp; omega) | exact C3.lt)
  have P4 := rowBelow (P3.alloc (.cells (arr4 a) 24)) hb4 (by first | (simp; done) | (simp; omega) | exact P3.lt)
  have Q4 := rowBelow (rowNew w3 24 a) hb4 (by simp)
  have L4 := Lib.hid ((L3.out.alloc (by have := L3.out.size; omega) _).trans (hb4.mono (by have := L3.out.size; simp; omega)) : Below w.heap.size w w4)
  clear hb4 L3 A3 a3_0 a3_1 a3_2 a3_3 ltA B3 b3_0 b3_1 b3_2 b3_3 ltB C3 c3_0 c3_1 c3_2 c3_3 ltC P3 p3_0 p3_1 p3_2 p3_3 ltP
  obtain ⟨a4_0, a4_1, a4_2, a4_3⟩ := rowc A4
  have ltA := A4.lt
  obtain ⟨b4_0, b4_1, b4_2, b4_3⟩ := rowc B4
  have ltB := B4.lt
  obtain ⟨c4_0, c4_1, c4_2, c4_3⟩ := rowc C4
  have ltC := C4.lt
  obtain ⟨p4_0, p4_1, p4_2, p4_3⟩ := rowc P4
  have ltP := P4.lt
  obtain ⟨q4_0, q4_1, q4_2, q4_3⟩ := rowc Q4
  have ltQ := Q4.lt
  go_wp2
  go_ret
  exact ⟨rfl, L4.out⟩

set_option maxHeartbeats 4000000 in
theorem back_nn (a b : Nat → Int) (w : World) (ha : Small a) (hb : Small b) (hM : mulB a b = false) (hD : divB a b = false) :
    Calls Try.prog 5 #[mvf a, mvf b] w fun e w' => e = .returned (.bool true) ∧ Below w.heap.size w w' := by
  have HA := Lib.hid ha
  have HB := Lib.hid hb
  have HX := Lib.hid (boxes w 24 a b)
  have zz : ∀ i, zeroM i = 0 := fun _ => rfl
  have E1 := Lib.hid (mulB_false hM)
  have F1 := Lib.hid (divB_false hD)
  have F3 : (lcmM a b 0 == a 0 && (lcmM a b 1 == a 1 && (lcmM a b 2 == a 2 && lcmM a b 3 == a 3))) = false := same4_false (mt lcm_div.1 (by simp [hD]))
  have D0 := Lib.hid hD
  clear ha hb hM hD
  go_enter Try.func5, Try.ntmps5
  go_wp2_with fail
  refine (mul_as (c := zeroM) (n := 3) _ HA.out HB.out E1.out.1 E1.out.2).mono ?_
  rintro e w1 ⟨rfl, hb1⟩
  have A1 := rowBelow HX.out.1 hb1 (by first | (simp; done) | (simp; omega) | exact A0.lt)
  have B1 := rowBelow HX.out.2 hb1 (by first | (simp; done) | (simp; omega) | exact B0.lt)
  have L1 := Lib.hid ((((Below.refl _ _).alloc (by go_size) _).alloc (by go_size) _).trans (hb1.mono (by go_size)) : Below w.heap.size w w1)
  clear hb1
  obtain ⟨a1_0, a1_1, a1_2, a1_3⟩ := rowc A1
  have ltA := A1.lt
  obtain ⟨b1_0, b1_1, b1_2, b1_3⟩ := rowc B1
  have ltB := B1.lt
  go_wp2_with fail
  refine (div_as (c := zeroM) (n := false) _ HA.out HB.out F1.out D0.out).mono ?_
  rintro e w2 ⟨rfl, hb2⟩
  have A2 := rowBelow (A1.alloc (.cells (arr4 zeroM) 24)) hb2 (by first | (simp; done) | (simp; omega) | exact A1.lt)
  have B2 := rowBelow (B1.alloc (.cells (arr4 zeroM) 24)) hb2 (by first | (simp; done) | (simp; omega) | exact B1.lt)
  have C2 := rowBelow (rowNew w1 24 zeroM) hb2 (by simp)
  have L2 := Lib.hid ((L1.out.alloc (by have := L1.out.size; omega) _).trans (hb2.mono (by have := L1.out.size; simp; omega)) : Below w.heap.size w w2)
  clear hb2 L1 A1 a1_0 a1_1 a1_2 a1_3 ltA B1 b1_0 b1_1 b1_2 b1_3 ltB
  obtain ⟨a2_0, a2_1, a2_2, a2_3⟩ := rowc A2
  have ltA := A2.lt
  obtain ⟨b2_0, b2_1, b2_2, b2_3⟩ := rowc B2
  have ltB := B2.lt
  obtain ⟨c2_0, c2_1, c2_2, c2_3⟩ := rowc C2
  have ltC := C2.lt
  go_wp2_with fail
  refine wp_region_quiet_below (by kernel_rfl) (by kernel_rfl) ?_
  obtain ⟨ar_0, ar_1, ar_2, ar_3⟩ := rows4 (A2.alloc (.cells (arr4 zeroM) 24))
  obtain ⟨br_0, br_1, br_2, br_3⟩ := rows4 (B2.alloc (.cells (arr4 zeroM) 24))
  obtain ⟨cr_0, cr_1, cr_2, cr_3⟩ := rows4 (C2.alloc (.cells (arr4 zeroM) 24))
  obtain ⟨pr_0, pr_1, pr_2, pr_3⟩ := rows4 (rowNew w2 24 zeroM)
  simp only [arr4, zz] at ar_0 ar_1 ar_2 ar_3 br_0 br_1 br_2 br_3 cr_0 cr_1 cr_2 cr_3 pr_0 pr_1 pr_2 pr_3
  repeat (go_big_quiet_step (first
    | (go_at_call 21; exact Calls.regrown_of (alive_any _))
    | (go_at_call 15; exact Calls.regrown_of (lcm_any a b _ HA.out HB.out))))
  refine wpQuiet_nil ?_
  intro w3 hw3
  obtain ⟨q, hq⟩ := hw3
  have hb3 : Below (w2.alloc (.cells (arr4 zeroM) 24)).heap.size (w2.alloc (.cells (arr4 zeroM) 24)) w3 := by
    have h := below_regrown (w2.alloc (.cells (arr4 zeroM) 24)) q.d q.os
    have e : w3 = grow (redrawn (w2.alloc (.cells (arr4 zeroM) 24)) q.d) q.os := hq
    rw [e]; exact h
  clear hq ar_0 ar_1 ar_2 ar_3 br_0 br_1 br_2 br_3 cr_0 cr_1 cr_2 cr_3 pr_0 pr_1 pr_2 pr_3
  have A3 := rowBelow (A2.alloc (.cells (arr4 zeroM) 24)) hb3 (by first | (simp; done) | (simp; omega) | exact A2.lt)
  have B3 := rowBelow (B2.alloc (.cells (arr4 zeroM) 24)) hb3 (by first | (simp; done) | (simp; omega) | exact B2.lt)
  have C3 := rowBelow (C2.alloc (.cells (arr4 zeroM) 24)) hb3 (by first | (simp; done) | (simp; omega) | exact C2.lt)
  have P3 := rowBelow (rowNew w2 24 zeroM) hb3 (by simp)
  have L3 := Lib.hid ((L2.out.alloc (by have := L2.out.size; omega) _).trans (hb3.mono (by have := L2.out.size; simp; omega)) : Below w.heap.size w w3)
  clear hb3 L2 A2 a2_0 a2_1 a2_2 a2_3 ltA B2 b2_0 b2_1 b2_2 b2_3 ltB C2 c2_0 c2_1 c2_2 c2_3 ltC
  obtain ⟨a3_0, a3_1, a3_2, a3_3⟩ := rowc A3
  have ltA := A3.lt
  obtain ⟨b3_0, b3_1, b3_2, b3_3⟩ := rowc B3
  have ltB := B3.lt
  obtain ⟨c3_0, c3_1, c3_2, c3_3⟩ := rowc C3
  have ltC := C3.lt
  obtain ⟨p3_0, p3_1, p3_2, p3_3⟩ := rowc P3
  have ltP := P3.lt
  go_wp2
  go_ret
  exact ⟨rfl, L3.out⟩

theorem back_walk (a b : Nat → Int) (w : World) (ha : Small a) (hb : Small b) :
    Calls Try.prog 5 #[mvf a, mvf b] w fun e w' => e = .returned (.bool true) ∧ Below w.heap.size w w' := by
  cases hM : mulB a b <;> cases hD : divB a b
  · exact back_nn a b w ha hb hM hD
  · exact back_ny a b w ha hb hM hD
  · exact back_yn a b w ha hb hM hD
  · exact back_yy a b w ha hb hM hD

open Go.ChangeShapes Go.WideShapes Go.ChangeAt
theorem own : ownKnob Try.prog.godebug = none := by kernel_rfl
theorem laidOut : laidOutB Try.prog = true := by kernel_rfl
theorem cellsM : Try.prog.cellsOf 24 = 4 := by kernel_rfl
theorem cellsU : Try.prog.cellsOf 22 = 1 := by kernel_rfl

set_option maxRecDepth 100000 in
theorem back_lifted (os : Os) (started : os.Started) (H : Type) (enc : TypeId × Value → H) :
    ReturnsInHanded {} Try.checked os 5 .any (Rows.monosBackSpec.pre6 enc Try.prog Try.f5 Rows.monosBackRow.domain false) (Rows.monosBackSpec.post enc Try.prog Try.f5 false true false false) := by
  refine returnsInHanded_of_change (C := Try.checked) own started (by kernel_rfl) Try.func5
    (ChangeSpec.witness6 (enc := enc) (C := Try.checked) false ⟨#[], #[mv 0 0 0 0, mv 0 0 0 0], []⟩ 8 (by kernel_rfl) (by kernel_rfl) (by kernel_rfl) (by kernel_rfl)) ?_
  intro W base args ds gs before hval0 hW hcnd _
  have hval : ∀ (j : Nat) t v, Try.f5.params[j]? = some t → args[j]? = some v → Value.okWide Try.prog W .any base t v := hval0
  have hW' := hW
  obtain ⟨p, q, hA0, hV, rfl, hfz, hnd⟩ := hW
  have hA : DataW.TrodAll enc Try.prog W 0 (fun _ => true) true Try.f5.params.toList args.toList ds p := hA0
  rw [Try.params5] at hA hval
  obtain ⟨v0, v1, d0, d1, p0, p1, rfl, rfl, rfl, h0, h1⟩ := trodAll_two hA
  obtain ⟨rfl, rfl⟩ := trodVars_none hV
  obtain ⟨a, rfl, ha⟩ := LawPost.open_four Try.underlying24 Try.underlying22 cellsU cellsM (hval 0 24 v0 rfl rfl) h0
  obtain ⟨b, rfl, hb⟩ := LawPost.open_four Try.underlying24 Try.underlying22 cellsU cellsM (hval 1 24 v1 rfl rfl) h1
  refine (back_walk a b W ha hb).mono fun e W' ⟨he, hg⟩ => ?_
  subst he
  exact ⟨_, rfl, LawPost.law_post laidOut (by kernel_rfl) (by kernel_rfl) Try.underlying4 hW' rfl rfl hg⟩

theorem back_holds : Rows.MonosBackSaid :=
  OpenClaim.holds_of_wide 5 Try.f5 rfl rfl rfl rfl rfl rfl rfl ⟨rfl, rfl, rfl, rfl, rfl⟩ rfl rfl rfl rfl rfl (by kernel_rfl) Try.func5 (by kernel_rfl)
    (of_decide_eq_true (by kernel_rfl)) (by unfold Func.isWrapper; first | (rw [if_pos (by decide +kernel)]; kernel_rfl) | (rw [if_neg (by decide +kernel)]; exact ⟨rfl, rfl⟩))
    (fun os started H enc _ => back_lifted os started H enc)
#print axioms back_holds
end Go.Proofs.Ytlhkiodgjcbjbaa.Mono
