/-
  MonosLeast: whatever three products come in, the law returns true.
-/
import Derived.Test.YtlhkiodgjcbjbaaMonoKeys
import Derived.Test.YtlhkiodgjcbjbaaLawPost
namespace Go.Proofs.Ytlhkiodgjcbjbaa.Mono
open Go.RowKit Go.Sort

set_option maxHeartbeats 4000000 in
theorem least_11 (a b c : Nat → Int) (w : World) (ha : Small a) (hb : Small b) (hc : Small c) (hX : divB c a = true) (hY : divB c b = true) :
    Calls Try.prog 6 #[mvf a, mvf b, mvf c] w fun e w' => e = .returned (.bool true) ∧ Below w.heap.size w w' := by
  have HA := Lib.hid ha
  have HB := Lib.hid hb
  have HC := Lib.hid hc
  have HX := Lib.hid (boxes3 w 24 a b c)
  have HL := Lib.hid (lcm_small ha hb)
  have E1 := Lib.hid (lcm_divA a b)
  have E2 := Lib.hid (lcm_divB a b)
  have E3 := Lib.hid (lcm_all a b c)
  have E4 := Lib.hid (lcm_comm a b)
  have E5 := Lib.hid (lcm_self a)
  have E6 := Lib.hid (lcm_again a b)
  have X0 := Lib.hid hX
  have Y0 := Lib.hid hY
  have E7 := Lib.hid (show divB c (lcmM a b) = true by rw [lcm_all a b c, hX, hY]; rfl)
  clear ha hb hc hX hY
  go_enter Try.func6, Try.ntmps6
  go_wp2_with fail
  refine (lcm_any a b _ HA.out HB.out).mono ?_
  rintro e w1 ⟨rfl, hb1⟩
  have A1 := rowBelow HX.out.1 hb1 (by first | (simp; done) | (simp; omega) | exact A0.lt)
  have B1 := rowBelow HX.out.2.1 hb1 (by first | (simp; done) | (simp; omega) | exact B0.lt)
  have C1 := rowBelow HX.out.2.2 hb1 (by first | (simp; done) | (simp; omega) | exact C0.lt)
  have L1 := Lib.hid (((((Below.refl _ _).alloc (by go_size) _).alloc (by go_size) _).alloc (by go_size) _).trans (hb1.mono (by go_size)) : Below w.heap.size w w1)
  clear hb1
  obtain ⟨a1_0, a1_1, a1_2, a1_3⟩ := rowc A1
  have ltA := A1.lt
  obtain ⟨b1_0, b1_1, b1_2, b1_3⟩ := rowc B1
  have ltB := B1.lt
  obtain ⟨c1_0, c1_1, c1_2, c1_3⟩ := rowc C1
  have ltC := C1.lt
  go_wp2_with fail
  refine (div_as (c := divM (lcmM a b) a) (n := true) _ HL.out HA.out rfl E1.out).mono ?_
  rintro e w2 ⟨rfl, hb2⟩
  have A2 := rowBelow (A1.alloc (.cells (arr4 (lcmM a b)) 24)) hb2 (by first | (simp; done) | (simp; omega) | exact A1.lt)
  have B2 := rowBelow (B1.alloc (.cells (arr4 (lcmM a b)) 24)) hb2 (by first | (simp; done) | (simp; omega) | exact B1.lt)
  have C2 := rowBelow (C1.alloc (.cells (arr4 (lcmM a b)) 24)) hb2 (by first | (simp; done) | (simp; omega) | exact C1.lt)
  have L02 := rowBelow (rowNew w1 24 (lcmM a b)) hb2 (by simp)
  have L2 := Lib.hid ((L1.out.alloc (by have := L1.out.size; omega) _).trans (hb2.mono (by have := L1.out.size; simp; omega)) : Below w.heap.size w w2)
  clear hb2 L1 A1 a1_0 a1_1 a1_2 a1_3 ltA B1 b1_0 b1_1 b1_2 b1_3 ltB C1 c1_0 c1_1 c1_2 c1_3 ltC
  obtain ⟨a2_0, a2_1, a2_2, a2_3⟩ := rowc A2
  have ltA := A2.lt
  obtain ⟨b2_0, b2_1, b2_2, b2_3⟩ := rowc B2
  have ltB := B2.lt
  obtain ⟨c2_0, c2_1, c2_2, c2_3⟩ := rowc C2
  have ltC := C2.lt
  obtain ⟨l02_0, l02_1, l02_2, l02_3⟩ := rowc L02
  have ltL0 := L02.lt
  go_wp2_with fail
  refine (div_as (c := divM (lcmM a b) b) (n := true) _ HL.out HB.out rfl E2.out).mono ?_
  rintro e w3 ⟨rfl, hb3⟩
  have A3 := rowBelow (A2.alloc (.cells (arr4 (divM (lcmM a b) a)) 24)) hb3 (by first | (simp; done) | (simp; omega) | exact A2.lt)
  have B3 := rowBelow (B2.alloc (.cells (arr4 (divM (lcmM a b) a)) 24)) hb3 (by first | (simp; done) | (simp; omega) | exact B2.lt)
  have C3 := rowBelow (C2.alloc (.cells (arr4 (divM (lcmM a b) a)) 24)) hb3 (by first | (simp; done) | (simp; omega) | exact C2.lt)
  have L03 := rowBelow (L02.alloc (.cells (arr4 (divM (lcmM a b) a)) 24)) hb3 (by first | (simp; done) | (simp; omega) | exact L02.lt)
  have L3 := Lib.hid ((L2.out.alloc (by have := L2.out.size; omega) _).trans (hb3.mono (by have := L2.out.size; simp; omega)) : Below w.heap.size w w3)
  clear hb3 L2 A2 a2_0 a2_1 a2_2 a2_3 ltA B2 b2_0 b2_1 b2_2 b2_3 ltB C2 c2_0 c2_1 c2_2 c2_3 ltC L02 l02_0 l02_1 l02_2 l02_3 ltL0
  obtain ⟨a3_0, a3_1, a3_2, a3_3⟩ := rowc A3
  have ltA := A3.lt
  obtain ⟨b3_0, b3_1, b3_2, b3_3⟩ := rowc B3
  have ltB := B3.lt
  obtain ⟨c3_0, c3_1, c3_2, c3_3⟩ := rowc C3
  have ltC := C3.lt
  obtain ⟨l03_0, l03_1, l03_2, l03_3⟩ := rowc L03
  have ltL0 := L03.lt
  go_wp2_with fail
  refine (div_as (c := divM c a) (n := true) _ HC.out HA.out rfl X0.out).mono ?_
  rintro e w4 ⟨rfl, hb4⟩
  have A4 := rowBelow (A3.alloc (.cells (arr4 (divM (lcmM a b) b)) 24)) hb4 (by first | (simp; done) | (simp; omega) | exact A3.lt)
  have B4 := rowBelow (B3.alloc (.cells (arr4 (divM (lcmM a b) b)) 24)) hb4 (by first | (simp; done) | (simp; omega) | exact B3.lt)
  have C4 := rowBelow (C3.alloc (.cells (arr4 (divM (lcmM a b) b)) 24)) hb4 (by first | (simp; done) | (simp; omega) | exact C3.lt)
  have L04 := rowBelow (L03.alloc (.cells (arr4 (divM (lcmM a b) b)) 24)) hb4 (by first | (simp; done) | (simp; omega) | exact L03.lt)
  have L4 := Lib.hid ((L3.out.alloc (by have := L3.out.size; omega) _).trans (hb4.mono (by have := L3.out.size; simp; omega)) : Below w.heap.size w w4)
  clear hb4 L3 A3 a3_0 a3_1 a3_2 a3_3 ltA B3 b3_0 b3_1 b3_2 b3_3 ltB C3 c3_0 c3_1 c3_2 c3_3 ltC L03 l03_0 l03_1 l03_2 l03_3 ltL0
  obtain ⟨a4_0, a4_1, a4_2, a4_3⟩ := rowc A4
  have ltA := A4.lt
  obtain ⟨b4_0, b4_1, b4_2, b4_3⟩ := rowc B4
  have ltB := B4.lt
  obtain ⟨c4_0, c4_1, c4_2, c4_3⟩ := rowc C4
  have ltC := C4.lt
  obtain ⟨l04_0, l04_1, l04_2, l04_3⟩ := rowc L04
  have ltL0 := L04.lt
  go_wp2_with fail
  refine (div_as (c := divM c b) (n := true) _ HC.out HB.out rfl Y0.out).mono ?_
  rintro e w5 ⟨rfl, hb5⟩
  have A5 := rowBelow (A4.alloc (.cells (arr4 (divM c a)) 24)) hb5 (by first | (simp; done) | (simp; omega) | exact A4.lt)
  have B5 := rowBelow (B4.alloc (.cells (arr4 (divM c a)) 24)) hb5 (by first | (simp; done) | (simp; omega) | exact B4.lt)
  have C5 := rowBelow (C4.alloc (.cells (arr4 (divM c a)) 24)) hb5 (by first | (simp; done) | (simp; omega) | exact C4.lt)
  have L05 := rowBelow (L04.alloc (.cells (arr4 (divM c a)) 24)) hb5 (by first | (simp; done) | (simp; omega) | exact L04.lt)
  have L5 := Lib.hid ((L4.out.alloc (by have := L4.out.size; omega) _).trans (hb5.mono (by have := L4.out.size; simp; omega)) : Below w.heap.size w w5)
  clear hb5 L4 A4 a4_0 a4_1 a4_2 a4_3 ltA B4 b4_0 b4_1 b4_2 b4_3 ltB C4 c4_0 c4_1 c4_2 c4_3 ltC L04 l04_0 l04_1 l04_2 l04_3 ltL0
  obtain ⟨a5_0, a5_1, a5_2, a5_3⟩ := rowc A5
  have ltA := A5.lt
  obtain ⟨b5_0, b5_1, b5_2, b5_3⟩ := rowc B5
  have ltB := B5.lt
  obtain ⟨c5_0, c5_1, c5_2, c5_3⟩ := rowc C5
  have ltC := C5.lt
  obtain ⟨l05_0, l05_1, l05_2, l05_3⟩ := rowc L05
  have ltL0 := L05.lt
  go_wp2_with fail
  refine (div_as (c := divM c (lcmM a b)) (n := true) _ HC.out HL.out rfl E7.out).mono ?_
  rintro e w6 ⟨rfl, hb6⟩
  have A6 := rowBelow (A5.alloc (.cells (arr4 (divM c b)) 24)) hb6 (by first | (simp; done) | (simp; omega) | exact A5.lt)
  have B6 := rowBelow (B5.alloc (.cells (arr4 (divM c b)) 24)) hb6 (by first | (simp; done) | (simp; omega) | exact B5.lt)
  have C6 := rowBelow (C5.alloc (.cells (arr4 (divM c b)) 24)) hb6 (by first | (simp; done) | (simp; omega) | exact C5.lt)
  have L06 := rowBelow (L05.alloc (.cells (arr4 (divM c b)) 24)) hb6 (by first | (simp; done) | (simp; omega) | exact L05.lt)
  have L6 := Lib.hid ((L5.out.alloc (by have := L5.out.size; omega) _).trans (hb6.mono (by have := L5.out.size; simp; omega)) : Below w.heap.size w w6)
  clear hb6 L5 A5 a5_0 a5_1 a5_2 a5_3 ltA B5 b5_0 b5_1 b5_2 b5_3 ltB C5 c5_0 c5_1 c5_2 c5_3 ltC L05 l05_0 l05_1 l05_2 l05_3 ltL0
  obtain ⟨a6_0, a6_1, a6_2, a6_3⟩ := rowc A6
  have ltA := A6.lt
  obtain ⟨b6_0, b6_1, b6_2, b6_3⟩ := rowc B6
  have ltB := B6.lt
  obtain ⟨c6_0, c6_1, c6_2, c6_3⟩ := rowc C6
  have ltC := C6.lt
  obtain ⟨l06_0, l06_1, l06_2, l06_3⟩ := rowc L06
  have ltL0 := L06.lt
  go_wp2_with fail
  refine wp_region_quiet_below (by kernel_rfl) (by kernel_rfl) ?_
  obtain ⟨ar_0, ar_1, ar_2, ar_3⟩ := rows4 (A6.alloc (.cells (arr4 (divM c (lcmM a b))) 24))
  obtain ⟨br_0, br_1, br_2, br_3⟩ := rows4 (B6.alloc (.cells (arr4 (divM c (lcmM a b))) 24))
  obtain ⟨cr_0, cr_1, cr_2, cr_3⟩ := rows4 (C6.alloc (.cells (arr4 (divM c (lcmM a b))) 24))
  obtain ⟨l0r_0, l0r_1, l0r_2, l0r_3⟩ := rows4 (L06.alloc (.cells (arr4 (divM c (lcmM a b))) 24))
  repeat (go_big_quiet_step (first
    | (go_at_call 21; exact Calls.regrown_of (alive_any _))
    | (go_at_call 15; first | (with_reducible exact Calls.regrown_of (lcm_at (a := b) (b := a) (c := lcmM a b) _ HB.out HA.out E4.out)) | (with_reducible exact Calls.regrown_of (lcm_at (a := a) (b := a) (c := a) _ HA.out HA.out E5.out)) | (with_reducible exact Calls.regrown_of (lcm_at (a := lcmM a b) (b := a) (c := lcmM a b) _ HL.out HA.out E6.out)))))
  refine wpQuiet_nil ?_
  intro w7 hw7
  obtain ⟨q, hq⟩ := hw7
  have hb7 : Below (w6.alloc (.cells (arr4 (divM c (lcmM a b))) 24)).heap.size (w6.alloc (.cells (arr4 (divM c (lcmM a b))) 24)) w7 := by
    have h := below_regrown (w6.alloc (.cells (arr4 (divM c (lcmM a b))) 24)) q.d q.os
    have e : w7 = grow (redrawn (w6.alloc (.cells (arr4 (divM c (lcmM a b))) 24)) q.d) q.os := hq
    rw [e]; exact h
  clear hq ar_0 ar_1 ar_2 ar_3 br_0 br_1 br_2 br_3 cr_0 cr_1 cr_2 cr_3 l0r_0 l0r_1 l0r_2 l0r_3
  have A7 := rowBelow (A6.alloc (.cells (arr4 (divM c (lcmM a b))) 24)) hb7 (by first | (simp; done) | (simp; omega) | exact A6.lt)
  have B7 := rowBelow (B6.alloc (.cells (arr4 (divM c (lcmM a b))) 24)) hb7 (by first | (simp; done) | (simp; omega) | exact B6.lt)
  have C7 := rowBelow (C6.alloc (.cells (arr4 (divM c (lcmM a b))) 24)) hb7 (by first | (simp; done) | (simp; omega) | exact C6.lt)
  have L07 := rowBelow (L06.alloc (.cells (arr4 (divM c (lcmM a b))) 24)) hb7 (by first | (simp; done) | (simp; omega) | exact L06.lt)
  have L7 := Lib.hid ((L6.out.alloc (by have := L6.out.size; omega) _).trans (hb7.mono (by have := L6.out.size; simp; omega)) : Below w.heap.size w w7)
  clear hb7 L6 A6 a6_0 a6_1 a6_2 a6_3 ltA B6 b6_0 b6_1 b6_2 b6_3 ltB C6 c6_0 c6_1 c6_2 c6_3 ltC L06 l06_0 l06_1 l06_2 l06_3 ltL0
  obtain ⟨a7_0, a7_1, a7_2, a7_3⟩ := rowc A7
  have ltA := A7.lt
  obtain ⟨b7_0, b7_1, b7_2, b7_3⟩ := rowc B7
  have ltB := B7.lt
  obtain ⟨c7_0, c7_1, c7_2, c7_3⟩ := rowc C7
  have ltC := C7.lt
  obtain ⟨l07_0, l07_1, l07_2, l07_3⟩ := rowc L07
  have ltL0 := L07.lt
  go_wp2
  go_ret
  exact ⟨rfl, L7.out⟩

set_option maxHeartbeats 4000000 in
theorem least_10 (a b c : Nat → Int) (w : World) (ha : Small a) (hb : Small b) (hc : Small c) (hX : divB c a = true) (hY : divB c b = false) :
    Calls Try.prog 6 #[mvf a, mvf b, mvf c] w fun e w' => e = .returned (.bool true) ∧ Below w.heap.size w w' := by
  have HA := Lib.hid ha
  have HB := Lib.hid hb
  have HC := Lib.hid hc
  have HX := Lib.hid (boxes3 w 24 a b c)
  have HL := Lib.hid (lcm_small ha hb)
  have E1 := Lib.hid (lcm_divA a b)
  have E2 := Lib.hid (lcm_divB a b)
  have E3 := Lib.hid (lcm_all a b c)
  have E4 := Lib.hid (lcm_comm a b)
  have E5 := Lib.hid (lcm_self a)
  have E6 := Lib.hid (lcm_again a b)
  have X0 := Lib.hid hX
  have Y0 := Lib.hid hY
  have E7 := Lib.hid (show divB c (lcmM a b) = false by rw [lcm_all a b c, hX, hY]; rfl)
  clear ha hb hc hX hY
  go_enter Try.func6, Try.ntmps6
  go_wp2_with fail
  refine (lcm_any a b _ HA.out HB.out).mono ?_
  rintro e w1 ⟨rfl, hb1⟩
  have A1 := rowBelow HX.out.1 hb1 (by first | (simp; done) | (simp; omega) | exact A0.lt)
  have B1 := rowBelow HX.out.2.1 hb1 (by first | (simp; done) | (simp; omega) | exact B0.lt)
  have C1 := rowBelow HX.out.2.2 hb1 (by first | (simp; done) | (simp; omega) | exact C0.lt)
  have L1 := Lib.hid (((((Below.refl _ _).alloc (by go_size) _).alloc (by go_size) _).alloc (by go_size) _).trans (hb1.mono (by go_size)) : Below w.heap.size w w1)
  clear hb1
  obtain ⟨a1_0, a1_1, a1_2, a1_3⟩ := rowc A1
  have ltA := A1.lt
  obtain ⟨b1_0, b1_1, b1_2, b1_3⟩ := rowc B1
  have ltB := B1.lt
  obtain ⟨c1_0, c1_1, c1_2, c1_3⟩ := rowc C1
  have ltC := C1.lt
  go_wp2_with fail
  refine (div_as (c := divM (lcmM a b) a) (n := true) _ HL.out HA.out rfl E1.out).mono ?_
  rintro e w2 ⟨rfl, hb2⟩
  have A2 := rowBelow (A1.alloc (.cells (arr4 (lcmM a b)) 24)) hb2 (by first | (simp; done) | (simp; omega) | exact A1.lt)
  have B2 := rowBelow (B1.alloc (.cells (arr4 (lcmM a b)) 24)) hb2 (by first | (simp; done) | (simp; omega) | exact B1.lt)
  have C2 := rowBelow (C1.alloc (.cells (arr4 (lcmM a b)) 24)) hb2 (by first | (simp; done) | (simp; omega) | exact C1.lt)
  have L02 := rowBelow (rowNew w1 24 (lcmM a b)) hb2 (by simp)
  have L2 := Lib.hid ((L1.out.alloc (by have := L1.out.size; omega) _).trans (hb2.mono (by have := L1.out.size; simp; omega)) : Below w.heap.size w w2)
  clear hb2 L1 A1 a1_0 a1_1 a1_2 a1_3 ltA B1 b1_0 b1_1 b1_2 b1_3 ltB C1 c1_0 c1_1 c1_2 c1_3 ltC
  obtain ⟨a2_0, a2_1, a2_2, a2_3⟩ := rowc A2
  have ltA := A2.lt
  obtain ⟨b2_0, b2_1, b2_2, b2_3⟩ := rowc B2
  have ltB := B2.lt
  obtain ⟨c2_0, c2_1, c2_2, c2_3⟩ := rowc C2
  have ltC := C2.lt
  obtain ⟨l02_0, l02_1, l02_2, l02_3⟩ := rowc L02
  have ltL0 := L02.lt
  go_wp2_with fail
  refine (div_as (c := divM (lcmM a b) b) (n := true) _ HL.out HB.out rfl E2.out).mono ?_
  rintro e w3 ⟨rfl, hb3⟩
  have A3 := rowBelow (A2.alloc (.cells (arr4 (divM (lcmM a b) a)) 24)) hb3 (by first | (simp; done) | (simp; omega) | exact A2.lt)
  have B3 := rowBelow (B2.alloc (.cells (arr4 (divM (lcmM a b) a)) 24)) hb3 (by first | (simp; done) | (simp; omega) | exact B2.lt)
  have C3 := rowBelow (C2.alloc (.cells (arr4 (divM (lcmM a b) a)) 24)) hb3 (by first | (simp; done) | (simp; omega) | exact C2.lt)
  have L03 := rowBelow (L02.alloc (.cells (arr4 (divM (lcmM a b) a)) 24)) hb3 (by first | (simp; done) | (simp; omega) | exact L02.lt)
  have L3 := Lib.hid ((L2.out.alloc (by have := L2.out.size; omega) _).trans (hb3.mono (by have := L2.out.size; simp; omega)) : Below w.heap.size w w3)
  clear hb3 L2 A2 a2_0 a2_1 a2_2 a2_3 ltA B2 b2_0 b2_1 b2_2 b2_3 ltB C2 c2_0 c2_1 c2_2 c2_3 ltC L02 l02_0 l02_1 l02_2 l02_3 ltL0
  obtain ⟨a3_0, a3_1, a3_2, a3_3⟩ := rowc A3
  have ltA := A3.lt
  obtain ⟨b3_0, b3_1, b3_2, b3_3⟩ := rowc B3
  have ltB := B3.lt
  obtain ⟨c3_0, c3_1, c3_2, c3_3⟩ := rowc C3
  have ltC := C3.lt
  obtain ⟨l03_0, l03_1, l03_2, l03_3⟩ := rowc L03
  have ltL0 := L03.lt
  go_wp2_with fail
  refine (div_as (c := divM c a) (n := true) _ HC.out HA.out rfl X0.out).mono ?_
  rintro e w4 ⟨rfl, hb4⟩
  have A4 := rowBelow (A3.alloc (.cells (arr4 (divM (lcmM a b) b)) 24)) hb4 (by first | (simp; done) | (simp; omega) | exact A3.lt)
  have B4 := rowBelow (B3.alloc (.cells (arr4 (divM (lcmM a b) b)) 24)) hb4 (by first | (simp; done) | (simp; omega) | exact B3.lt)
  have C4 := rowBelow (C3.alloc (.cells (arr4 (divM (lcmM a b) b)) 24)) hb4 (by first | (simp; done) | (simp; omega) | exact C3.lt)
  have L04 := rowBelow (L03.alloc (.cells (arr4 (divM (lcmM a b) b)) 24)) hb4 (by first | (simp; done) | (simp; omega) | exact L03.lt)
  have L4 := Lib.hid ((L3.out.alloc (by have := L3.out.size; omega) _).trans (hb4.mono (by have := L3.out.size; simp; omega)) : Below w.heap.size w w4)
  clear hb4 L3 A3 a3_0 a3_1 a3_2 a3_3 ltA B3 b3_0 b3_1 b3_2 b3_3 ltB C3 c3_0 c3_1 c3_2 c3_3 ltC L03 l03_0 l03_1 l03_2 l03_3 ltL0
  obtain ⟨a4_0, a4_1, a4_2, a4_3⟩ := rowc A4
  have ltA := A4.lt
  obtain ⟨b4_0, b4_1, b4_2, b4_3⟩ := rowc B4
  have ltB := B4.lt
  obtain ⟨c4_0, c4_1, c4_2, c4_3⟩ := rowc C4
  have ltC := C4.lt
  obtain ⟨l04_0, l04_1, l04_2, l04_3⟩ := rowc L04
  have ltL0 := L04.lt
  go_wp2_with fail
  refine (div_as (c := divM c b) (n := false) _ HC.out HB.out rfl Y0.out).mono ?_
  rintro e w5 ⟨rfl, hb5⟩
  have A5 := rowBelow (A4.alloc (.cells (arr4 (divM c a)) 24)) hb5 (by first | (simp; done) | (simp; omega) | exact A4.lt)
  have B5 := rowBelow (B4.alloc (.cells (arr4 (divM c a)) 24)) hb5 (by first | (simp; done) | (simp; omega) | exact B4.lt)
  have C5 := rowBelow (C4.alloc (.cells (arr4 (divM c a)) 24)) hb5 (by first | (simp; done) | (simp; omega) | exact C4.lt)
  have L05 := rowBelow (L04.alloc (.cells (arr4 (divM c a)) 24)) hb5 (by first | (simp; done) | (simp; omega) | exact L04.lt)
  have L5 := Lib.hid ((L4.out.alloc (by have := L4.out.size; omega) _).trans (hb5.mono (by have := L4.out.size; simp; omega)) : Below w.heap.size w w5)
  clear hb5 L4 A4 a4_0 a4_1 a4_2 a4_3 ltA B4 b4_0 b4_1 b4_2 b4_3 ltB C4 c4_0 c4_1 c4_2 c4_3 ltC L04 l04_0 l04_1 l04_2 l04_3 ltL0
  obtain ⟨a5_0, a5_1, a5_2, a5_3⟩ := rowc A5
  have ltA := A5.lt
  obtain ⟨b5_0, b5_1, b5_2, b5_3⟩ := rowc B5
  have ltB := B5.lt
  obtain ⟨c5_0, c5_1, c5_2, c5_3⟩ := rowc C5
  have ltC := C5.lt
  obtain ⟨l05_0, l05_1, l05_2, l05_3⟩ := rowc L05
  have ltL0 := L05.lt
  go_wp2_with fail
  refine (div_as (c := divM c (lcmM a b)) (n := false) _ HC.out HL.out rfl E7.out).mono ?_
  rintro e w6 ⟨rfl, hb6⟩
  have A6 := rowBelow (A5.alloc (.cells (arr4 (divM c b)) 24)) hb6 (by first | (simp; done) | (simp; omega) | exact A5.lt)
  have B6 := rowBelow (B5.alloc (.cells (arr4 (divM c b)) 24)) hb6 (by first | (simp; done) | (simp; omega) | exact B5.lt)
  have C6 := rowBelow (C5.alloc (.cells (arr4 (divM c b)) 24)) hb6 (by first | (simp; done) | (simp; omega) | exact C5.lt)
  have L06 := rowBelow (L05.alloc (.cells (arr4 (divM c b)) 24)) hb6 (by first | (simp; done) | (simp; omega) | exact L05.lt)
  have L6 := Lib.hid ((L5.out.alloc (by have := L5.out.size; omega) _).trans (hb6.mono (by have := L5.out.size; simp; omega)) : Below w.heap.size w w6)
  clear hb6 L5 A5 a5_0 a5_1 a5_2 a5_3 ltA B5 b5_0 b5_1 b5_2 b5_3 ltB C5 c5_0 c5_1 c5_2 c5_3 ltC L05 l05_0 l05_1 l05_2 l05_3 ltL0
  obtain ⟨a6_0, a6_1, a6_2, a6_3⟩ := rowc A6
  have ltA := A6.lt
  obtain ⟨b6_0, b6_1, b6_2, b6_3⟩ := rowc B6
  have ltB := B6.lt
  obtain ⟨c6_0, c6_1, c6_2, c6_3⟩ := rowc C6
  have ltC := C6.lt
  obtain ⟨l06_0, l06_1, l06_2, l06_3⟩ := rowc L06
  have ltL0 := L06.lt
  go_wp2_with fail
  refine wp_region_quiet_below (by kernel_rfl) (by kernel_rfl) ?_
  obtain ⟨ar_0, ar_1, ar_2, ar_3⟩ := rows4 (A6.alloc (.cells (arr4 (divM c (lcmM a b))) 24))
  obtain ⟨br_0, br_1, br_2, br_3⟩ := rows4 (B6.alloc (.cells (arr4 (divM c (lcmM a b))) 24))
  obtain ⟨cr_0, cr_1, cr_2, cr_3⟩ := rows4 (C6.alloc (.cells (arr4 (divM c (lcmM a b))) 24))
  obtain ⟨l0r_0, l0r_1, l0r_2, l0r_3⟩ := rows4 (L06.alloc (.cells (arr4 (divM c (lcmM a b))) 24))
  repeat (go_big_quiet_step (first
    | (go_at_call 21; exact Calls.regrown_of (alive_any _))
    | (go_at_call 15; first | (with_reducible exact Calls.regrown_of (lcm_at (a := b) (b := a) (c := lcmM a b) _ HB.out HA.out E4.out)) | (with_reducible exact Calls.regrown_of (lcm_at (a := a) (b := a) (c := a) _ HA.out HA.out E5.out)) | (with_reducible exact Calls.regrown_of (lcm_at (a := lcmM a b) (b := a) (c := lcmM a b) _ HL.out HA.out E6.out)))))
  refine wpQuiet_nil ?_
  intro w7 hw7
  obtain ⟨q, hq⟩ := hw7
  have hb7 : Below (w6.alloc (.cells (arr4 (divM c (lcmM a b))) 24)).heap.size (w6.alloc (.cells (arr4 (divM c (lcmM a b))) 24)) w7 := by
    have h := below_regrown (w6.alloc (.cells (arr4 (divM c (lcmM a b))) 24)) q.d q.os
    have e : w7 = grow (redrawn (w6.alloc (.cells (arr4 (divM c (lcmM a b))) 24)) q.d) q.os := hq
    rw [e]; exact h
  clear hq ar_0 ar_1 ar_2 ar_3 br_0 br_1 br_2 br_3 cr_0 cr_1 cr_2 cr_3 l0r_0 l0r_1 l0r_2 l0r_3
  have A7 := rowBelow (A6.alloc (.cells (arr4 (divM c (lcmM a b))) 24)) hb7 (by first | (simp; done) | (simp; omega) | exact A6.lt)
  have B7 := rowBelow (B6.alloc (.cells (arr4 (divM c (lcmM a b))) 24)) hb7 (by first | (simp; done) | (simp; omega) | exact B6.lt)
  have C7 := rowBelow (C6.alloc (.cells (arr4 (divM c (lcmM a b))) 24)) hb7 (by first | (simp; done) | (simp; omega) | exact C6.lt)
  have L07 := rowBelow (L06.alloc (.cells (arr4 (divM c (lcmM a b))) 24)) hb7 (by first | (simp; done) | (simp; omega) | exact L06.lt)
  have L7 := Lib.hid ((L6.out.alloc (by have := L6.out.size; omega) _).trans (hb7.mono (by have := L6.out.size; simp; omega)) : Below w.heap.size w w7)
  clear hb7 L6 A6 a6_0 a6_1 a6_2 a6_3 ltA B6 b6_0 b6_1 b6_2 b6_3 ltB C6 c6_0 c6_1 c6_2 c6_3 ltC L06 l06_0 l06_1 l06_2 l06_3 ltL0
  obtain ⟨a7_0, a7_1, a7_2, a7_3⟩ := rowc A7
  have ltA := A7.lt
  obtain ⟨b7_0, b7_1, b7_2, b7_3⟩ := rowc B7
  have ltB := B7.lt
  obtain ⟨c7_0, c7_1, c7_2, c7_3⟩ := rowc C7
  have ltC := C7.lt
  obtain ⟨l07_0, l07_1, l07_2, l07_3⟩ := rowc L07
  have ltL0 := L07.lt
  go_wp2
  go_ret
  exact ⟨rfl, L7.out⟩

set_option maxHeartbeats 4000000 in
theorem least_01 (a b c : Nat → Int) (w : World) (ha : Small a) (hb : Small b) (hc : Small c) (hX : divB c a = false) (hY : divB c b = true) :
    Calls Try.prog 6 #[mvf a, mvf b, mvf c] w fun e w' => e = .returned (.bool true) ∧ Below w.heap.size w w' := by
  have HA := Lib.hid ha
  have HB := Lib.hid hb
  have HC := Lib.hid hc
  have HX := Lib.hid (boxes3 w 24 a b c)
  have HL := Lib.hid (lcm_small ha hb)
  have E1 := Lib.hid (lcm_divA a b)
  have E2 := Lib.hid (lcm_divB a b)
  have E3 := Lib.hid (lcm_all a b c)
  have E4 := Lib.hid (lcm_comm a b)
  have E5 := Lib.hid (lcm_self a)
  have E6 := Lib.hid (lcm_again a b)
  have X0 := Lib.hid hX
  have Y0 := Lib.hid hY
  have E7 := Lib.hid (show divB c (lcmM a b) = false by rw [lcm_all a b c, hX, hY]; rfl)
  clear ha hb hc hX hY
  go_enter Try.func6, Try.ntmps6
  go_wp2_with fail
  refine (lcm_any a b _ HA.out HB.out).mono ?_
  rintro e w1 ⟨rfl, hb1⟩
  have A1 := rowBelow HX.out.1 hb1 (by first | (simp; done) | (simp; omega) | exact A0.lt)
  have B1 := rowBelow HX.out.2.1 hb1 (by first | (simp; done) | (simp; omega) | exact B0.lt)
  have C1 := rowBelow HX.out.2.2 hb1 (by first | (simp; done) | (simp; omega) | exact C0.lt)
  have L1 := Lib.hid (((((Below.refl _ _).alloc (by go_size) _).alloc (by go_size) _).alloc (by go_size) _).trans (hb1.mono (by go_size)) : Below w.heap.size w w1)
  clear hb1
  obtain ⟨a1_0, a1_1, a1_2, a1_3⟩ := rowc A1
  have ltA := A1.lt
  obtain ⟨b1_0, b1_1, b1_2, b1_3⟩ := rowc B1
  have ltB := B1.lt
  obtain ⟨c1_0, c1_1, c1_2, c1_3⟩ := rowc C1
  have ltC := C1.lt
  go_wp2_with fail
  refine (div_as (c := divM (lcmM a b) a) (n := true) _ HL.out HA.out rfl E1.out).mono ?_
  rintro e w2 ⟨rfl, hb2⟩
  have A2 := rowBelow (A1.alloc (.cells (arr4 (lcmM a b)) 24)) hb2 (by first | (simp; done) | (simp; omega) | exact A1.lt)
  have B2 := rowBelow (B1.alloc (.cells (arr4 (lcmM a b)) 24)) hb2 (by first | (simp; done) | (simp; omega) | exact B1.lt)
  have C2 := rowBelow (C1.alloc (.cells (arr4 (lcmM a b)) 24)) hb2 (by first | (simp; done) | (simp; omega) | exact C1.lt)
  have L02 := rowBelow (rowNew w1 24 (lcmM a b)) hb2 (by simp)
  have L2 := Lib.hid ((L1.out.alloc (by have := L1.out.size; omega) _).trans (hb2.mono (by have := L1.out.size; simp; omega)) : Below w.heap.size w w2)
  clear hb2 L1 A1 a1_0 a1_1 a1_2 a1_3 ltA B1 b1_0 b1_1 b1_2 b1_3 ltB C1 c1_0 c1_1 c1_2 c1_3 ltC
  obtain ⟨a2_0, a2_1, a2_2, a2_3⟩ := rowc A2
  have ltA := A2.lt
  obtain ⟨b2_0, b2_1, b2_2, b2_3⟩ := rowc B2
  have ltB := B2.lt
  obtain ⟨c2_0, c2_1, c2_2, c2_3⟩ := rowc C2
  have ltC := C2.lt
  obtain ⟨l02_0, l02_1, l02_2, l02_3⟩ := rowc L02
  have ltL0 := L02.lt
  go_wp2_with fail
  refine (div_as (c := divM (lcmM a b) b) (n := true) _ HL.out HB.out rfl E2.out).mono ?_
  rintro e w3 ⟨rfl, hb3⟩
  have A3 := rowBelow (A2.alloc (.cells (arr4 (divM (lcmM a b) a)) 24)) hb3 (by first | (simp; done) | (simp; omega) | exact A2.lt)
  have B3 := rowBelow (B2.alloc (.cells (arr4 (divM (lcmM a b) a)) 24)) hb3 (by first | (simp; done) | (simp; omega) | exact B2.lt)
  have C3 := rowBelow (C2.alloc (.cells (arr4 (divM (lcmM a b) a)) 24)) hb3 (by first | (simp; done) | (simp; omega) | exact C2.lt)
  have L03 := rowBelow (L02.alloc (.cells (arr4 (divM (lcmM a b) a)) 24)) hb3 (by first | (simp; done) | (simp; omega) | exact L02.lt)
  have L3 := Lib.hid ((L2.out.alloc (by have := L2.out.size; omega) _).trans (hb3.mono (by have := L2.out.size; simp; omega)) : Below w.heap.size w w3)
  clear hb3 L2 A2 a2_0 a2_1 a2_2 a2_3 ltA B2 b2_0 b2_1 b2_2 b2_3 ltB C2 c2_0 c2_1 c2_2 c2_3 ltC L02 l02_0 l02_1 l02_2 l02_3 ltL0
  obtain ⟨a3_0, a3_1, a3_2, a3_3⟩ := rowc A3
  have ltA := A3.lt
  obtain ⟨b3_0, b3_1, b3_2, b3_3⟩ := rowc B3
  have ltB := B3.lt
  obtain ⟨c3_0, c3_1, c3_2, c3_3⟩ := rowc C3
  have ltC := C3.lt
  obtain ⟨l03_0, l03_1, l03_2, l03_3⟩ := rowc L03
  have ltL0 := L03.lt
  go_wp2_with fail
  refine (div_as (c := divM c a) (n := false) _ HC.out HA.out rfl X0.out).mono ?_
  rintro e w4 ⟨rfl, hb4⟩
  have A4 := rowBelow (A3.alloc (.cells (arr4 (divM (lcmM a b) b)) 24)) hb4 (by first | (simp; done) | (simp; omega) | exact A3.lt)
  have B4 := rowBelow (B3.alloc (.cells (arr4 (divM (lcmM a b) b)) 24)) hb4 (by first | (simp; done) | (simp; omega) | exact B3.lt)
  have C4 := rowBelow (C3.alloc (.cells (arr4 (divM (lcmM a b) b)) 24)) hb4 (by first | (simp; done) | (simp; omega) | exact C3.lt)
  have L04 := rowBelow (L03.alloc (.cells (arr4 (divM (lcmM a b) b)) 24)) hb4 (by first | (simp; done) | (simp; omega) | exact L03.lt)
  have L4 := Lib.hid ((L3.out.alloc (by have := L3.out.size; omega) _).trans (hb4.mono (by have := L3.out.size; simp; omega)) : Below w.heap.size w w4)
  clear hb4 L3 A3 a3_0 a3_1 a3_2 a3_3 ltA B3 b3_0 b3_1 b3_2 b3_3 ltB C3 c3_0 c3_1 c3_2 c3_3 ltC L03 l03_0 l03_1 l03_2 l03_3 ltL0
  obtain ⟨a4_0, a4_1, a4_2, a4_3⟩ := rowc A4
  have ltA := A4.lt
  obtain ⟨b4_0, b4_1, b4_2, b4_3⟩ := rowc B4
  have ltB := B4.lt
  obtain ⟨c4_0, c4_1, c4_2, c4_3⟩ := rowc C4
  have ltC := C4.lt
  obtain ⟨l04_0, l04_1, l04_2, l04_3⟩ := rowc L04
  have ltL0 := L04.lt
  go_wp2_with fail
  refine (div_as (c := divM c b) (n := true) _ HC.out HB.out rfl Y0.out).mono ?_
  rintro e w5 ⟨rfl, hb5⟩
  have A5 := rowBelow (A4.alloc (.cells (arr4 (divM c a)) 24)) hb5 (by first | (simp; done) | (simp; omega) | exact A4.lt)
  have B5 := rowBelow (B4.alloc (.cells (arr4 (divM c a)) 24)) hb5 (by first | (simp; done) | (simp; omega) | exact B4.lt)
  have C5 := rowBelow (C4.alloc (.cells (arr4 (divM c a)) 24)) hb5 (by first | (simp; done) | (simp; omega) | exact C4.lt)
  have L05 := rowBelow (L04.alloc (.cells (arr4 (divM c a)) 24)) hb5 (by first | (simp; done) | (simp; omega) | exact L04.lt)
  have L5 := Lib.hid ((L4.out.alloc (by have := L4.out.size; omega) _).trans (hb5.mono (by have := L4.out.size; simp; omega)) : Below w.heap.size w w5)
  clear hb5 L4 A4 a4_0 a4_1 a4_2 a4_3 ltA B4 b4_0 b4_1 b4_2 b4_3 ltB C4 c4_0 c4_1 c4_2 c4_3 ltC L04 l04_0 l04_1 l04_2 l04_3 ltL0
  obtain ⟨a5_0, a5_1, a5_2, a5_3⟩ := rowc A5
  have ltA := A5.lt
  obtain ⟨b5_0, b5_1, b5_2, b5_3⟩ := rowc B5
  have ltB := B5.lt
  obtain ⟨c5_0, c5_1, c5_2, c5_3⟩ := rowc C5
  have ltC := C5.lt
  obtain ⟨l05_0, l05_1, l05_2, l05_3⟩ := rowc L05
  have ltL0 := L05.lt
  go_wp2_with fail
  refine (div_as (c := divM c (lcmM a b)) (n := false) _ HC.out HL.out rfl E7.out).mono ?_
  rintro e w6 ⟨rfl, hb6⟩
  have A6 := rowBelow (A5.alloc (.cells (arr4 (divM c b)) 24)) hb6 (by first | (simp; done) | (simp; omega) | exact A5.lt)
  have B6 := rowBelow (B5.alloc (.cells (arr4 (divM c b)) 24)) hb6 (by first | (simp; done) | (simp; omega) | exact B5.lt)
  have C6 := rowBelow (C5.alloc (.cells (arr4 (divM c b)) 24)) hb6 (by first | (simp; done) | (simp; omega) | exact C5.lt)
  have L06 := rowBelow (L05.alloc (.cells (arr4 (divM c b)) 24)) hb6 (by first | (simp; done) | (simp; omega) | exact L05.lt)
  have L6 := Lib.hid ((L5.out.alloc (by have := L5.out.size; omega) _).trans (hb6.mono (by have := L5.out.size; simp; omega)) : Below w.heap.size w w6)
  clear hb6 L5 A5 a5_0 a5_1 a5_2 a5_3 ltA B5 b5_0 b5_1 b5_2 b5_3 ltB C5 c5_0 c5_1 c5_2 c5_3 ltC L05 l05_0 l05_1 l05_2 l05_3 ltL0
  obtain ⟨a6_0, a6_1, a6_2, a6_3⟩ := rowc A6
  have ltA := A6.lt
  obtain ⟨b6_0, b6_1, b6_2, b6_3⟩ := rowc B6
  have ltB := B6.lt
  obtain ⟨c6_0, c6_1, c6_2, c6_3⟩ := rowc C6
  have ltC := C6.lt
  obtain ⟨l06_0, l06_1, l06_2, l06_3⟩ := rowc L06
  have ltL0 := L06.lt
  go_wp2_with fail
  refine wp_region_quiet_below (by kernel_rfl) (by kernel_rfl) ?_
  obtain ⟨ar_0, ar_1, ar_2, ar_3⟩ := rows4 (A6.alloc (.cells (arr4 (divM c (lcmM a b))) 24))
  obtain ⟨br_0, br_1, br_2, br_3⟩ := rows4 (B6.alloc (.cells (arr4 (divM c (lcmM a b))) 24))
  obtain ⟨cr_0, cr_1, cr_2, cr_3⟩ := rows4 (C6.alloc (.cells (arr4 (divM c (lcmM a b))) 24))
  obtain ⟨l0r_0, l0r_1, l0r_2, l0r_3⟩ := rows4 (L06.alloc (.cells (arr4 (divM c (lcmM a b))) 24))
  repeat (go_big_quiet_step (first
    | (go_at_call 21; exact Calls.regrown_of (alive_any _))
    | (go_at_call 15; first | (with_reducible exact Calls.regrown_of (lcm_at (a := b) (b := a) (c := lcmM a b) _ HB.out HA.out E4.out)) | (with_reducible exact Calls.regrown_of (lcm_at (a := a) (b := a) (c := a) _ HA.out HA.out E5.out)) | (with_reducible exact Calls.regrown_of (lcm_at (a := lcmM a b) (b := a) (c := lcmM a b) _ HL.out HA.out E6.out)))))
  refine wpQuiet_nil ?_
  intro w7 hw7
  obtain ⟨q, hq⟩ := hw7
  have hb7 : Below (w6.alloc (.cells (arr4 (divM c (lcmM a b))) 24)).heap.size (w6.alloc (.cells (arr4 (divM c (lcmM a b))) 24)) w7 := by
    have h := below_regrown (w6.alloc (.cells (arr4 (divM c (lcmM a b))) 24)) q.d q.os
    have e : w7 = grow (redrawn (w6.alloc (.cells (arr4 (divM c (lcmM a b))) 24)) q.d) q.os := hq
    rw [e]; exact h
  clear hq ar_0 ar_1 ar_2 ar_3 br_0 br_1 br_2 br_3 cr_0 cr_1 cr_2 cr_3 l0r_0 l0r_1 l0r_2 l0r_3
  have A7 := rowBelow (A6.alloc (.cells (arr4 (divM c (lcmM a b))) 24)) hb7 (by first | (simp; done) | (simp; omega) | exact A6.lt)
  have B7 := rowBelow (B6.alloc (.cells (arr4 (divM c (lcmM a b))) 24)) hb7 (by first | (simp; done) | (simp; omega) | exact B6.lt)
  have C7 := rowBelow (C6.alloc (.cells (arr4 (divM c (lcmM a b))) 24)) hb7 (by first | (simp; done) | (simp; omega) | exact C6.lt)
  have L07 := rowBelow (L06.alloc (.cells (arr4 (divM c (lcmM a b))) 24)) hb7 (by first | (simp; done) | (simp; omega) | exact L06.lt)
  have L7 := Lib.hid ((L6.out.alloc (by have := L6.out.size; omega) _).trans (hb7.mono (by have := L6.out.size; simp; omega)) : Below w.heap.size w w7)
  clear hb7 L6 A6 a6_0 a6_1 a6_2 a6_3 ltA B6 b6_0 b6_1 b6_2 b6_3 ltB C6 c6_0 c6_1 c6_2 c6_3 ltC L06 l06_0 l06_1 l06_2 l06_3 ltL0
  obtain ⟨a7_0, a7_1, a7_2, a7_3⟩ := rowc A7
  have ltA := A7.lt
  obtain ⟨b7_0, b7_1, b7_2, b7_3⟩ := rowc B7
  have ltB := B7.lt
  obtain ⟨c7_0, c7_1, c7_2, c7_3⟩ := rowc C7
  have ltC := C7.lt
  obtain ⟨l07_0, l07_1, l07_2, l07_3⟩ := rowc L07
  have ltL0 := L07.lt
  go_wp2
  go_ret
  exact ⟨rfl, L7.out⟩

set_option maxHeartbeats 4000000 in
theorem least_00 (a b c : Nat → Int) (w : World) (ha : Small a) (hb : Small b) (hc : Small c) (hX : divB c a = false) (hY : divB c b = false) :
    Calls Try.prog 6 #[mvf a, mvf b, mvf c] w fun e w' => e = .returned (.bool true) ∧ Below w.heap.size w w' := by
  have HA := Lib.hid ha
  have HB := Lib.hid hb
  have HC := Lib.hid hc
  have HX := Lib.hid (boxes3 w 24 a b c)
  have HL := Lib.hid (lcm_small ha hb)
  have E1 := Lib.hid (lcm_divA a b)
  have E2 := Lib.hid (lcm_divB a b)
  have E3 := Lib.hid (lcm_all a b c)
  have E4 := Lib.hid (lcm_comm a b)
  have E5 := Lib.hid (lcm_self a)
  have E6 := Lib.hid (lcm_again a b)
  have X0 := Lib.hid hX
  have Y0 := Lib.hid hY
  have E7 := Lib.hid (show divB c (lcmM a b) = false by rw [lcm_all a b c, hX, hY]; rfl)
  clear ha hb hc hX hY
  go_enter Try.func6, Try.ntmps6
  go_wp2_with fail
  refine (lcm_any a b _ HA.out HB.out).mono ?_
  rintro e w1 ⟨rfl, hb1⟩
  have A1 := rowBelow HX.out.1 hb1 (by first | (simp; done) | (simp; omega) | exact A0.lt)
  have B1 := rowBelow HX.out.2.1 hb1 (by first | (simp; done) | (simp; omega) | exact B0.lt)
  have C1 := rowBelow HX.out.2.2 hb1 (by first | (simp; done) | (simp; omega) | exact C0.lt)
  have L1 := Lib.hid (((((Below.refl _ _).alloc (by go_size) _).alloc (by go_size) _).alloc (by go_size) _).trans (hb1.mono (by go_size)) : Below w.heap.size w w1)
  clear hb1
  obtain ⟨a1_0, a1_1, a1_2, a1_3⟩ := rowc A1
  have ltA := A1.lt
  obtain ⟨b1_0, b1_1, b1_2, b1_3⟩ := rowc B1
  have ltB := B1.lt
  obtain ⟨c1_0, c1_1, c1_2, c1_3⟩ := rowc C1
  have ltC := C1.lt
  go_wp2_with fail
  refine (div_as (c := divM (lcmM a b) a) (n := true) _ HL.out HA.out rfl E1.out).mono ?_
  rintro e w2 ⟨rfl, hb2⟩
  have A2 := rowBelow (A1.alloc (.cells (arr4 (lcmM a b)) 24)) hb2 (by first | (simp; done) | (simp; omega) | exact A1.lt)
  have B2 := rowBelow (B1.alloc (.cells (arr4 (lcmM a b)) 24)) hb2 (by first | (simp; done) | (simp; omega) | exact B1.lt)
  have C2 := rowBelow (C1.alloc (.cells (arr4 (lcmM a b)) 24)) hb2 (by first | (simp; done) | (simp; omega) | exact C1.lt)
  have L02 := rowBelow (rowNew w1 24 (lcmM a b)) hb2 (by simp)
  have L2 := Lib.hid ((L1.out.alloc (by have := L1.out.size; omega) _).trans (hb2.mono (by have := L1.out.size; simp; omega)) : Below w.heap.size w w2)
  clear hb2 L1 A1 a1_0 a1_1 a1_2 a1_3 ltA B1 b1_0 b1_1 b1_2 b1_3 ltB C1 c1_0 c1_1 c1_2 c1_3 ltC
  obtain ⟨a2_0, a2_1, a2_2, a2_3⟩ := rowc A2
  have ltA := A2.lt
  obtain ⟨b2_0, b2_1, b2_2, b2_3⟩ := rowc B2
  have ltB := B2.lt
  obtain ⟨c2_0, c2_1, c2_2, c2_3⟩ := rowc C2
  have ltC := C2.lt
  obtain ⟨l02_0, l02_1, l02_2, l02_3⟩ := rowc L02
  have ltL0 := L02.lt
  go_wp2_with fail
  refine (div_as (c := divM (lcmM a b) b) (n := true) _ HL.out HB.out rfl E2.out).mono ?_
  rintro e w3 ⟨rfl, hb3⟩
  have A3 := rowBelow (A2.alloc (.cells (arr4 (divM (lcmM a b) a)) 24)) hb3 (by first | (simp; done) | (simp; omega) | exact A2.lt)
  have B3 := rowBelow (B2.alloc (.cells (arr4 (divM (lcmM a b) a)) 24)) hb3 (by first | (simp; done) | (simp; omega) | exact B2.lt)
  have C3 := rowBelow (C2.alloc (.cells (arr4 (divM (lcmM a b) a)) 24)) hb3 (by first | (simp; done) | (simp; omega) | exact C2.lt)
  have L03 := rowBelow (L02.alloc (.cells (arr4 (divM (lcmM a b) a)) 24)) hb3 (by first | (simp; done) | (simp; omega) | exact L02.lt)
  have L3 := Lib.hid ((L2.out.alloc (by have := L2.out.size; omega) _).trans (hb3.mono (by have := L2.out.size; simp; omega)) : Below w.heap.size w w3)
  clear hb3 L2 A2 a2_0 a2_1 a2_2 a2_3 ltA B2 b2_0 b2_1 b2_2 b2_3 ltB C2 c2_0 c2_1 c2_2 c2_3 ltC L02 l02_0 l02_1 l02_2 l02_3 ltL0
  obtain ⟨a3_0, a3_1, a3_2, a3_3⟩ := rowc A3
  have ltA := A3.lt
  obtain ⟨b3_0, b3_1, b3_2, b3_3⟩ := rowc B3
  have ltB := B3.lt
  obtain ⟨c3_0, c3_1, c3_2, c3_3⟩ := rowc C3
  have ltC := C3.lt
  obtain ⟨l03_0, l03_1, l03_2, l03_3⟩ := rowc L03
  have ltL0 := L03.lt
  go_wp2_with fail
  refine (div_as (c := divM c a) (n := false) _ HC.out HA.out rfl X0.out).mono ?_
  rintro e w4 ⟨rfl, hb4⟩
  have A4 := rowBelow (A3.alloc (.cells (arr4 (divM (lcmM a b) b)) 24)) hb4 (by first | (simp; done) | (simp; omega) | exact A3.lt)
  have B4 := rowBelow (B3.alloc (.cells (arr4 (divM (lcmM a b) b)) 24)) hb4 (by first | (simp; done) | (simp; omega) | exact B3.lt)
  have C4 := rowBelow (C3.alloc (.cells (arr4 (divM (lcmM a b) b)) 24)) hb4 (by first | (simp; done) | (simp; omega) | exact C3.lt)
  have L04 := rowBelow (L03.alloc (.cells (arr4 (divM (lcmM a b) b)) 24)) hb4 (by first | (simp; done) | (simp; omega) | exact L03.lt)
  have L4 := Lib.hid ((L3.out.alloc (by have := L3.out.size; omega) _).trans (hb4.mono (by have := L3.out.size; simp; omega)) : Below w.heap.size w w4)
  clear hb4 L3 A3 a3_0 a3_1 a3_2 a3_3 ltA B3 b3_0 b3_1 b3_2 b3_3 ltB C3 c3_0 c3_1 c3_2 c3_3 ltC L03 l03_0 l03_1 l03_2 l03_3 ltL0
  obtain ⟨a4_0, a4_1, a4_2, a4_3⟩ := rowc A4
  have ltA := A4.lt
  obtain ⟨b4_0, b4_1, b4_2, b4_3⟩ := rowc B4
  have ltB := B4.lt
  obtain ⟨c4_0, c4_1, c4_2, c4_3⟩ := rowc C4
  have ltC := C4.lt
  obtain ⟨l04_0, l04_1, l04_2, l04_3⟩ := rowc L04
  have ltL0 := L04.lt
  go_wp2_with fail
  refine (div_as (c := divM c b) (n := false) _ HC.out HB.out rfl Y0.out).mono ?_
  rintro e w5 ⟨rfl, hb5⟩
  have A5 := rowBelow (A4.alloc (.cells (arr4 (divM c a)) 24)) hb5 (by first | (simp; done) | (simp; omega) | exact A4.lt)
  have B5 := rowBelow (B4.alloc (.cells (arr4 (divM c a)) 24)) hb5 (by first | (simp; done) | (simp; omega) | exact B4.lt)
  have C5 := rowBelow (C4.alloc (.cells (arr4 (divM c a)) 24)) hb5 (by first | (simp; done) | (simp; omega) | exact C4.lt)
  have L05 := rowBelow (L04.alloc (.cells (arr4 (divM c a)) 24)) hb5 (by first | (simp; done) | (simp; omega) | exact L04.lt)
  have L5 := Lib.hid ((L4.out.alloc (by have := L4.out.size; omega) _).trans (hb5.mono (by have := L4.out.size; simp; omega)) : Below w.heap.size w w5)
  clear hb5 L4 A4 a4_0 a4_1 a4_2 a4_3 ltA B4 b4_0 b4_1 b4_2 b4_3 ltB C4 c4_0 c4_1 c4_2 c4_3 ltC L04 l04_0 l04_1 l04_2 l04_3 ltL0
  obtain ⟨a5_0, a5_1, a5_2, a5_3⟩ := rowc A5
  have ltA := A5.lt
  obtain ⟨b5_0, b5_1, b5_2, b5_3⟩ := rowc B5
  have ltB := B5.lt
  obtain ⟨c5_0, c5_1, c5_2, c5_3⟩ := rowc C5
  have ltC := C5.lt
  obtain ⟨l05_0, l05_1, l05_2, l05_3⟩ := rowc L05
  have ltL0 := L05.lt
  go_wp2_with fail
  refine (div_as (c := divM c (lcmM a b)) (n := false) _ HC.out HL.out rfl E7.out).mono ?_
  rintro e w6 ⟨rfl, hb6⟩
  have A6 := rowBelow (A5.alloc (.cells (arr4 (divM c b)) 24)) hb6 (by first | (simp; done) | (simp; omega) | exact A5.lt)
  have B6 := rowBelow (B5.alloc (.cells (arr4 (divM c b)) 24)) hb6 (by first | (simp; done) | (simp; omega) | exact B5.lt)
  have C6 := rowBelow (C5.alloc (.cells (arr4 (divM c b)) 24)) hb6 (by first | (simp; done) | (simp; omega) | exact C5.lt)
  have L06 := rowBelow (L05.alloc (.cells (arr4 (divM c b)) 24)) hb6 (by first | (simp; done) | (simp; omega) | exact L05.lt)
  have L6 := Lib.hid ((L5.out.alloc (by have := L5.out.size; omega) _).trans (hb6.mono (by have := L5.out.size; simp; omega)) : Below w.heap.size w w6)
  clear hb6 L5 A5 a5_0 a5_1 a5_2 a5_3 ltA B5 b5_0 b5_1 b5_2 b5_3 ltB C5 c5_0 c5_1 c5_2 c5_3 ltC L05 l05_0 l05_1 l05_2 l05_3 ltL0
  obtain ⟨a6_0, a6_1, a6_2, a6_3⟩ := rowc A6
  have ltA := A6.lt
  obtain ⟨b6_0, b6_1, b6_2, b6_3⟩ := rowc B6
  have ltB := B6.lt
  obtain ⟨c6_0, c6_1, c6_2, c6_3⟩ := rowc C6
  have ltC := C6.lt
  obtain ⟨l06_0, l06_1, l06_2, l06_3⟩ := rowc L06
  have ltL0 := L06.lt
  go_wp2_with fail
  refine wp_region_quiet_below (by kernel_rfl) (by kernel_rfl) ?_
  obtain ⟨ar_0, ar_1, ar_2, ar_3⟩ := rows4 (A6.alloc (.cells (arr4 (divM c (lcmM a b))) 24))
  obtain ⟨br_0, br_1, br_2, br_3⟩ := rows4 (B6.alloc (.cells (arr4 (divM c (lcmM a b))) 24))
  obtain ⟨cr_0, cr_1, cr_2, cr_3⟩ := rows4 (C6.alloc (.cells (arr4 (divM c (lcmM a b))) 24))
  obtain ⟨l0r_0, l0r_1, l0r_2, l0r_3⟩ := rows4 (L06.alloc (.cells (arr4 (divM c (lcmM a b))) 24))
  repeat (go_big_quiet_step (first
    | (go_at_call 21; exact Calls.regrown_of (alive_any _))
    | (go_at_call 15; first | (with_reducible exact Calls.regrown_of (lcm_at (a := b) (b := a) (c := lcmM a b) _ HB.out HA.out E4.out)) | (with_reducible exact Calls.regrown_of (lcm_at (a := a) (b := a) (c := a) _ HA.out HA.out E5.out)) | (with_reducible exact Calls.regrown_of (lcm_at (a := lcmM a b) (b := a) (c := lcmM a b) _ HL.out HA.out E6.out)))))
  refine wpQuiet_nil ?_
  intro w7 hw7
  obtain ⟨q, hq⟩ := hw7
  have hb7 : Below (w6.alloc (.cells (arr4 (divM c (lcmM a b))) 24)).heap.size (w6.alloc (.cells (arr4 (divM c (lcmM a b))) 24)) w7 := by
    have h := below_regrown (w6.alloc (.cells (arr4 (divM c (lcmM a b))) 24)) q.d q.os
    have e : w7 = grow (redrawn (w6.alloc (.cells (arr4 (divM c (lcmM a b))) 24)) q.d) q.os := hq
    rw [e]; exact h
  clear hq ar_0 ar_1 ar_2 ar_3 br_0 br_1 br_2 br_3 cr_0 cr_1 cr_2 cr_3 l0r_0 l0r_1 l0r_2 l0r_3
  have A7 := rowBelow (A6.alloc (.cells (arr4 (divM c (lcmM a b))) 24)) hb7 (by first | (simp; done) | (simp; omega) | exact A6.lt)
  have B7 := rowBelow (B6.alloc (.cells (arr4 (divM c (lcmM a b))) 24)) hb7 (by first | (simp; done) | (simp; omega) | exact B6.lt)
  have C7 := rowBelow (C6.alloc (.cells (arr4 (divM c (lcmM a b))) 24)) hb7 (by first | (simp; done) | (simp; omega) | exact C6.lt)
  have L07 := rowBelow (L06.alloc (.cells (arr4 (divM c (lcmM a b))) 24)) hb7 (by first | (simp; done) | (simp; omega) | exact L06.lt)
  have L7 := Lib.hid ((L6.out.alloc (by have := L6.out.size; omega) _).trans (hb7.mono (by have := L6.out.size; simp; omega)) : Below w.heap.size w w7)
  clear hb7 L6 A6 a6_0 a6_1 a6_2 a6_3 ltA B6 b6_0 b6_1 b6_2 b6_3 ltB C6 c6_0 c6_1 c6_2 c6_3 ltC L06 l06_0 l06_1 l06_2 l06_3 ltL0
  obtain ⟨a7_0, a7_1, a7_2, a7_3⟩ := rowc A7
  have ltA := A7.lt
  obtain ⟨b7_0, b7_1, b7_2, b7_3⟩ := rowc B7
  have ltB := B7.lt
  obtain ⟨c7_0, c7_1, c7_2, c7_3⟩ := rowc C7
  have ltC := C7.lt
  obtain ⟨l07_0, l07_1, l07_2, l07_3⟩ := rowc L07
  have ltL0 := L07.lt
  go_wp2
  go_ret
  exact ⟨rfl, L7.out⟩

theorem least_walk (a b c : Nat → Int) (w : World) (ha : Small a) (hb : Small b) (hc : Small c) :
    Calls Try.prog 6 #[mvf a, mvf b, mvf c] w fun e w' => e = .returned (.bool true) ∧ Below w.heap.size w w' := by
  cases hX : divB c a <;> cases hY : divB c b
  · exact least_00 a b c w ha hb hc hX hY
  · exact least_01 a b c w ha hb hc hX hY
  · exact least_10 a b c w ha hb hc hX hY
  · exact least_11 a b c w ha hb hc hX hY

open Go.ChangeShapes Go.WideShapes Go.ChangeAt
theorem own : ownKnob Try.prog.godebug = none := by kernel_rfl
theorem laidOut : laidOutB Try.prog = true := by kernel_rfl
theorem cellsM : Try.prog.cellsOf 24 = 4 := by kernel_rfl
theorem cellsU : Try.prog.cellsOf 22 = 1 := by kernel_rfl

set_option maxRecDepth 100000 in
theorem least_lifted (os : Os) (started : os.Started) (H : Type) (enc : TypeId × Value → H) :
    ReturnsInHanded {} Try.checked os 6 .any (Rows.monosLeastSpec.pre6 enc Try.prog Try.f6 Rows.monosLeastRow.domain false) (Rows.monosLeastSpec.post enc Try.prog Try.f6 false true false false) := by
  refine returnsInHanded_of_change (C := Try.checked) own started (by kernel_rfl) Try.func6
    (ChangeSpec.witness6 (enc := enc) (C := Try.checked) false ⟨#[], #[mv 0 0 0 0, mv 0 0 0 0, mv 0 0 0 0], []⟩ 8 (by kernel_rfl) (by kernel_rfl) (by kernel_rfl) (by kernel_rfl)) ?_
  intro W base args ds gs before hval0 hW hcnd _
  have hval : ∀ (j : Nat) t v, Try.f6.params[j]? = some t → args[j]? = some v → Value.okWide Try.prog W .any base t v := hval0
  have hW' := hW
  obtain ⟨p, q, hA0, hV, rfl, hfz, hnd⟩ := hW
  have hA : DataW.TrodAll enc Try.prog W 0 (fun _ => true) true Try.f6.params.toList args.toList ds p := hA0
  rw [Try.params6] at hA hval
  obtain ⟨v0, v1, v2, d0, d1, d2, p0, p1, p2, rfl, rfl, rfl, h0, h1, h2⟩ := trodAll_three hA
  obtain ⟨rfl, rfl⟩ := trodVars_none hV
  obtain ⟨a, rfl, ha⟩ := LawPost.open_four Try.underlying24 Try.underlying22 cellsU cellsM (hval 0 24 v0 rfl rfl) h0
  obtain ⟨b, rfl, hb⟩ := LawPost.open_four Try.underlying24 Try.underlying22 cellsU cellsM (hval 1 24 v1 rfl rfl) h1
  obtain ⟨c, rfl, hc⟩ := LawPost.open_four Try.underlying24 Try.underlying22 cellsU cellsM (hval 2 24 v2 rfl rfl) h2
  refine (least_walk a b c W ha hb hc).mono fun e W' ⟨he, hg⟩ => ?_
  subst he
  exact ⟨_, rfl, LawPost.law_post laidOut (by kernel_rfl) (by kernel_rfl) Try.underlying4 hW' rfl rfl hg⟩

theorem least_holds : Rows.MonosLeastSaid :=
  OpenClaim.holds_of_wide 6 Try.f6 rfl rfl rfl rfl rfl rfl rfl ⟨rfl, rfl, rfl, rfl, rfl⟩ rfl rfl rfl rfl rfl (by kernel_rfl) Try.func6 (by kernel_rfl)
    (of_decide_eq_true (by kernel_rfl)) (by unfold Func.isWrapper; first | (rw [if_pos (by decide +kernel)]; kernel_rfl) | (rw [if_neg (by decide +kernel)]; exact ⟨rfl, rfl⟩))
    (fun os started H enc _ => least_lifted os started H enc)
#print axioms least_holds
end Go.Proofs.Ytlhkiodgjcbjbaa.Mono
