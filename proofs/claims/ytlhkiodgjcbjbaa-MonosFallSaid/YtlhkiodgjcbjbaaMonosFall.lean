/-
  MonosFall: whatever order and whatever three products come in, the law returns true.
-/
import Derived.Test.YtlhkiodgjcbjbaaMonoThree
namespace Go.Proofs.Ytlhkiodgjcbjbaa.Mono
open Go.RowKit Go.Sort

set_option maxHeartbeats 4000000 in
theorem fall_pg (o : Int) (a b c : Nat → Int) (w : World) (ha : Small a) (hb : Small b) (hc : Small c) (hn : cmpM o a b = 1) :
    Calls Try.prog 7 #[.int .u8 o, mv12 a b c] w fun e w' => e = .returned (.bool true) ∧ Below w.heap.size w w' := by
  have HA := Lib.hid ha
  have HB := Lib.hid hb
  have HC := Lib.hid hc
  have HX := Lib.hid (boxesF w 38 24 a b c)
  have zz : ∀ i, zeroM i = 0 := fun _ => rfl
  have E1 := Lib.hid hn
  have E2 := Lib.hid (show cmpM o b a = (-1) by rw [cmp_swap ha hb, hn] <;> rfl)
  have E3 := Lib.hid (cmp_same o ha)
  have hl := cmp_least o ha
  have hs : (a 0 == b 0 && (a 1 == b 1 && (a 2 == b 2 && a 3 == b 3))) = false := same4_false (fun h => by have := (cmp_zero (o := o) ha hb).2 h; omega)
  clear ha hb hc hn
  go_enter Try.func7, Try.ntmps7
  go_wp2_with fail
  refine (cmp_as (o := o) (n := 1) _ HA.out HB.out E1.out).mono ?_
  rintro e w1 ⟨rfl, hb1⟩
  have A1 := rowBelow HX.out.1 hb1 (by first | (simp; done) | (simp; omega) | exact A0.lt)
  have B1 := rowBelow HX.out.2.1 hb1 (by first | (simp; done) | (simp; omega) | exact B0.lt)
  have C1 := rowBelow HX.out.2.2 hb1 (by first | (simp; done) | (simp; omega) | exact C0.lt)
  have L1 := Lib.hid ((((((Below.refl _ _).alloc (by go_size) _).alloc (by go_size) _).alloc (by go_size) _).alloc (by go_size) _).trans (hb1.mono (by go_size)) : Below w.heap.size w w1)
  clear hb1
  obtain ⟨a1_0, a1_1, a1_2, a1_3⟩ := rowc A1
  have ltA := A1.lt
  obtain ⟨b1_0, b1_1, b1_2, b1_3⟩ := rowc B1
  have ltB := B1.lt
  obtain ⟨c1_0, c1_1, c1_2, c1_3⟩ := rowc C1
  have ltC := C1.lt
  go_wp2_with fail
  refine (cmp_as (o := o) (n := (-1)) _ HB.out HA.out E2.out).mono ?_
  rintro e w2 ⟨rfl, hb2⟩
  have A2 := rowBelow A1 hb2 (by first | (simp; done) | (simp; omega) | exact A1.lt)
  have B2 := rowBelow B1 hb2 (by first | (simp; done) | (simp; omega) | exact B1.lt)
  have C2 := rowBelow C1 hb2 (by first | (simp; done) | (simp; omega) | exact C1.lt)
  have L2 := Lib.hid (L1.out.trans (hb2.mono L1.out.size) : Below w.heap.size w w2)
  clear hb2 L1 A1 a1_0 a1_1 a1_2 a1_3 ltA B1 b1_0 b1_1 b1_2 b1_3 ltB C1 c1_0 c1_1 c1_2 c1_3 ltC
  obtain ⟨a2_0, a2_1, a2_2, a2_3⟩ := rowc A2
  have ltA := A2.lt
  obtain ⟨b2_0, b2_1, b2_2, b2_3⟩ := rowc B2
  have ltB := B2.lt
  obtain ⟨c2_0, c2_1, c2_2, c2_3⟩ := rowc C2
  have ltC := C2.lt
  go_wp2_with fail
  refine (cmp_any o a zeroM _ HA.out zero_small).mono ?_
  rintro e w3 ⟨rfl, hb3⟩
  have A3 := rowBelow A2 hb3 (by first | (simp; done) | (simp; omega) | exact A2.lt)
  have B3 := rowBelow B2 hb3 (by first | (simp; done) | (simp; omega) | exact B2.lt)
  have C3 := rowBelow C2 hb3 (by first | (simp; done) | (simp; omega) | exact C2.lt)
  have L3 := Lib.hid (L2.out.trans (hb3.mono L2.out.size) : Below w.heap.size w w3)
  clear hb3 L2 A2 a2_0 a2_1 a2_2 a2_3 ltA B2 b2_0 b2_1 b2_2 b2_3 ltB C2 c2_0 c2_1 c2_2 c2_3 ltC
  obtain ⟨a3_0, a3_1, a3_2, a3_3⟩ := rowc A3
  have ltA := A3.lt
  obtain ⟨b3_0, b3_1, b3_2, b3_3⟩ := rowc B3
  have ltB := B3.lt
  obtain ⟨c3_0, c3_1, c3_2, c3_3⟩ := rowc C3
  have ltC := C3.lt
  go_wp2_with fail
  refine (cmp_as (o := o) (a := a) (b := a) (n := 0) _ HA.out HA.out E3.out).mono ?_
  rintro e w4 ⟨rfl, hb4⟩
  have A4 := rowBelow A3 hb4 (by first | (simp; done) | (simp; omega) | exact A3.lt)
  have B4 := rowBelow B3 hb4 (by first | (simp; done) | (simp; omega) | exact B3.lt)
  have C4 := rowBelow C3 hb4 (by first | (simp; done) | (simp; omega) | exact C3.lt)
  have L4 := Lib.hid (L3.out.trans (hb4.mono L3.out.size) : Below w.heap.size w w4)
  clear hb4 L3 A3 a3_0 a3_1 a3_2 a3_3 ltA B3 b3_0 b3_1 b3_2 b3_3 ltB C3 c3_0 c3_1 c3_2 c3_3 ltC
  obtain ⟨a4_0, a4_1, a4_2, a4_3⟩ := rowc A4
  have ltA := A4.lt
  obtain ⟨b4_0, b4_1, b4_2, b4_3⟩ := rowc B4
  have ltB := B4.lt
  obtain ⟨c4_0, c4_1, c4_2, c4_3⟩ := rowc C4
  have ltC := C4.lt
  go_wp2_with fail
  refine (alive_any _).mono ?_
  rintro e w5 ⟨rfl, hb5⟩
  have A5 := rowBelow A4 hb5 (by first | (simp; done) | (simp; omega) | exact A4.lt)
  have B5 := rowBelow B4 hb5 (by first | (simp; done) | (simp; omega) | exact B4.lt)
  have C5 := rowBelow C4 hb5 (by first | (simp; done) | (simp; omega) | exact C4.lt)
  have L5 := Lib.hid (L4.out.trans (hb5.mono L4.out.size) : Below w.heap.size w w5)
  clear hb5 L4 A4 a4_0 a4_1 a4_2 a4_3 ltA B4 b4_0 b4_1 b4_2 b4_3 ltB C4 c4_0 c4_1 c4_2 c4_3 ltC
  obtain ⟨a5_0, a5_1, a5_2, a5_3⟩ := rowc A5
  have ltA := A5.lt
  obtain ⟨b5_0, b5_1, b5_2, b5_3⟩ := rowc B5
  have ltB := B5.lt
  obtain ⟨c5_0, c5_1, c5_2, c5_3⟩ := rowc C5
  have ltC := C5.lt
  go_wp2
  go_ret
  exact ⟨rfl, L5.out⟩

set_option maxHeartbeats 4000000 in
theorem fall_zx (o : Int) (a b c : Nat → Int) (w : World) (ha : Small a) (hb : Small b) (hc : Small c) (hn : cmpM o a b = 0) (hx : 0 < cmpM o b c) :
    Calls Try.prog 7 #[.int .u8 o, mv12 a b c] w fun e w' => e = .returned (.bool true) ∧ Below w.heap.size w w' := by
  have HA := Lib.hid ha
  have HB := Lib.hid hb
  have HC := Lib.hid hc
  have HX := Lib.hid (boxesF w 38 24 a b c)
  have zz : ∀ i, zeroM i = 0 := fun _ => rfl
  have E1 := Lib.hid hn
  have E2 := Lib.hid (show cmpM o b a = 0 by rw [cmp_swap ha hb, hn] <;> rfl)
  have E3 := Lib.hid (cmp_same o ha)
  have hl := cmp_least o ha
  have hs : (a 0 == b 0 && (a 1 == b 1 && (a 2 == b 2 && a 3 == b 3))) = true := (same4_iff a b).2 ((cmp_zero ha hb).1 hn)
  clear ha hb hc hn
  go_enter Try.func7, Try.ntmps7
  go_wp2_with fail
  refine (cmp_as (o := o) (n := 0) _ HA.out HB.out E1.out).mono ?_
  rintro e w1 ⟨rfl, hb1⟩
  have A1 := rowBelow HX.out.1 hb1 (by first | (simp; done) | (simp; omega) | exact A0.lt)
  have B1 := rowBelow HX.out.2.1 hb1 (by first | (simp; done) | (simp; omega) | exact B0.lt)
  have C1 := rowBelow HX.out.2.2 hb1 (by first | (simp; done) | (simp; omega) | exact C0.lt)
  have L1 := Lib.hid ((((((Below.refl _ _).alloc (by go_size) _).alloc (by go_size) _).alloc (by go_size) _).alloc (by go_size) _).trans (hb1.mono (by go_size)) : Below w.heap.size w w1)
  clear hb1
  obtain ⟨a1_0, a1_1, a1_2, a1_3⟩ := rowc A1
  have ltA := A1.lt
  obtain ⟨b1_0, b1_1, b1_2, b1_3⟩ := rowc B1
  have ltB := B1.lt
  obtain ⟨c1_0, c1_1, c1_2, c1_3⟩ := rowc C1
  have ltC := C1.lt
  go_wp2_with fail
  refine (cmp_as (o := o) (n := 0) _ HB.out HA.out E2.out).mono ?_
  rintro e w2 ⟨rfl, hb2⟩
  have A2 := rowBelow A1 hb2 (by first | (simp; done) | (simp; omega) | exact A1.lt)
  have B2 := rowBelow B1 hb2 (by first | (simp; done) | (simp; omega) | exact B1.lt)
  have C2 := rowBelow C1 hb2 (by first | (simp; done) | (simp; omega) | exact C1.lt)
  have L2 := Lib.hid (L1.out.trans (hb2.mono L1.out.size) : Below w.heap.size w w2)
  clear hb2 L1 A1 a1_0 a1_1 a1_2 a1_3 ltA B1 b1_0 b1_1 b1_2 b1_3 ltB C1 c1_0 c1_1 c1_2 c1_3 ltC
  obtain ⟨a2_0, a2_1, a2_2, a2_3⟩ := rowc A2
  have ltA := A2.lt
  obtain ⟨b2_0, b2_1, b2_2, b2_3⟩ := rowc B2
  have ltB := B2.lt
  obtain ⟨c2_0, c2_1, c2_2, c2_3⟩ := rowc C2
  have ltC := C2.lt
  go_wp2_with fail
  refine (cmp_any o a zeroM _ HA.out zero_small).mono ?_
  rintro e w3 ⟨rfl, hb3⟩
  have A3 := rowBelow A2 hb3 (by first | (simp; done) | (simp; omega) | exact A2.lt)
  have B3 := rowBelow B2 hb3 (by first | (simp; done) | (simp; omega) | exact B2.lt)
  have C3 := rowBelow C2 hb3 (by first | (simp; done) | (simp; omega) | exact C2.lt)
  have L3 := Lib.hid (L2.out.trans (hb3.mono L2.out.size) : Below w.heap.size w w3)
  clear hb3 L2 A2 a2_0 a2_1 a2_2 a2_3 ltA B2 b2_0 b2_1 b2_2 b2_3 ltB C2 c2_0 c2_1 c2_2 c2_3 ltC
  obtain ⟨a3_0, a3_1, a3_2, a3_3⟩ := rowc A3
  have ltA := A3.lt
  obtain ⟨b3_0, b3_1, b3_2, b3_3⟩ := rowc B3
  have ltB := B3.lt
  obtain ⟨c3_0, c3_1, c3_2, c3_3⟩ := rowc C3
  have ltC := C3.lt
  go_wp2_with fail
  refine (cmp_as (o := o) (a := a) (b := a) (n := 0) _ HA.out HA.out E3.out).mono ?_
  rintro e w4 ⟨rfl, hb4⟩
  have A4 := rowBelow A3 hb4 (by first | (simp; done) | (simp; omega) | exact A3.lt)
  have B4 := rowBelow B3 hb4 (by first | (simp; done) | (simp; omega) | exact B3.lt)
  have C4 := rowBelow C3 hb4 (by first | (simp; done) | (simp; omega) | exact C3.lt)
  have L4 := Lib.hid (L3.out.trans (hb4.mono L3.out.size) : Below w.heap.size w w4)
  clear hb4 L3 A3 a3_0 a3_1 a3_2 a3_3 ltA B3 b3_0 b3_1 b3_2 b3_3 ltB C3 c3_0 c3_1 c3_2 c3_3 ltC
  obtain ⟨a4_0, a4_1, a4_2, a4_3⟩ := rowc A4
  have ltA := A4.lt
  obtain ⟨b4_0, b4_1, b4_2, b4_3⟩ := rowc B4
  have ltB := B4.lt
  obtain ⟨c4_0, c4_1, c4_2, c4_3⟩ := rowc C4
  have ltC := C4.lt
  go_wp2_with fail
  refine (alive_any _).mono ?_
  rintro e w5 ⟨rfl, hb5⟩
  have A5 := rowBelow A4 hb5 (by first | (simp; done) | (simp; omega) | exact A4.lt)
  have B5 := rowBelow B4 hb5 (by first | (simp; done) | (simp; omega) | exact B4.lt)
  have C5 := rowBelow C4 hb5 (by first | (simp; done) | (simp; omega) | exact C4.lt)
  have L5 := Lib.hid (L4.out.trans (hb5.mono L4.out.size) : Below w.heap.size w w5)
  clear hb5 L4 A4 a4_0 a4_1 a4_2 a4_3 ltA B4 b4_0 b4_1 b4_2 b4_3 ltB C4 c4_0 c4_1 c4_2 c4_3 ltC
  obtain ⟨a5_0, a5_1, a5_2, a5_3⟩ := rowc A5
  have ltA := A5.lt
  obtain ⟨b5_0, b5_1, b5_2, b5_3⟩ := rowc B5
  have ltB := B5.lt
  obtain ⟨c5_0, c5_1, c5_2, c5_3⟩ := rowc C5
  have ltC := C5.lt
  go_wp2_with fail
  refine (cmp_any o b c _ HB.out HC.out).mono ?_
  rintro e w6 ⟨rfl, hb6⟩
  have A6 := rowBelow A5 hb6 (by first | (simp; done) | (simp; omega) | exact A5.lt)
  have B6 := rowBelow B5 hb6 (by first | (simp; done) | (simp; omega) | exact B5.lt)
  have C6 := rowBelow C5 hb6 (by first | (simp; done) | (simp; omega) | exact C5.lt)
  have L6 := Lib.hid (L5.out.trans (hb6.mono L5.out.size) : Below w.heap.size w w6)
  clear hb6 L5 A5 a5_0 a5_1 a5_2 a5_3 ltA B5 b5_0 b5_1 b5_2 b5_3 ltB C5 c5_0 c5_1 c5_2 c5_3 ltC
  obtain ⟨a6_0, a6_1, a6_2, a6_3⟩ := rowc A6
  have ltA := A6.lt
  obtain ⟨b6_0, b6_1, b6_2, b6_3⟩ := rowc B6
  have ltB := B6.lt
  obtain ⟨c6_0, c6_1, c6_2, c6_3⟩ := rowc C6
  have ltC := C6.lt
  go_wp2
  go_ret
  exact ⟨rfl, L6.out⟩

set_option maxHeartbeats 4000000 in
theorem fall_zy (o : Int) (a b c : Nat → Int) (w : World) (ha : Small a) (hb : Small b) (hc : Small c) (hn : cmpM o a b = 0) (hx : cmpM o b c ≤ 0) :
    Calls Try.prog 7 #[.int .u8 o, mv12 a b c] w fun e w' => e = .returned (.bool true) ∧ Below w.heap.size w w' := by
  have HA := Lib.hid ha
  have HB := Lib.hid hb
  have HC := Lib.hid hc
  have HX := Lib.hid (boxesF w 38 24 a b c)
  have zz : ∀ i, zeroM i = 0 := fun _ => rfl
  have E1 := Lib.hid hn
  have E2 := Lib.hid (show cmpM o b a = 0 by rw [cmp_swap ha hb, hn] <;> rfl)
  have E3 := Lib.hid (cmp_same o ha)
  have hl := cmp_least o ha
  have hs : (a 0 == b 0 && (a 1 == b 1 && (a 2 == b 2 && a 3 == b 3))) = true := (same4_iff a b).2 ((cmp_zero ha hb).1 hn)
  have hy := cmp_trans ha hb hc (show cmpM o a b ≤ 0 by omega) hx
  clear ha hb hc hn
  go_enter Try.func7, Try.ntmps7
  go_wp2_with fail
  refine (cmp_as (o := o) (n := 0) _ HA.out HB.out E1.out).mono ?_
  rintro e w1 ⟨rfl, hb1⟩
  have A1 := rowBelow HX.out.1 hb1 (by first | (simp; done) | (simp; omega) | exact A0.lt)
  have B1 := rowBelow HX.out.2.1 hb1 (by first | (simp; done) | (simp; omega) | exact B0.lt)
  have C1 := rowBelow HX.out.2.2 hb1 (by first | (simp; done) | (simp; omega) | exact C0.lt)
  have L1 := Lib.hid ((((((Below.refl _ _).alloc (by go_size) _).alloc (by go_size) _).alloc (by go_size) _).alloc (by go_size) _).trans (hb1.mono (by go_size)) : Below w.heap.size w w1)
  clear hb1
  obtain ⟨a1_0, a1_1, a1_2, a1_3⟩ := rowc A1
  have ltA := A1.lt
  obtain ⟨b1_0, b1_1, b1_2, b1_3⟩ := rowc B1
  have ltB := B1.lt
  obtain ⟨c1_0, c1_1, c1_2, c1_3⟩ := rowc C1
  have ltC := C1.lt
  go_wp2_with fail
  refine (cmp_as (o := o) (n := 0) _ HB.out HA.out E2.out).mono ?_
  rintro e w2 ⟨rfl, hb2⟩
  have A2 := rowBelow A1 hb2 (by first | (simp; done) | (simp; omega) | exact A1.lt)
  have B2 := rowBelow B1 hb2 (by first | (simp; done) | (simp; omega) | exact B1.lt)
  have C2 := rowBelow C1 hb2 (by first | (simp; done) | (simp; omega) | exact C1.lt)
  have L2 := Lib.hid (L1.out.trans (hb2.mono L1.out.size) : Below w.heap.size w w2)
  clear hb2 L1 A1 a1_0 a1_1 a1_2 a1_3 ltA B1 b1_0 b1_1 b1_2 b1_3 ltB C1 c1_0 c1_1 c1_2 c1_3 ltC
  obtain ⟨a2_0, a2_1, a2_2, a2_3⟩ := rowc A2
  have ltA := A2.lt
  obtain ⟨b2_0, b2_1, b2_2, b2_3⟩ := rowc B2
  have ltB := B2.lt
  obtain ⟨c2_0, c2_1, c2_2, c2_3⟩ := rowc C2
  have ltC := C2.lt
  go_wp2_with fail
  refine (cmp_any o a zeroM _ HA.out zero_small).mono ?_
  rintro e w3 ⟨rfl, hb3⟩
  have A3 := rowBelow A2 hb3 (by first | (simp; done) | (simp; omega) | exact A2.lt)
  have B3 := rowBelow B2 hb3 (by first | (simp; done) | (simp; omega) | exact B2.lt)
  have C3 := rowBelow C2 hb3 (by first | (simp; done) | (simp; omega) | exact C2.lt)
  have L3 := Lib.hid (L2.out.trans (hb3.mono L2.out.size) : Below w.heap.size w w3)
  clear hb3 L2 A2 a2_0 a2_1 a2_2 a2_3 ltA B2 b2_0 b2_1 b2_2 b2_3 ltB C2 c2_0 c2_1 c2_2 c2_3 ltC
  obtain ⟨a3_0, a3_1, a3_2, a3_3⟩ := rowc A3
  have ltA := A3.lt
  obtain ⟨b3_0, b3_1, b3_2, b3_3⟩ := rowc B3
  have ltB := B3.lt
  obtain ⟨c3_0, c3_1, c3_2, c3_3⟩ := rowc C3
  have ltC := C3.lt
  go_wp2_with fail
  refine (cmp_as (o := o) (a := a) (b := a) (n := 0) _ HA.out HA.out E3.out).mono ?_
  rintro e w4 ⟨rfl, hb4⟩
  have A4 := rowBelow A3 hb4 (by first | (simp; done) | (simp; omega) | exact A3.lt)
  have B4 := rowBelow B3 hb4 (by first | (simp; done) | (simp; omega) | exact B3.lt)
  have C4 := rowBelow C3 hb4 (by first | (simp; done) | (simp; omega) | exact C3.lt)
  have L4 := Lib.hid (L3.out.trans (hb4.mono L3.out.size) : Below w.heap.size w w4)
  clear hb4 L3 A3 a3_0 a3_1 a3_2 a3_3 ltA B3 b3_0 b3_1 b3_2 b3_3 ltB C3 c3_0 c3_1 c3_2 c3_3 ltC
  obtain ⟨a4_0, a4_1, a4_2, a4_3⟩ := rowc A4
  have ltA := A4.lt
  obtain ⟨b4_0, b4_1, b4_2, b4_3⟩ := rowc B4
  have ltB := B4.lt
  obtain ⟨c4_0, c4_1, c4_2, c4_3⟩ := rowc C4
  have ltC := C4.lt
  go_wp2_with fail
  refine (alive_any _).mono ?_
  rintro e w5 ⟨rfl, hb5⟩
  have A5 := rowBelow A4 hb5 (by first | (simp; done) | (simp; omega) | exact A4.lt)
  have B5 := rowBelow B4 hb5 (by first | (simp; done) | (simp; omega) | exact B4.lt)
  have C5 := rowBelow C4 hb5 (by first | (simp; done) | (simp; omega) | exact C4.lt)
  have L5 := Lib.hid (L4.out.trans (hb5.mono L4.out.size) : Below w.heap.size w w5)
  clear hb5 L4 A4 a4_0 a4_1 a4_2 a4_3 ltA B4 b4_0 b4_1 b4_2 b4_3 ltB C4 c4_0 c4_1 c4_2 c4_3 ltC
  obtain ⟨a5_0, a5_1, a5_2, a5_3⟩ := rowc A5
  have ltA := A5.lt
  obtain ⟨b5_0, b5_1, b5_2, b5_3⟩ := rowc B5
  have ltB := B5.lt
  obtain ⟨c5_0, c5_1, c5_2, c5_3⟩ := rowc C5
  have ltC := C5.lt
  go_wp2_with fail
  refine (cmp_any o b c _ HB.out HC.out).mono ?_
  rintro e w6 ⟨rfl, hb6⟩
  have A6 := rowBelow A5 hb6 (by first | (simp; done) | (simp; omega) | exact A5.lt)
  have B6 := rowBelow B5 hb6 (by first | (simp; done) | (simp; omega) | exact B5.lt)
  have C6 := rowBelow C5 hb6 (by first | (simp; done) | (simp; omega) | exact C5.lt)
  have L6 := Lib.hid (L5.out.trans (hb6.mono L5.out.size) : Below w.heap.size w w6)
  clear hb6 L5 A5 a5_0 a5_1 a5_2 a5_3 ltA B5 b5_0 b5_1 b5_2 b5_3 ltB C5 c5_0 c5_1 c5_2 c5_3 ltC
  obtain ⟨a6_0, a6_1, a6_2, a6_3⟩ := rowc A6
  have ltA := A6.lt
  obtain ⟨b6_0, b6_1, b6_2, b6_3⟩ := rowc B6
  have ltB := B6.lt
  obtain ⟨c6_0, c6_1, c6_2, c6_3⟩ := rowc C6
  have ltC := C6.lt
  go_wp2_with fail
  refine (cmp_any o a c _ HA.out HC.out).mono ?_
  rintro e w7 ⟨rfl, hb7⟩
  have A7 := rowBelow A6 hb7 (by first | (simp; done) | (simp; omega) | exact A6.lt)
  have B7 := rowBelow B6 hb7 (by first | (simp; done) | (simp; omega) | exact B6.lt)
  have C7 := rowBelow C6 hb7 (by first | (simp; done) | (simp; omega) | exact C6.lt)
  have L7 := Lib.hid (L6.out.trans (hb7.mono L6.out.size) : Below w.heap.size w w7)
  clear hb7 L6 A6 a6_0 a6_1 a6_2 a6_3 ltA B6 b6_0 b6_1 b6_2 b6_3 ltB C6 c6_0 c6_1 c6_2 c6_3 ltC
  obtain ⟨a7_0, a7_1, a7_2, a7_3⟩ := rowc A7
  have ltA := A7.lt
  obtain ⟨b7_0, b7_1, b7_2, b7_3⟩ := rowc B7
  have ltB := B7.lt
  obtain ⟨c7_0, c7_1, c7_2, c7_3⟩ := rowc C7
  have ltC := C7.lt
  go_wp2
  go_ret
  exact ⟨rfl, L7.out⟩

set_option maxHeartbeats 4000000 in
theorem fall_mx (o : Int) (a b c : Nat → Int) (w : World) (ha : Small a) (hb : Small b) (hc : Small c) (hn : cmpM o a b = (-1)) (hx : 0 < cmpM o b c) :
    Calls Try.prog 7 #[.int .u8 o, mv12 a b c] w fun e w' => e = .returned (.bool true) ∧ Below w.heap.size w w' := by
  have HA := Lib.hid ha
  have HB := Lib.hid hb
  have HC := Lib.hid hc
  have HX := Lib.hid (boxesF w 38 24 a b c)
  have zz : ∀ i, zeroM i = 0 := fun _ => rfl
  have E1 := Lib.hid hn
  have E2 := Lib.hid (show cmpM o b a = 1 by rw [cmp_swap ha hb, hn] <;> rfl)
  have E3 := Lib.hid (cmp_same o ha)
  have hl := cmp_least o ha
  have hs : (a 0 == b 0 && (a 1 == b 1 && (a 2 == b 2 && a 3 == b 3))) = false := same4_false (fun h => by have := (cmp_zero (o := o) ha hb).2 h; omega)
  clear ha hb hc hn
  go_enter Try.func7, Try.ntmps7
  go_wp2_with fail
  refine (cmp_as (o := o) (n := (-1)) _ HA.out HB.out E1.out).mono ?_
  rintro e w1 ⟨rfl, hb1⟩
  have A1 := rowBelow HX.out.1 hb1 (by first | (simp; done) | (simp; omega) | exact A0.lt)
  have B1 := rowBelow HX.out.2.1 hb1 (by first | (simp; done) | (simp; omega) | exact B0.lt)
  have C1 := rowBelow HX.out.2.2 hb1 (by first | (simp; done) | (simp; omega) | exact C0.lt)
  have L1 := Lib.hid ((((((Below.refl _ _).alloc (by go_size) _).alloc (by go_size) _).alloc (by go_size) _).alloc (by go_size) _).trans (hb1.mono (by go_size)) : Below w.heap.size w w1)
  clear hb1
  obtain ⟨a1_0, a1_1, a1_2, a1_3⟩ := rowc A1
  have ltA := A1.lt
  obtain ⟨b1_0, b1_1, b1_2, b1_3⟩ := rowc B1
  have ltB := B1.lt
  obtain ⟨c1_0, c1_1, c1_2, c1_3⟩ := rowc C1
  have ltC := C1.lt
  go_wp2_with fail
  refine (cmp_as (o := o) (n := 1) _ HB.out HA.out E2.out).mono ?_
  rintro e w2 ⟨rfl, hb2⟩
  have A2 := rowBelow A1 hb2 (by first | (simp; done) | (simp; omega) | exact A1.lt)
  have B2 := rowBelow B1 hb2 (by first | (simp; done) | (simp; omega) | exact B1.lt)
  have C2 := rowBelow C1 hb2 (by first | (simp; done) | (simp; omega) | exact C1.lt)
  have L2 := Lib.hid (L1.out.trans (hb2.mono L1.out.size) : Below w.heap.size w w2)
  clear hb2 L1 A1 a1_0 a1_1 a1_2 a1_3 ltA B1 b1_0 b1_1 b1_2 b1_3 ltB C1 c1_0 c1_1 c1_2 c1_3 ltC
  obtain ⟨a2_0, a2_1, a2_2, a2_3⟩ := rowc A2
  have ltA := A2.lt
  obtain ⟨b2_0, b2_1, b2_2, b2_3⟩ := rowc B2
  have ltB := B2.lt
  obtain ⟨c2_0, c2_1, c2_2, c2_3⟩ := rowc C2
  have ltC := C2.lt
  go_wp2_with fail
  refine (cmp_any o a zeroM _ HA.out zero_small).mono ?_
  rintro e w3 ⟨rfl, hb3⟩
  have A3 := rowBelow A2 hb3 (by first | (simp; done) | (simp; omega) | exact A2.lt)
  have B3 := rowBelow B2 hb3 (by first | (simp; done) | (simp; omega) | exact B2.lt)
  have C3 := rowBelow C2 hb3 (by first | (simp; done) | (simp; omega) | exact C2.lt)
  have L3 := Lib.hid (L2.out.trans (hb3.mono L2.out.size) : Below w.heap.size w w3)
  clear hb3 L2 A2 a2_0 a2_1 a2_2 a2_3 ltA B2 b2_0 b2_1 b2_2 b2_3 ltB C2 c2_0 c2_1 c2_2 c2_3 ltC
  obtain ⟨a3_0, a3_1, a3_2, a3_3⟩ := rowc A3
  have ltA := A3.lt
  obtain ⟨b3_0, b3_1, b3_2, b3_3⟩ := rowc B3
  have ltB := B3.lt
  obtain ⟨c3_0, c3_1, c3_2, c3_3⟩ := rowc C3
  have ltC := C3.lt
  go_wp2_with fail
  refine (cmp_as (o := o) (a := a) (b := a) (n := 0) _ HA.out HA.out E3.out).mono ?_
  rintro e w4 ⟨rfl, hb4⟩
  have A4 := rowBelow A3 hb4 (by first | (simp; done) | (simp; omega) | exact A3.lt)
  have B4 := rowBelow B3 hb4 (by first | (simp; done) | (simp; omega) | exact B3.lt)
  have C4 := rowBelow C3 hb4 (by first | (simp; done) | (simp; omega) | exact C3.lt)
  have L4 := Lib.hid (L3.out.trans (hb4.mono L3.out.size) : Below w.heap.size w w4)
  clear hb4 L3 A3 a3_0 a3_1 a3_2 a3_3 ltA B3 b3_0 b3_1 b3_2 b3_3 ltB C3 c3_0 c3_1 c3_2 c3_3 ltC
  obtain ⟨a4_0, a4_1, a4_2, a4_3⟩ := rowc A4
  have ltA := A4.lt
  obtain ⟨b4_0, b4_1, b4_2, b4_3⟩ := rowc B4
  have ltB := B4.lt
  obtain ⟨c4_0, c4_1, c4_2, c4_3⟩ := rowc C4
  have ltC := C4.lt
  go_wp2_with fail
  refine (alive_any _).mono ?_
  rintro e w5 ⟨rfl, hb5⟩
  have A5 := rowBelow A4 hb5 (by first | (simp; done) | (simp; omega) | exact A4.lt)
  have B5 := rowBelow B4 hb5 (by first | (simp; done) | (simp; omega) | exact B4.lt)
  have C5 := rowBelow C4 hb5 (by first | (simp; done) | (simp; omega) | exact C4.lt)
  have L5 := Lib.hid (L4.out.trans (hb5.mono L4.out.size) : Below w.heap.size w w5)
  clear hb5 L4 A4 a4_0 a4_1 a4_2 a4_3 ltA B4 b4_0 b4_1 b4_2 b4_3 ltB C4 c4_0 c4_1 c4_2 c4_3 ltC
  obtain ⟨a5_0, a5_1, a5_2, a5_3⟩ := rowc A5
  have ltA := A5.lt
  obtain ⟨b5_0, b5_1, b5_2, b5_3⟩ := rowc B5
  have ltB := B5.lt
  obtain ⟨c5_0, c5_1, c5_2, c5_3⟩ := rowc C5
  have ltC := C5.lt
  go_wp2_with fail
  refine (cmp_any o b c _ HB.out HC.out).mono ?_
  rintro e w6 ⟨rfl, hb6⟩
  have A6 := rowBelow A5 hb6 (by first | (simp; done) | (simp; omega) | exact A5.lt)
  have B6 := rowBelow B5 hb6 (by first | (simp; done) | (simp; omega) | exact B5.lt)
  have C6 := rowBelow C5 hb6 (by first | (simp; done) | (simp; omega) | exact C5.lt)
  have L6 := Lib.hid (L5.out.trans (hb6.mono L5.out.size) : Below w.heap.size w w6)
  clear hb6 L5 A5 a5_0 a5_1 a5_2 a5_3 ltA B5 b5_0 b5_1 b5_2 b5_3 ltB C5 c5_0 c5_1 c5_2 c5_3 ltC
  obtain ⟨a6_0, a6_1, a6_2, a6_3⟩ := rowc A6
  have ltA := A6.lt
  obtain ⟨b6_0, b6_1, b6_2, b6_3⟩ := rowc B6
  have ltB := B6.lt
  obtain ⟨c6_0, c6_1, c6_2, c6_3⟩ := rowc C6
  have ltC := C6.lt
  go_wp2
  go_ret
  exact ⟨rfl, L6.out⟩

set_option maxHeartbeats 4000000 in
theorem fall_my (o : Int) (a b c : Nat → Int) (w : World) (ha : Small a) (hb : Small b) (hc : Small c) (hn : cmpM o a b = (-1)) (hx : cmpM o b c ≤ 0) :
    Calls Try.prog 7 #[.int .u8 o, mv12 a b c] w fun e w' => e = .returned (.bool true) ∧ Below w.heap.size w w' := by
  have HA := Lib.hid ha
  have HB := Lib.hid hb
  have HC := Lib.hid hc
  have HX := Lib.hid (boxesF w 38 24 a b c)
  have zz : ∀ i, zeroM i = 0 := fun _ => rfl
  have E1 := Lib.hid hn
  have E2 := Lib.hid (show cmpM o b a = 1 by rw [cmp_swap ha hb, hn] <;> rfl)
  have E3 := Lib.hid (cmp_same o ha)
  have hl := cmp_least o ha
  have hs : (a 0 == b 0 && (a 1 == b 1 && (a 2 == b 2 && a 3 == b 3))) = false := same4_false (fun h => by have := (cmp_zero (o := o) ha hb).2 h; omega)
  have hy := cmp_trans ha hb hc (show cmpM o a b ≤ 0 by omega) hx
  clear ha hb hc hn
  go_enter Try.func7, Try.ntmps7
  go_wp2_with fail
  refine (cmp_as (o := o) (n := (-1)) _ HA.out HB.out E1.out).mono ?_
  rintro e w1 ⟨rfl, hb1⟩
  have A1 := rowBelow HX.out.1 hb1 (by first | (simp; done) | (simp; omega) | exact A0.lt)
  have B1 := rowBelow HX.out.2.1 hb1 (by first | (simp; done) | (simp; omega) | exact B0.lt)
  have C1 := rowBelow HX.out.2.2 hb1 (by first | (simp; done) | (simp; omega) | exact C0.lt)
  have L1 := Lib.hid ((((((Below.refl _ _).alloc (by go_size) _).alloc (by go_size) _).alloc (by go_size) _).alloc (by go_size) _).trans (hb1.mono (by go_size)) : Below w.heap.size w w1)
  clear hb1
  obtain ⟨a1_0, a1_1, a1_2, a1_3⟩ := rowc A1
  have ltA := A1.lt
  obtain ⟨b1_0, b1_1, b1_2, b1_3⟩ := rowc B1
  have ltB := B1.lt
  obtain ⟨c1_0, c1_1, c1_2, c1_3⟩ := rowc C1
  have ltC := C1.lt
  go_wp2_with fail
  refine (cmp_as (o := o) (n := 1) _ HB.out HA.out E2.out).mono ?_
  rintro e w2 ⟨rfl, hb2⟩
  have A2 := rowBelow A1 hb2 (by first | (simp; done) | (simp; omega) | exact A1.lt)
  have B2 := rowBelow B1 hb2 (by first | (simp; done) | (simp; omega) | exact B1.lt)
  have C2 := rowBelow C1 hb2 (by first | (simp; done) | (simp; omega) | exact C1.lt)
  have L2 := Lib.hid (L1.out.trans (hb2.mono L1.out.size) : Below w.heap.size w w2)
  clear hb2 L1 A1 a1_0 a1_1 a1_2 a1_3 ltA B1 b1_0 b1_1 b1_2 b1_3 ltB C1 c1_0 c1_1 c1_2 c1_3 ltC
  obtain ⟨a2_0, a2_1, a2_2, a2_3⟩ := rowc A2
  have ltA := A2.lt
  obtain ⟨b2_0, b2_1, b2_2, b2_3⟩ := rowc B2
  have ltB := B2.lt
  obtain ⟨c2_0, c2_1, c2_2, c2_3⟩ := rowc C2
  have ltC := C2.lt
  go_wp2_with fail
  refine (cmp_any o a zeroM _ HA.out zero_small).mono ?_
  rintro e w3 ⟨rfl, hb3⟩
  have A3 := rowBelow A2 hb3 (by first | (simp; done) | (simp; omega) | exact A2.lt)
  have B3 := rowBelow B2 hb3 (by first | (simp; done) | (simp; omega) | exact B2.lt)
  have C3 := rowBelow C2 hb3 (by first | (simp; done) | (simp; omega) | exact C2.lt)
  have L3 := Lib.hid (L2.out.trans (hb3.mono L2.out.size) : Below w.heap.size w w3)
  clear hb3 L2 A2 a2_0 a2_1 a2_2 a2_3 ltA B2 b2_0 b2_1 b2_2 b2_3 ltB C2 c2_0 c2_1 c2_2 c2_3 ltC
  obtain ⟨a3_0, a3_1, a3_2, a3_3⟩ := rowc A3
  have ltA := A3.lt
  obtain ⟨b3_0, b3_1, b3_2, b3_3⟩ := rowc B3
  have ltB := B3.lt
  obtain ⟨c3_0, c3_1, c3_2, c3_3⟩ := rowc C3
  have ltC := C3.lt
  go_wp2_with fail
  refine (cmp_as (o := o) (a := a) (b := a) (n := 0) _ HA.out HA.out E3.out).mono ?_
  rintro e w4 ⟨rfl, hb4⟩
  have A4 := rowBelow A3 hb4 (by first | (simp; done) | (simp; omega) | exact A3.lt)
  have B4 := rowBelow B3 hb4 (by first | (simp; done) | (simp; omega) | exact B3.lt)
  have C4 := rowBelow C3 hb4 (by first | (simp; done) | (simp; omega) | exact C3.lt)
  have L4 := Lib.hid (L3.out.trans (hb4.mono L3.out.size) : Below w.heap.size w w4)
  clear hb4 L3 A3 a3_0 a3_1 a3_2 a3_3 ltA B3 b3_0 b3_1 b3_2 b3_3 ltB C3 c3_0 c3_1 c3_2 c3_3 ltC
  obtain ⟨a4_0, a4_1, a4_2, a4_3⟩ := rowc A4
  have ltA := A4.lt
  obtain ⟨b4_0, b4_1, b4_2, b4_3⟩ := rowc B4
  have ltB := B4.lt
  obtain ⟨c4_0, c4_1, c4_2, c4_3⟩ := rowc C4
  have ltC := C4.lt
  go_wp2_with fail
  refine (alive_any _).mono ?_
  rintro e w5 ⟨rfl, hb5⟩
  have A5 := rowBelow A4 hb5 (by first | (simp; done) | (simp; omega) | exact A4.lt)
  have B5 := rowBelow B4 hb5 (by first | (simp; done) | (simp; omega) | exact B4.lt)
  have C5 := rowBelow C4 hb5 (by first | (simp; done) | (simp; omega) | exact C4.lt)
  have L5 := Lib.hid (L4.out.trans (hb5.mono L4.out.size) : Below w.heap.size w w5)
  clear hb5 L4 A4 a4_0 a4_1 a4_2 a4_3 ltA B4 b4_0 b4_1 b4_2 b4_3 ltB C4 c4_0 c4_1 c4_2 c4_3 ltC
  obtain ⟨a5_0, a5_1, a5_2, a5_3⟩ := rowc A5
  have ltA := A5.lt
  obtain ⟨b5_0, b5_1, b5_2, b5_3⟩ := rowc B5
  have ltB := B5.lt
  obtain ⟨c5_0, c5_1, c5_2, c5_3⟩ := rowc C5
  have ltC := C5.lt
  go_wp2_with fail
  refine (cmp_any o b c _ HB.out HC.out).mono ?_
  rintro e w6 ⟨rfl, hb6⟩
  have A6 := rowBelow A5 hb6 (by first | (simp; done) | (simp; omega) | exact A5.lt)
  have B6 := rowBelow B5 hb6 (by first | (simp; done) | (simp; omega) | exact B5.lt)
  have C6 := rowBelow C5 hb6 (by first | (simp; done) | (simp; omega) | exact C5.lt)
  have L6 := Lib.hid (L5.out.trans (hb6.mono L5.out.size) : Below w.heap.size w w6)
  clear hb6 L5 A5 a5_0 a5_1 a5_2 a5_3 ltA B5 b5_0 b5_1 b5_2 b5_3 ltB C5 c5_0 c5_1 c5_2 c5_3 ltC
  obtain ⟨a6_0, a6_1, a6_2, a6_3⟩ := rowc A6
  have ltA := A6.lt
  obtain ⟨b6_0, b6_1, b6_2, b6_3⟩ := rowc B6
  have ltB := B6.lt
  obtain ⟨c6_0, c6_1, c6_2, c6_3⟩ := rowc C6
  have ltC := C6.lt
  go_wp2_with fail
  refine (cmp_any o a c _ HA.out HC.out).mono ?_
  rintro e w7 ⟨rfl, hb7⟩
  have A7 := rowBelow A6 hb7 (by first | (simp; done) | (simp; omega) | exact A6.lt)
  have B7 := rowBelow B6 hb7 (by first | (simp; done) | (simp; omega) | exact B6.lt)
  have C7 := rowBelow C6 hb7 (by first | (simp; done) | (simp; omega) | exact C6.lt)
  have L7 := Lib.hid (L6.out.trans (hb7.mono L6.out.size) : Below w.heap.size w w7)
  clear hb7 L6 A6 a6_0 a6_1 a6_2 a6_3 ltA B6 b6_0 b6_1 b6_2 b6_3 ltB C6 c6_0 c6_1 c6_2 c6_3 ltC
  obtain ⟨a7_0, a7_1, a7_2, a7_3⟩ := rowc A7
  have ltA := A7.lt
  obtain ⟨b7_0, b7_1, b7_2, b7_3⟩ := rowc B7
  have ltB := B7.lt
  obtain ⟨c7_0, c7_1, c7_2, c7_3⟩ := rowc C7
  have ltC := C7.lt
  go_wp2
  go_ret
  exact ⟨rfl, L7.out⟩

theorem fall_walk (o : Int) (a b c : Nat → Int) (w : World) (ha : Small a) (hb : Small b) (hc : Small c) :
    Calls Try.prog 7 #[.int .u8 o, mv12 a b c] w fun e w' => e = .returned (.bool true) ∧ Below w.heap.size w w' := by
  rcases cmp_vals o ha hb with h | h | h
  · by_cases hx : 0 < cmpM o b c
    · exact fall_mx o a b c w ha hb hc h hx
    · exact fall_my o a b c w ha hb hc h (by omega)
  · by_cases hx : 0 < cmpM o b c
    · exact fall_zx o a b c w ha hb hc h hx
    · exact fall_zy o a b c w ha hb hc h (by omega)
  · exact fall_pg o a b c w ha hb hc h

open Go.ChangeShapes Go.WideShapes Go.ChangeAt
theorem own : ownKnob Try.prog.godebug = none := by kernel_rfl
theorem laidOut : laidOutB Try.prog = true := by kernel_rfl
theorem cellsM : Try.prog.cellsOf 24 = 4 := by kernel_rfl
theorem cellsU : Try.prog.cellsOf 22 = 1 := by kernel_rfl

set_option maxRecDepth 100000 in
theorem fall_lifted (os : Os) (started : os.Started) (H : Type) (enc : TypeId × Value → H) :
    ReturnsInHanded {} Try.checked os 7 .any (Rows.monosFallSpec.pre6 enc Try.prog Try.f7 Rows.monosFallRow.domain false) (Rows.monosFallSpec.post enc Try.prog Try.f7 false true false false) := by
  refine returnsInHanded_of_change (C := Try.checked) own started (by kernel_rfl) Try.func7
    (ChangeSpec.witness6 (enc := enc) (C := Try.checked) false ⟨#[], #[.int .u8 0, .agg #[.int .u16 0, .int .u16 0, .int .u16 0, .int .u16 0, .int .u16 0, .int .u16 0, .int .u16 0, .int .u16 0, .int .u16 0, .int .u16 0, .int .u16 0, .int .u16 0]], []⟩ 8 (by kernel_rfl) (by kernel_rfl) (by kernel_rfl) (by kernel_rfl)) ?_
  intro W base args ds gs before hval0 hW hcnd _
  have hval : ∀ (j : Nat) t v, Try.f7.params[j]? = some t → args[j]? = some v → Value.okWide Try.prog W .any base t v := hval0
  have hW' := hW
  obtain ⟨p, q, hA0, hV, rfl, hfz, hnd⟩ := hW
  have hA : DataW.TrodAll enc Try.prog W 0 (fun _ => true) true Try.f7.params.toList args.toList ds p := hA0
  rw [Try.params7] at hA hval
  obtain ⟨v0, v1, d0, d1, p0, p1, rfl, rfl, rfl, h0, h1⟩ := trodAll_two hA
  obtain ⟨rfl, rfl⟩ := trodVars_none hV
  obtain ⟨o, rfl, -, -, wo⟩ := open_int Try.underlying33 (hval 0 33 v0 rfl rfl) h0
  obtain ⟨a, b, c, rfl, ha, hb, hc⟩ := LawPost.open_twelve Try.underlying38 Try.underlying24 Try.underlying22 cellsU cellsM cellsL (hval 1 38 v1 rfl rfl) h1
  refine (fall_walk o a b c W ha hb hc).mono fun e W' ⟨he, hg⟩ => ?_
  subst he
  exact ⟨_, rfl, LawPost.law_post laidOut (by kernel_rfl) (by kernel_rfl) Try.underlying4 hW' rfl rfl hg⟩

theorem fall_holds : Rows.MonosFallSaid :=
  OpenClaim.holds_of_wide 7 Try.f7 rfl rfl rfl rfl rfl rfl rfl ⟨rfl, rfl, rfl, rfl, rfl⟩ rfl rfl rfl rfl rfl (by kernel_rfl) Try.func7 (by kernel_rfl)
    (of_decide_eq_true (by kernel_rfl)) (by unfold Func.isWrapper; first | (rw [if_pos (by decide +kernel)]; kernel_rfl) | (rw [if_neg (by decide +kernel)]; exact ⟨rfl, rfl⟩))
    (fun os started H enc _ => fall_lifted os started H enc)
#print axioms fall_holds
end Go.Proofs.Ytlhkiodgjcbjbaa.Mono
