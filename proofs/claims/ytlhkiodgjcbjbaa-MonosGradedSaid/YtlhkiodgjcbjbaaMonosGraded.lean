/-
  MonosGraded: whatever two products and whatever order come in, the law returns true.
-/
import Derived.Test.YtlhkiodgjcbjbaaMonoKeys
import Derived.Test.YtlhkiodgjcbjbaaLawPost
namespace Go.Proofs.Ytlhkiodgjcbjbaa.Mono
open Go.RowKit Go.Sort

set_option maxHeartbeats 4000000 in
theorem graded_11 (o : Int) (a b : Nat → Int) (w : World) (ha : Small a) (hb : Small b) (hp : 0 < degM a - degM b) (hq : o ≤ 2) :
    Calls Try.prog 9 #[mvf a, mvf b, .int .u8 o] w fun e w' => e = .returned (.bool true) ∧ Below w.heap.size w w' := by
  have HA := Lib.hid ha
  have HB := Lib.hid hb
  have HX := Lib.hid (boxes w 24 a b)
  have da := degM_bd ha
  have db := degM_bd hb
  have es := IntWalk.i64_in (degM a - degM b) (by omega)
  have E1 := Lib.hid (cmp_deg1 (a := a) (b := b) (by omega))
  clear ha hb
  go_enter Try.func9, Try.ntmps9
  go_wp2_with fail
  refine wp_region_quiet_below (by kernel_rfl) (by kernel_rfl) ?_
  obtain ⟨ar_0, ar_1, ar_2, ar_3⟩ := rows4 HX.out.1
  obtain ⟨br_0, br_1, br_2, br_3⟩ := rows4 HX.out.2
  repeat (go_big_quiet_step (first
    | (go_at_call 17; first | (with_reducible exact Calls.regrown_of (degree_any a _ HA.out)) | (with_reducible exact Calls.regrown_of (degree_any b _ HB.out)))))
  refine wpQuiet_nil ?_
  intro w1 hw1
  obtain ⟨q, hq⟩ := hw1
  have hb1 : Below ((w.alloc (.cells (arr4 a) 24)).alloc (.cells (arr4 b) 24)).heap.size ((w.alloc (.cells (arr4 a) 24)).alloc (.cells (arr4 b) 24)) w1 := by
    have h := below_regrown ((w.alloc (.cells (arr4 a) 24)).alloc (.cells (arr4 b) 24)) q.d q.os
    have e : w1 = grow (redrawn ((w.alloc (.cells (arr4 a) 24)).alloc (.cells (arr4 b) 24)) q.d) q.os := hq
    rw [e]; exact h
  clear hq ar_0 ar_1 ar_2 ar_3 br_0 br_1 br_2 br_3
  have A1 := rowBelow HX.out.1 hb1 (by first | (simp; done) | (simp; omega) | exact A0.lt)
  have B1 := rowBelow HX.out.2 hb1 (by first | (simp; done) | (simp; omega) | exact B0.lt)
  have L1 := Lib.hid ((((Below.refl _ _).alloc (by go_size) _).alloc (by go_size) _).trans (hb1.mono (by go_size)) : Below w.heap.size w w1)
  clear hb1
  obtain ⟨a1_0, a1_1, a1_2, a1_3⟩ := rowc A1
  have ltA := A1.lt
  obtain ⟨b1_0, b1_1, b1_2, b1_3⟩ := rowc B1
  have ltB := B1.lt
  go_wp2_with fail
  refine (cmp_as (o := 1) (n := 1) _ HA.out HB.out E1.out.1).mono ?_
  rintro e w2 ⟨rfl, hb2⟩
  have A2 := rowBelow A1 hb2 (by first | (simp; done) | (simp; omega) | exact A1.lt)
  have B2 := rowBelow B1 hb2 (by first | (simp; done) | (simp; omega) | exact B1.lt)
  have L2 := Lib.hid (L1.out.trans (hb2.mono L1.out.size) : Below w.heap.size w w2)
  clear hb2 L1 A1 a1_0 a1_1 a1_2 a1_3 ltA B1 b1_0 b1_1 b1_2 b1_3 ltB
  obtain ⟨a2_0, a2_1, a2_2, a2_3⟩ := rowc A2
  have ltA := A2.lt
  obtain ⟨b2_0, b2_1, b2_2, b2_3⟩ := rowc B2
  have ltB := B2.lt
  go_wp2_with fail
  refine (cmp_as (o := 2) (n := 1) _ HA.out HB.out E1.out.2).mono ?_
  rintro e w3 ⟨rfl, hb3⟩
  have A3 := rowBelow A2 hb3 (by first | (simp; done) | (simp; omega) | exact A2.lt)
  have B3 := rowBelow B2 hb3 (by first | (simp; done) | (simp; omega) | exact B2.lt)
  have L3 := Lib.hid (L2.out.trans (hb3.mono L2.out.size) : Below w.heap.size w w3)
  clear hb3 L2 A2 a2_0 a2_1 a2_2 a2_3 ltA B2 b2_0 b2_1 b2_2 b2_3 ltB
  obtain ⟨a3_0, a3_1, a3_2, a3_3⟩ := rowc A3
  have ltA := A3.lt
  obtain ⟨b3_0, b3_1, b3_2, b3_3⟩ := rowc B3
  have ltB := B3.lt
  go_wp2_with fail
  go_loopw [8] (fun i wr => ∃ i0 : Nat, i0 ≤ 4 ∧ i = .int .i64 i0 ∧ wr.rowIs w.heap.size 24 4 (cell a) ∧ wr.rowIs (w.heap.size + 1) 24 4 (cell b) ∧ Below w.heap.size w wr) (fun i _ => 4 - (intOf i).toNat)
  case atStart => exact ⟨0, by omega, rfl, A3, B3, L3.out⟩
  case round =>
    obtain ⟨i0, hi, rfl, RA, RB, G⟩ := hrel
    clear L3 A3 a3_0 a3_1 a3_2 a3_3 ltA B3 b3_0 b3_1 b3_2 b3_3 ltB es
    have RAH := Lib.hid RA
    have RBH := Lib.hid RB
    have GH := Lib.hid G
    clear RA RB G
    by_cases hlt : i0 < 4
    · have hc : i0 = 0 ∨ i0 = 1 ∨ i0 = 2 ∨ i0 = 3 := by omega
      clear hlt hi
      rcases hc with rfl | rfl | rfl | rfl
      · rw [show (((0 : Nat)) : Int) = 0 from rfl]
        go_wp2_with fail
        obtain ⟨wo, rfl⟩ : ∃ wo : World, wo = wr := ⟨_, rfl⟩
        go_loopw [9] (fun i wr => ∃ k0 : Nat, 0 < k0 ∧ k0 ≤ 4 ∧ i = .int .i64 k0 ∧ wr.rowIs w.heap.size 24 4 (cell a) ∧ wr.rowIs (w.heap.size + 1) 24 4 (cell b) ∧ Below w.heap.size w wr) (fun i _ => 4 - (intOf i).toNat)
        case atStart => exact ⟨1, by omega, by omega, by rfl, RAH.out, RBH.out, GH.out⟩
        case round =>
          obtain ⟨k0, hk, hk4, rfl, RA, RB, G⟩ := hrel
          have RKA := Lib.hid RA
          have RKB := Lib.hid RB
          have GK := Lib.hid G
          clear RA RB G RAH RBH GH
          have hc : k0 = 1 ∨ k0 = 2 ∨ k0 = 3 ∨ k0 = 4 := by omega
          clear hk hk4
          rcases hc with rfl | rfl | rfl | rfl
          · rw [show (((1 : Nat)) : Int) = 1 from rfl]
            have c1 := Lib.hid (cmp_unit (o := o) (i := 0) (k := 1) (by omega) (by omega))
            have c2 := Lib.hid (show cmpM o (unitM 1) (unitM 0) = -1 by rw [cmp_swap (unit_small 0) (unit_small 1), c1.out])
            go_wp2_with fail
            refine (cmp_as (o := o) (a := unitM 0) (b := unitM 1) (n := 1) _ (unit_small 0) (unit_small 1) c1.out).mono ?_
            rintro e v1 ⟨rfl, hv1⟩
            have GV := Lib.hid ((GK.out.alloc GK.out.size _ |>.alloc (by have := GK.out.size; simp; omega) _).trans (hv1.mono (by have := GK.out.size; simp; omega)) : Below w.heap.size w v1)
            have X1 := rowBelow (boxes wr 24 (unitM 0) (unitM 1)).1 hv1 (by simp; omega)
            have Y1 := rowBelow (boxes wr 24 (unitM 0) (unitM 1)).2 hv1 (by simp)
            have AV := Lib.hid (rowBelow (RKA.out.alloc (.cells (arr4 (unitM 0)) 24) |>.alloc (.cells (arr4 (unitM 1)) 24)) hv1 (by have := RKA.out.lt; simp; omega))
            have BV := Lib.hid (rowBelow (RKB.out.alloc (.cells (arr4 (unitM 0)) 24) |>.alloc (.cells (arr4 (unitM 1)) 24)) hv1 (by have := RKB.out.lt; simp; omega))
            obtain ⟨x0, x1, x2, x3⟩ := rowc X1
            obtain ⟨y0, y1, y2, y3⟩ := rowc Y1
            clear hv1 X1 Y1 RKA RKB GK
            go_wp2_with fail
            refine (cmp_as (o := o) (a := unitM 1) (b := unitM 0) (n := -1) _ (unit_small 1) (unit_small 0) c2.out).mono ?_
            rintro e v2 ⟨rfl, hv2⟩
            have GU := Lib.hid (GV.out.trans (hv2.mono GV.out.size) : Below w.heap.size w v2)
            have AU := Lib.hid (rowBelow AV.out hv2 AV.out.lt)
            have BU := Lib.hid (rowBelow BV.out hv2 BV.out.lt)
            clear hv2 GV AV BV x0 x1 x2 x3 y0 y1 y2 y3
            go_wp2
            go_roundw
            case rel => exact ⟨2, by omega, by omega, by rfl, AU.out, BU.out, GU.out⟩
            case measure => simp [intOf]
          · rw [show (((2 : Nat)) : Int) = 2 from rfl]
            have c1 := Lib.hid (cmp_unit (o := o) (i := 0) (k := 2) (by omega) (by omega))
            have c2 := Lib.hid (show cmpM o (unitM 2) (unitM 0) = -1 by rw [cmp_swap (unit_small 0) (unit_small 2), c1.out])
            go_wp2_with fail
            refine (cmp_as (o := o) (a := unitM 0) (b := unitM 2) (n := 1) _ (unit_small 0) (unit_small 2) c1.out).mono ?_
            rintro e v1 ⟨rfl, hv1⟩
            have GV := Lib.hid ((GK.out.alloc GK.out.size _ |>.alloc (by have := GK.out.size; simp; omega) _).trans (hv1.mono (by have := GK.out.size; simp; omega)) : Below w.heap.size w v1)
            have X1 := rowBelow (boxes wr 24 (unitM 0) (unitM 2)).1 hv1 (by simp; omega)
            have Y1 := rowBelow (boxes wr 24 (unitM 0) (unitM 2)).2 hv1 (by simp)
            have AV := Lib.hid (rowBelow (RKA.out.alloc (.cells (arr4 (unitM 0)) 24) |>.alloc (.cells (arr4 (unitM 2)) 24)) hv1 (by have := RKA.out.lt; simp; omega))
            have BV := Lib.hid (rowBelow (RKB.out.alloc (.cells (arr4 (unitM 0)) 24) |>.alloc (.cells (arr4 (unitM 2)) 24)) hv1 (by have := RKB.out.lt; simp; omega))
            obtain ⟨x0, x1, x2, x3⟩ := rowc X1
            obtain ⟨y0, y1, y2, y3⟩ := rowc Y1
            clear hv1 X1 Y1 RKA RKB GK
            go_wp2_with fail
            refine (cmp_as (o := o) (a := unitM 2) (b := unitM 0) (n := -1) _ (unit_small 2) (unit_small 0) c2.out).mono ?_
            rintro e v2 ⟨rfl, hv2⟩
            have GU := Lib.hid (GV.out.trans (hv2.mono GV.out.size) : Below w.heap.size w v2)
            have AU := Lib.hid (rowBelow AV.out hv2 AV.out.lt)
            have BU := Lib.hid (rowBelow BV.out hv2 BV.out.lt)
            clear hv2 GV AV BV x0 x1 x2 x3 y0 y1 y2 y3
            go_wp2
            go_roundw
            case rel => exact ⟨3, by omega, by omega, by rfl, AU.out, BU.out, GU.out⟩
            case measure => simp [intOf]
          · rw [show (((3 : Nat)) : Int) = 3 from rfl]
            have c1 := Lib.hid (cmp_unit (o := o) (i := 0) (k := 3) (by omega) (by omega))
            have c2 := Lib.hid (show cmpM o (unitM 3) (unitM 0) = -1 by rw [cmp_swap (unit_small 0) (unit_small 3), c1.out])
            go_wp2_with fail
            refine (cmp_as (o := o) (a := unitM 0) (b := unitM 3) (n := 1) _ (unit_small 0) (unit_small 3) c1.out).mono ?_
            rintro e v1 ⟨rfl, hv1⟩
            have GV := Lib.hid ((GK.out.alloc GK.out.size _ |>.alloc (by have := GK.out.size; simp; omega) _).trans (hv1.mono (by have := GK.out.size; simp; omega)) : Below w.heap.size w v1)
            have X1 := rowBelow (boxes wr 24 (unitM 0) (unitM 3)).1 hv1 (by simp; omega)
            have Y1 := rowBelow (boxes wr 24 (unitM 0) (unitM 3)).2 hv1 (by simp)
            have AV := Lib.hid (rowBelow (RKA.out.alloc (.cells (arr4 (unitM 0)) 24) |>.alloc (.cells (arr4 (unitM 3)) 24)) hv1 (by have := RKA.out.lt; simp; omega))
            have BV := Lib.hid (rowBelow (RKB.out.alloc (.cells (arr4 (unitM 0)) 24) |>.alloc (.cells (arr4 (unitM 3)) 24)) hv1 (by have := RKB.out.lt; simp; omega))
            obtain ⟨x0, x1, x2, x3⟩ := rowc X1
            obtain ⟨y0, y1, y2, y3⟩ := rowc Y1
            clear hv1 X1 Y1 RKA RKB GK
            go_wp2_with fail
            refine (cmp_as (o := o) (a := unitM 3) (b := unitM 0) (n := -1) _ (unit_small 3) (unit_small 0) c2.out).mono ?_
            rintro e v2 ⟨rfl, hv2⟩
            have GU := Lib.hid (GV.out.trans (hv2.mono GV.out.size) : Below w.heap.size w v2)
            have AU := Lib.hid (rowBelow AV.out hv2 AV.out.lt)
            have BU := Lib.hid (rowBelow BV.out hv2 BV.out.lt)
            clear hv2 GV AV BV x0 x1 x2 x3 y0 y1 y2 y3
            go_wp2
            go_roundw
            case rel => exact ⟨4, by omega, by omega, by rfl, AU.out, BU.out, GU.out⟩
            case measure => simp [intOf]
          · rw [show (((4 : Nat)) : Int) = 4 from rfl]
            go_wp2
            go_roundw
            case rel => exact ⟨1, by omega, by rfl, RKA.out, RKB.out, GK.out⟩
            case measure => simp [intOf]
      · rw [show (((1 : Nat)) : Int) = 1 from rfl]
        go_wp2_with fail
        obtain ⟨wo, rfl⟩ : ∃ wo : World, wo = wr := ⟨_, rfl⟩
        go_loopw [9] (fun i wr => ∃ k0 : Nat, 1 < k0 ∧ k0 ≤ 4 ∧ i = .int .i64 k0 ∧ wr.rowIs w.heap.size 24 4 (cell a) ∧ wr.rowIs (w.heap.size + 1) 24 4 (cell b) ∧ Below w.heap.size w wr) (fun i _ => 4 - (intOf i).toNat)
        case atStart => exact ⟨2, by omega, by omega, by rfl, RAH.out, RBH.out, GH.out⟩
        case round =>
          obtain ⟨k0, hk, hk4, rfl, RA, RB, G⟩ := hrel
          have RKA := Lib.hid RA
          have RKB := Lib.hid RB
          have GK := Lib.hid G
          clear RA RB G RAH RBH GH
          have hc : k0 = 2 ∨ k0 = 3 ∨ k0 = 4 := by omega
          clear hk hk4
          rcases hc with rfl | rfl | rfl
          · rw [show (((2 : Nat)) : Int) = 2 from rfl]
            have c1 := Lib.hid (cmp_unit (o := o) (i := 1) (k := 2) (by omega) (by omega))
            have c2 := Lib.hid (show cmpM o (unitM 2) (unitM 1) = -1 by rw [cmp_swap (unit_small 1) (unit_small 2), c1.out])
            go_wp2_with fail
            refine (cmp_as (o := o) (a := unitM 1) (b := unitM 2) (n := 1) _ (unit_small 1) (unit_small 2) c1.out).mono ?_
            rintro e v1 ⟨rfl, hv1⟩
            have GV := Lib.hid ((GK.out.alloc GK.out.size _ |>.alloc (by have := GK.out.size; simp; omega) _).trans (hv1.mono (by have := GK.out.size; simp; omega)) : Below w.heap.size w v1)
            have X1 := rowBelow (boxes wr 24 (unitM 1) (unitM 2)).1 hv1 (by simp; omega)
            have Y1 := rowBelow (boxes wr 24 (unitM 1) (unitM 2)).2 hv1 (by simp)
            have AV := Lib.hid (rowBelow (RKA.out.alloc (.cells (arr4 (unitM 1)) 24) |>.alloc (.cells (arr4 (unitM 2)) 24)) hv1 (by have := RKA.out.lt; simp; omega))
            have BV := Lib.hid (rowBelow (RKB.out.alloc (.cells (arr4 (unitM 1)) 24) |>.alloc (.cells (arr4 (unitM 2)) 24)) hv1 (by have := RKB.out.lt; simp; omega))
            obtain ⟨x0, x1, x2, x3⟩ := rowc X1
            obtain ⟨y0, y1, y2, y3⟩ := rowc Y1
            clear hv1 X1 Y1 RKA RKB GK
            go_wp2_with fail
            refine (cmp_as (o := o) (a := unitM 2) (b := unitM 1) (n := -1) _ (unit_small 2) (unit_small 1) c2.out).mono ?_
            rintro e v2 ⟨rfl, hv2⟩
            have GU := Lib.hid (GV.out.trans (hv2.mono GV.out.size) : Below w.heap.size w v2)
            have AU := Lib.hid (rowBelow AV.out hv2 AV.out.lt)
            have BU := Lib.hid (rowBelow BV.out hv2 BV.out.lt)
            clear hv2 GV AV BV x0 x1 x2 x3 y0 y1 y2 y3
            go_wp2
            go_roundw
            case rel => exact ⟨3, by omega, by omega, by rfl, AU.out, BU.out, GU.out⟩
            case measure => simp [intOf]
          · rw [show (((3 : Nat)) : Int) = 3 from rfl]
            have c1 := Lib.hid (cmp_unit (o := o) (i := 1) (k := 3) (by omega) (by omega))
            have c2 := Lib.hid (show cmpM o (unitM 3) (unitM 1) = -1 by rw [cmp_swap (unit_small 1) (unit_small 3), c1.out])
            go_wp2_with fail
            refine (cmp_as (o := o) (a := unitM 1) (b := unitM 3) (n := 1) _ (unit_small 1) (unit_small 3) c1.out).mono ?_
            rintro e v1 ⟨rfl, hv1⟩
            have GV := Lib.hid ((GK.out.alloc GK.out.size _ |>.alloc (by have := GK.out.size; simp; omega) _).trans (hv1.mono (by have := GK.out.size; simp; omega)) : Below w.heap.size w v1)
            have X1 := rowBelow (boxes wr 24 (unitM 1) (unitM 3)).1 hv1 (by simp; omega)
            have Y1 := rowBelow (boxes wr 24 (unitM 1) (unitM 3)).2 hv1 (by simp)
            have AV := Lib.hid (rowBelow (RKA.out.alloc (.cells (arr4 (unitM 1)) 24) |>.alloc (.cells (arr4 (unitM 3)) 24)) hv1 (by have := RKA.out.lt; simp; omega))
            have BV := Lib.hid (rowBelow (RKB.out.alloc (.cells (arr4 (unitM 1)) 24) |>.alloc (.cells (arr4 (unitM 3)) 24)) hv1 (by have := RKB.out.lt; simp; omega))
            obtain ⟨x0, x1, x2, x3⟩ := rowc X1
            obtain ⟨y0, y1, y2, y3⟩ := rowc Y1
            clear hv1 X1 Y1 RKA RKB GK
            go_wp2_with fail
            refine (cmp_as (o := o) (a := unitM 3) (b := unitM 1) (n := -1) _ (unit_small 3) (unit_small 1) c2.out).mono ?_
            rintro e v2 ⟨rfl, hv2⟩
            have GU := Lib.hid (GV.out.trans (hv2.mono GV.out.size) : Below w.heap.size w v2)
            have AU := Lib.hid (rowBelow AV.out hv2 AV.out.lt)
            have BU := Lib.hid (rowBelow BV.out hv2 BV.out.lt)
            clear hv2 GV AV BV x0 x1 x2 x3 y0 y1 y2 y3
            go_wp2
            go_roundw
            case rel => exact ⟨4, by omega, by omega, by rfl, AU.out, BU.out, GU.out⟩
            case measure => simp [intOf]
          · rw [show (((4 : Nat)) : Int) = 4 from rfl]
            go_wp2
            go_roundw
            case rel => exact ⟨2, by omega, by rfl, RKA.out, RKB.out, GK.out⟩
            case measure => simp [intOf]
      · rw [show (((2 : Nat)) : Int) = 2 from rfl]
        go_wp2_with fail
        obtain ⟨wo, rfl⟩ : ∃ wo : World, wo = wr := ⟨_, rfl⟩
        go_loopw [9] (fun i wr => ∃ k0 : Nat, 2 < k0 ∧ k0 ≤ 4 ∧ i = .int .i64 k0 ∧ wr.rowIs w.heap.size 24 4 (cell a) ∧ wr.rowIs (w.heap.size + 1) 24 4 (cell b) ∧ Below w.heap.size w wr) (fun i _ => 4 - (intOf i).toNat)
        case atStart => exact ⟨3, by omega, by omega, by rfl, RAH.out, RBH.out, GH.out⟩
        case round =>
          obtain ⟨k0, hk, hk4, rfl, RA, RB, G⟩ := hrel
          have RKA := Lib.hid RA
          have RKB := Lib.hid RB
          have GK := Lib.hid G
          clear RA RB G RAH RBH GH
          have hc : k0 = 3 ∨ k0 = 4 := by omega
          clear hk hk4
          rcases hc with rfl | rfl
          · rw [show (((3 : Nat)) : Int) = 3 from rfl]
            have c1 := Lib.hid (cmp_unit (o := o) (i := 2) (k := 3) (by omega) (by omega))
            have c2 := Lib.hid (show cmpM o (unitM 3) (unitM 2) = -1 by rw [cmp_swap (unit_small 2) (unit_small 3), c1.out])
            go_wp2_with fail
            refine (cmp_as (o := o) (a := unitM 2) (b := unitM 3) (n := 1) _ (unit_small 2) (unit_small 3) c1.out).mono ?_
            rintro e v1 ⟨rfl, hv1⟩
            have GV := Lib.hid ((GK.out.alloc GK.out.size _ |>.alloc (by have := GK.out.size; simp; omega) _).trans (hv1.mono (by have := GK.out.size; simp; omega)) : Below w.heap.size w v1)
            have X1 := rowBelow (boxes wr 24 (unitM 2) (unitM 3)).1 hv1 (by simp; omega)
            have Y1 := rowBelow (boxes wr 24 (unitM 2) (unitM 3)).2 hv1 (by simp)
            have AV := Lib.hid (rowBelow (RKA.out.alloc (.cells (arr4 (unitM 2)) 24) |>.alloc (.cells (arr4 (unitM 3)) 24)) hv1 (by have := RKA.out.lt; simp; omega))
            have BV := Lib.hid (rowBelow (RKB.out.alloc (.cells (arr4 (unitM 2)) 24) |>.alloc (.cells (arr4 (unitM 3)) 24)) hv1 (by have := RKB.out.lt; simp; omega))
            obtain ⟨x0, x1, x2, x3⟩ := rowc X1
            obtain ⟨y0, y1, y2, y3⟩ := rowc Y1
            clear hv1 X1 Y1 RKA RKB GK
            go_wp2_with fail
            refine (cmp_as (o := o) (a := unitM 3) (b := unitM 2) (n := -1) _ (unit_small 3) (unit_small 2) c2.out).mono ?_
            rintro e v2 ⟨rfl, hv2⟩
            have GU := Lib.hid (GV.out.trans (hv2.mono GV.out.size) : Below w.heap.size w v2)
            have AU := Lib.hid (rowBelow AV.out hv2 AV.out.lt)
            have BU := Lib.hid (rowBelow BV.out hv2 BV.out.lt)
            clear hv2 GV AV BV x0 x1 x2 x3 y0 y1 y2 y3
            go_wp2
            go_roundw
            case rel => exact ⟨4, by omega, by omega, by rfl, AU.out, BU.out, GU.out⟩
            case measure => simp [intOf]
          · rw [show (((4 : Nat)) : Int) = 4 from rfl]
            go_wp2
            go_roundw
            case rel => exact ⟨3, by omega, by rfl, RKA.out, RKB.out, GK.out⟩
            case measure => simp [intOf]
      · rw [show (((3 : Nat)) : Int) = 3 from rfl]
        go_wp2_with fail
        obtain ⟨wo, rfl⟩ : ∃ wo : World, wo = wr := ⟨_, rfl⟩
        go_loopw [9] (fun i wr => ∃ k0 : Nat, 3 < k0 ∧ k0 ≤ 4 ∧ i = .int .i64 k0 ∧ wr.rowIs w.heap.size 24 4 (cell a) ∧ wr.rowIs (w.heap.size + 1) 24 4 (cell b) ∧ Below w.heap.size w wr) (fun i _ => 4 - (intOf i).toNat)
        case atStart => exact ⟨4, by omega, by omega, by rfl, RAH.out, RBH.out, GH.out⟩
        case round =>
          obtain ⟨k0, hk, hk4, rfl, RA, RB, G⟩ := hrel
          have RKA := Lib.hid RA
          have RKB := Lib.hid RB
          have GK := Lib.hid G
          clear RA RB G RAH RBH GH
          have hc : k0 = 4 := by omega
          clear hk hk4
          obtain rfl := hc
          · rw [show (((4 : Nat)) : Int) = 4 from rfl]
            go_wp2
            go_roundw
            case rel => exact ⟨4, by omega, by rfl, RKA.out, RKB.out, GK.out⟩
            case measure => simp [intOf]
    · obtain rfl : i0 = 4 := by omega
      have A3 := RAH.out
      have B3 := RBH.out
      have L3 := GH
      clear RAH RBH GH hi hlt
      obtain ⟨a3_0, a3_1, a3_2, a3_3⟩ := rowc A3
      have ltA := A3.lt
      obtain ⟨b3_0, b3_1, b3_2, b3_3⟩ := rowc B3
      have ltB := B3.lt
      obtain ⟨w3, rfl⟩ : ∃ w3 : World, w3 = wr := ⟨_, rfl⟩
      go_wp2_with fail
      refine wp_region_quiet_below (by kernel_rfl) (by kernel_rfl) ?_
      obtain ⟨ar_0, ar_1, ar_2, ar_3⟩ := rows4 A3
      obtain ⟨br_0, br_1, br_2, br_3⟩ := rows4 B3
      repeat (go_big_quiet_step (first
        | (go_at_call 21; exact Calls.regrown_of (alive_any _))))
      refine wpQuiet_nil ?_
      intro w4 hw4
      obtain ⟨q, hq⟩ := hw4
      have hb4 : Below w3.heap.size w3 w4 := by
        have h := below_regrown w3 q.d q.os
        have e : w4 = grow (redrawn w3 q.d) q.os := hq
        rw [e]; exact h
      clear hq ar_0 ar_1 ar_2 ar_3 br_0 br_1 br_2 br_3
      have A4 := rowBelow A3 hb4 (by first | (simp; done) | (simp; omega) | exact A3.lt)
      have B4 := rowBelow B3 hb4 (by first | (simp; done) | (simp; omega) | exact B3.lt)
      have L4 := Lib.hid (L3.out.trans (hb4.mono L3.out.size) : Below w.heap.size w w4)
      clear hb4 L3 A3 a3_0 a3_1 a3_2 a3_3 ltA B3 b3_0 b3_1 b3_2 b3_3 ltB
      obtain ⟨a4_0, a4_1, a4_2, a4_3⟩ := rowc A4
      have ltA := A4.lt
      obtain ⟨b4_0, b4_1, b4_2, b4_3⟩ := rowc B4
      have ltB := B4.lt
      go_wp2
      go_ret
      exact ⟨rfl, L4.out⟩

set_option maxHeartbeats 4000000 in
theorem graded_10 (o : Int) (a b : Nat → Int) (w : World) (ha : Small a) (hb : Small b) (hp : 0 < degM a - degM b) (hq : 2 < o) :
    Calls Try.prog 9 #[mvf a, mvf b, .int .u8 o] w fun e w' => e = .returned (.bool true) ∧ Below w.heap.size w w' := by
  have HA := Lib.hid ha
  have HB := Lib.hid hb
  have HX := Lib.hid (boxes w 24 a b)
  have da := degM_bd ha
  have db := degM_bd hb
  have es := IntWalk.i64_in (degM a - degM b) (by omega)
  have E1 := Lib.hid (cmp_deg1 (a := a) (b := b) (by omega))
  have E2 := Lib.hid (cmp_else0 hq a b)
  have hqd : decide (o ≤ 2) = false := by simp; omega
  clear ha hb
  go_enter Try.func9, Try.ntmps9
  go_wp2_with fail
  refine wp_region_quiet_below (by kernel_rfl) (by kernel_rfl) ?_
  obtain ⟨ar_0, ar_1, ar_2, ar_3⟩ := rows4 HX.out.1
  obtain ⟨br_0, br_1, br_2, br_3⟩ := rows4 HX.out.2
  repeat (go_big_quiet_step (first
    | (go_at_call 17; first | (with_reducible exact Calls.regrown_of (degree_any a _ HA.out)) | (with_reducible exact Calls.regrown_of (degree_any b _ HB.out)))))
  refine wpQuiet_nil ?_
  intro w1 hw1
  obtain ⟨q, hq⟩ := hw1
  have hb1 : Below ((w.alloc (.cells (arr4 a) 24)).alloc (.cells (arr4 b) 24)).heap.size ((w.alloc (.cells (arr4 a) 24)).alloc (.cells (arr4 b) 24)) w1 := by
    have h := below_regrown ((w.alloc (.cells (arr4 a) 24)).alloc (.cells (arr4 b) 24)) q.d q.os
    have e : w1 = grow (redrawn ((w.alloc (.cells (arr4 a) 24)).alloc (.cells (arr4 b) 24)) q.d) q.os := hq
    rw [e]; exact h
  clear hq ar_0 ar_1 ar_2 ar_3 br_0 br_1 br_2 br_3
  have A1 := rowBelow HX.out.1 hb1 (by first | (simp; done) | (simp; omega) | exact A0.lt)
  have B1 := rowBelow HX.out.2 hb1 (by first | (simp; done) | (simp; omega) | exact B0.lt)
  have L1 := Lib.hid ((((Below.refl _ _).alloc (by go_size) _).alloc (by go_size) _).trans (hb1.mono (by go_size)) : Below w.heap.size w w1)
  clear hb1
  obtain ⟨a1_0, a1_1, a1_2, a1_3⟩ := rowc A1
  have ltA := A1.lt
  obtain ⟨b1_0, b1_1, b1_2, b1_3⟩ := rowc B1
  have ltB := B1.lt
  go_wp2_with fail
  refine (cmp_as (o := 1) (n := 1) _ HA.out HB.out E1.out.1).mono ?_
  rintro e w2 ⟨rfl, hb2⟩
  have A2 := rowBelow A1 hb2 (by first | (simp; done) | (simp; omega) | exact A1.lt)
  have B2 := rowBelow B1 hb2 (by first | (simp; done) | (simp; omega) | exact B1.lt)
  have L2 := Lib.hid (L1.out.trans (hb2.mono L1.out.size) : Below w.heap.size w w2)
  clear hb2 L1 A1 a1_0 a1_1 a1_2 a1_3 ltA B1 b1_0 b1_1 b1_2 b1_3 ltB
  obtain ⟨a2_0, a2_1, a2_2, a2_3⟩ := rowc A2
  have ltA := A2.lt
  obtain ⟨b2_0, b2_1, b2_2, b2_3⟩ := rowc B2
  have ltB := B2.lt
  go_wp2_with fail
  refine (cmp_as (o := 2) (n := 1) _ HA.out HB.out E1.out.2).mono ?_
  rintro e w3 ⟨rfl, hb3⟩
  have A3 := rowBelow A2 hb3 (by first | (simp; done) | (simp; omega) | exact A2.lt)
  have B3 := rowBelow B2 hb3 (by first | (simp; done) | (simp; omega) | exact B2.lt)
  have L3 := Lib.hid (L2.out.trans (hb3.mono L2.out.size) : Below w.heap.size w w3)
  clear hb3 L2 A2 a2_0 a2_1 a2_2 a2_3 ltA B2 b2_0 b2_1 b2_2 b2_3 ltB
  obtain ⟨a3_0, a3_1, a3_2, a3_3⟩ := rowc A3
  have ltA := A3.lt
  obtain ⟨b3_0, b3_1, b3_2, b3_3⟩ := rowc B3
  have ltB := B3.lt
  go_wp2_with fail
  go_loopw [8] (fun i wr => ∃ i0 : Nat, i0 ≤ 4 ∧ i = .int .i64 i0 ∧ wr.rowIs w.heap.size 24 4 (cell a) ∧ wr.rowIs (w.heap.size + 1) 24 4 (cell b) ∧ Below w.heap.size w wr) (fun i _ => 4 - (intOf i).toNat)
  case atStart => exact ⟨0, by omega, rfl, A3, B3, L3.out⟩
  case round =>
    obtain ⟨i0, hi, rfl, RA, RB, G⟩ := hrel
    clear L3 A3 a3_0 a3_1 a3_2 a3_3 ltA B3 b3_0 b3_1 b3_2 b3_3 ltB es
    have RAH := Lib.hid RA
    have RBH := Lib.hid RB
    have GH := Lib.hid G
    clear RA RB G
    by_cases hlt : i0 < 4
    · have hc : i0 = 0 ∨ i0 = 1 ∨ i0 = 2 ∨ i0 = 3 := by omega
      clear hlt hi
      rcases hc with rfl | rfl | rfl | rfl
      · rw [show (((0 : Nat)) : Int) = 0 from rfl]
        go_wp2_with fail
        obtain ⟨wo, rfl⟩ : ∃ wo : World, wo = wr := ⟨_, rfl⟩
        go_loopw [9] (fun i wr => ∃ k0 : Nat, 0 < k0 ∧ k0 ≤ 4 ∧ i = .int .i64 k0 ∧ wr.rowIs w.heap.size 24 4 (cell a) ∧ wr.rowIs (w.heap.size + 1) 24 4 (cell b) ∧ Below w.heap.size w wr) (fun i _ => 4 - (intOf i).toNat)
        case atStart => exact ⟨1, by omega, by omega, by rfl, RAH.out, RBH.out, GH.out⟩
        case round =>
          obtain ⟨k0, hk, hk4, rfl, RA, RB, G⟩ := hrel
          have RKA := Lib.hid RA
          have RKB := Lib.hid RB
          have GK := Lib.hid G
          clear RA RB G RAH RBH GH
          have hc : k0 = 1 ∨ k0 = 2 ∨ k0 = 3 ∨ k0 = 4 := by omega
          clear hk hk4
          rcases hc with rfl | rfl | rfl | rfl
          · rw [show (((1 : Nat)) : Int) = 1 from rfl]
            have c1 := Lib.hid (cmp_unit (o := o) (i := 0) (k := 1) (by omega) (by omega))
            have c2 := Lib.hid (show cmpM o (unitM 1) (unitM 0) = -1 by rw [cmp_swap (unit_small 0) (unit_small 1), c1.out])
            go_wp2_with fail
            refine (cmp_as (o := o) (a := unitM 0) (b := unitM 1) (n := 1) _ (unit_small 0) (unit_small 1) c1.out).mono ?_
            rintro e v1 ⟨rfl, hv1⟩
            have GV := Lib.hid ((GK.out.alloc GK.out.size _ |>.alloc (by have := GK.out.size; simp; omega) _).trans (hv1.mono (by have := GK.out.size; simp; omega)) : Below w.heap.size w v1)
            have X1 := rowBelow (boxes wr 24 (unitM 0) (unitM 1)).1 hv1 (by simp; omega)
            have Y1 := rowBelow (boxes wr 24 (unitM 0) (unitM 1)).2 hv1 (by simp)
            have AV := Lib.hid (rowBelow (RKA.out.alloc (.cells (arr4 (unitM 0)) 24) |>.alloc (.cells (arr4 (unitM 1)) 24)) hv1 (by have := RKA.out.lt; simp; omega))
            have BV := Lib.hid (rowBelow (RKB.out.alloc (.cells (arr4 (unitM 0)) 24) |>.alloc (.cells (arr4 (unitM 1)) 24)) hv1 (by have := RKB.out.lt; simp; omega))
            obtain ⟨x0, x1, x2, x3⟩ := rowc X1
            obtain ⟨y0, y1, y2, y3⟩ := rowc Y1
            clear hv1 X1 Y1 RKA RKB GK
            go_wp2_with fail
            refine (cmp_as (o := o) (a := unitM 1) (b := unitM 0) (n := -1) _ (unit_small 1) (unit_small 0) c2.out).mono ?_
            rintro e v2 ⟨rfl, hv2⟩
            have GU := Lib.hid (GV.out.trans (hv2.mono GV.out.size) : Below w.heap.size w v2)
            have AU := Lib.hid (rowBelow AV.out hv2 AV.out.lt)
            have BU := Lib.hid (rowBelow BV.out hv2 BV.out.lt)
            clear hv2 GV AV BV x0 x1 x2 x3 y0 y1 y2 y3
            go_wp2
            go_roundw
            case rel => exact ⟨2, by omega, by omega, by rfl, AU.out, BU.out, GU.out⟩
            case measure => simp [intOf]
          · rw [show (((2 : Nat)) : Int) = 2 from rfl]
            have c1 := Lib.hid (cmp_unit (o := o) (i := 0) (k := 2) (by omega) (by omega))
            have c2 := Lib.hid (show cmpM o (unitM 2) (unitM 0) = -1 by rw [cmp_swap (unit_small 0) (unit_small 2), c1.out])
            go_wp2_with fail
            refine (cmp_as (o := o) (a := unitM 0) (b := unitM 2) (n := 1) _ (unit_small 0) (unit_small 2) c1.out).mono ?_
            rintro e v1 ⟨rfl, hv1⟩
            have GV := Lib.hid ((GK.out.alloc GK.out.size _ |>.alloc (by have := GK.out.size; simp; omega) _).trans (hv1.mono (by have := GK.out.size; simp; omega)) : Below w.heap.size w v1)
            have X1 := rowBelow (boxes wr 24 (unitM 0) (unitM 2)).1 hv1 (by simp; omega)
            have Y1 := rowBelow (boxes wr 24 (unitM 0) (unitM 2)).2 hv1 (by simp)
            have AV := Lib.hid (rowBelow (RKA.out.alloc (.cells (arr4 (unitM 0)) 24) |>.alloc (.cells (arr4 (unitM 2)) 24)) hv1 (by have := RKA.out.lt; simp; omega))
            have BV := Lib.hid (rowBelow (RKB.out.alloc (.cells (arr4 (unitM 0)) 24) |>.alloc (.cells (arr4 (unitM 2)) 24)) hv1 (by have := RKB.out.lt; simp; omega))
            obtain ⟨x0, x1, x2, x3⟩ := rowc X1
            obtain ⟨y0, y1, y2, y3⟩ := rowc Y1
            clear hv1 X1 Y1 RKA RKB GK
            go_wp2_with fail
            refine (cmp_as (o := o) (a := unitM 2) (b := unitM 0) (n := -1) _ (unit_small 2) (unit_small 0) c2.out).mono ?_
            rintro e v2 ⟨rfl, hv2⟩
            have GU := Lib.hid (GV.out.trans (hv2.mono GV.out.size) : Below w.heap.size w v2)
            have AU := Lib.hid (rowBelow AV.out hv2 AV.out.lt)
            have BU := Lib.hid (rowBelow BV.out hv2 BV.out.lt)
            clear hv2 GV AV BV x0 x1 x2 x3 y0 y1 y2 y3
            go_wp2
            go_roundw
            case rel => exact ⟨3, by omega, by omega, by rfl, AU.out, BU.out, GU.out⟩
            case measure => simp [intOf]
          · rw [show (((3 : Nat)) : Int) = 3 from rfl]
            have c1 := Lib.hid (cmp_unit (o := o) (i := 0) (k := 3) (by omega) (by omega))
            have c2 := Lib.hid (show cmpM o (unitM 3) (unitM 0) = -1 by rw [cmp_swap (unit_small 0) (unit_small 3), c1.out])
            go_wp2_with fail
            refine (cmp_as (o := o) (a := unitM 0) (b := unitM 3) (n := 1) _ (unit_small 0) (unit_small 3) c1.out).mono ?_
            rintro e v1 ⟨rfl, hv1⟩
            have GV := Lib.hid ((GK.out.alloc GK.out.size _ |>.alloc (by have := GK.out.size; simp; omega) _).trans (hv1.mono (by have := GK.out.size; simp; omega)) : Below w.heap.size w v1)
            have X1 := rowBelow (boxes wr 24 (unitM 0) (unitM 3)).1 hv1 (by simp; omega)
            have Y1 := rowBelow (boxes wr 24 (unitM 0) (unitM 3)).2 hv1 (by simp)
            have AV := Lib.hid (rowBelow (RKA.out.alloc (.cells (arr4 (unitM 0)) 24) |>.alloc (.cells (arr4 (unitM 3)) 24)) hv1 (by have := RKA.out.lt; simp; omega))
            have BV := Lib.hid (rowBelow (RKB.out.alloc (.cells (arr4 (unitM 0)) 24) |>.alloc (.cells (arr4 (unitM 3)) 24)) hv1 (by have := RKB.out.lt; simp; omega))
            obtain ⟨x0, x1, x2, x3⟩ := rowc X1
            obtain ⟨y0, y1, y2, y3⟩ := rowc Y1
            clear hv1 X1 Y1 RKA RKB GK
            go_wp2_with fail
            refine (cmp_as (o := o) (a := unitM 3) (b := unitM 0) (n := -1) _ (unit_small 3) (unit_small 0) c2.out).mono ?_
            rintro e v2 ⟨rfl, hv2⟩
            have GU := Lib.hid (GV.out.trans (hv2.mono GV.out.size) : Below w.heap.size w v2)
            have AU := Lib.hid (rowBelow AV.out hv2 AV.out.lt)
            have BU := Lib.hid (rowBelow BV.out hv2 BV.out.lt)
            clear hv2 GV AV BV x0 x1 x2 x3 y0 y1 y2 y3
            go_wp2
            go_roundw
            case rel => exact ⟨4, by omega, by omega, by rfl, AU.out, BU.out, GU.out⟩
            case measure => simp [intOf]
          · rw [show (((4 : Nat)) : Int) = 4 from rfl]
            go_wp2
            go_roundw
            case rel => exact ⟨1, by omega, by rfl, RKA.out, RKB.out, GK.out⟩
            case measure => simp [intOf]
      · rw [show (((1 : Nat)) : Int) = 1 from rfl]
        go_wp2_with fail
        obtain ⟨wo, rfl⟩ : ∃ wo : World, wo = wr := ⟨_, rfl⟩
        go_loopw [9] (fun i wr => ∃ k0 : Nat, 1 < k0 ∧ k0 ≤ 4 ∧ i = .int .i64 k0 ∧ wr.rowIs w.heap.size 24 4 (cell a) ∧ wr.rowIs (w.heap.size + 1) 24 4 (cell b) ∧ Below w.heap.size w wr) (fun i _ => 4 - (intOf i).toNat)
        case atStart => exact ⟨2, by omega, by omega, by rfl, RAH.out, RBH.out, GH.out⟩
        case round =>
          obtain ⟨k0, hk, hk4, rfl, RA, RB, G⟩ := hrel
          have RKA := Lib.hid RA
          have RKB := Lib.hid RB
          have GK := Lib.hid G
          clear RA RB G RAH RBH GH
          have hc : k0 = 2 ∨ k0 = 3 ∨ k0 = 4 := by omega
          clear hk hk4
          rcases hc with rfl | rfl | rfl
          · rw [show (((2 : Nat)) : Int) = 2 from rfl]
            have c1 := Lib.hid (cmp_unit (o := o) (i := 1) (k := 2) (by omega) (by omega))
            have c2 := Lib.hid (show cmpM o (unitM 2) (unitM 1) = -1 by rw [cmp_swap (unit_small 1) (unit_small 2), c1.out])
            go_wp2_with fail
            refine (cmp_as (o := o) (a := unitM 1) (b := unitM 2) (n := 1) _ (unit_small 1) (unit_small 2) c1.out).mono ?_
            rintro e v1 ⟨rfl, hv1⟩
            have GV := Lib.hid ((GK.out.alloc GK.out.size _ |>.alloc (by have := GK.out.size; simp; omega) _).trans (hv1.mono (by have := GK.out.size; simp; omega)) : Below w.heap.size w v1)
            have X1 := rowBelow (boxes wr 24 (unitM 1) (unitM 2)).1 hv1 (by simp; omega)
            have Y1 := rowBelow (boxes wr 24 (unitM 1) (unitM 2)).2 hv1 (by simp)
            have AV := Lib.hid (rowBelow (RKA.out.alloc (.cells (arr4 (unitM 1)) 24) |>.alloc (.cells (arr4 (unitM 2)) 24)) hv1 (by have := RKA.out.lt; simp; omega))
            have BV := Lib.hid (rowBelow (RKB.out.alloc (.cells (arr4 (unitM 1)) 24) |>.alloc (.cells (arr4 (unitM 2)) 24)) hv1 (by have := RKB.out.lt; simp; omega))
            obtain ⟨x0, x1, x2, x3⟩ := rowc X1
            obtain ⟨y0, y1, y2, y3⟩ := rowc Y1
            clear hv1 X1 Y1 RKA RKB GK
            go_wp2_with fail
            refine (cmp_as (o := o) (a := unitM 2) (b := unitM 1) (n := -1) _ (unit_small 2) (unit_small 1) c2.out).mono ?_
            rintro e v2 ⟨rfl, hv2⟩
            have GU := Lib.hid (GV.out.trans (hv2.mono GV.out.size) : Below w.heap.size w v2)
            have AU := Lib.hid (rowBelow AV.out hv2 AV.out.lt)
            have BU := Lib.hid (rowBelow BV.out hv2 BV.out.lt)
            clear hv2 GV AV BV x0 x1 x2 x3 y0 y1 y2 y3
            go_wp2
            go_roundw
            case rel => exact ⟨3, by omega, by omega, by rfl, AU.out, BU.out, GU.out⟩
            case measure => simp [intOf]
          · rw [show (((3 : Nat)) : Int) = 3 from rfl]
            have c1 := Lib.hid (cmp_unit (o := o) (i := 1) (k := 3) (by omega) (by omega))
            have c2 := Lib.hid (show cmpM o (unitM 3) (unitM 1) = -1 by rw [cmp_swap (unit_small 1) (unit_small 3), c1.out])
            go_wp2_with fail
            refine (cmp_as (o := o) (a := unitM 1) (b := unitM 3) (n := 1) _ (unit_small 1) (unit_small 3) c1.out).mono ?_
            rintro e v1 ⟨rfl, hv1⟩
            have GV := Lib.hid ((GK.out.alloc GK.out.size _ |>.alloc (by have := GK.out.size; simp; omega) _).trans (hv1.mono (by have := GK.out.size; simp; omega)) : Below w.heap.size w v1)
            have X1 := rowBelow (boxes wr 24 (unitM 1) (unitM 3)).1 hv1 (by simp; omega)
            have Y1 := rowBelow (boxes wr 24 (unitM 1) (unitM 3)).2 hv1 (by simp)
            have AV := Lib.hid (rowBelow (RKA.out.alloc (.cells (arr4 (unitM 1)) 24) |>.alloc (.cells (arr4 (unitM 3)) 24)) hv1 (by have := RKA.out.lt; simp; omega))
            have BV := Lib.hid (rowBelow (RKB.out.alloc (.cells (arr4 (unitM 1)) 24) |>.alloc (.cells (arr4 (unitM 3)) 24)) hv1 (by have := RKB.out.lt; simp; omega))
            obtain ⟨x0, x1, x2, x3⟩ := rowc X1
            obtain ⟨y0, y1, y2, y3⟩ := rowc Y1
            clear hv1 X1 Y1 RKA RKB GK
            go_wp2_with fail
            refine (cmp_as (o := o) (a := unitM 3) (b := unitM 1) (n := -1) _ (unit_small 3) (unit_small 1) c2.out).mono ?_
            rintro e v2 ⟨rfl, hv2⟩
            have GU := Lib.hid (GV.out.trans (hv2.mono GV.out.size) : Below w.heap.size w v2)
            have AU := Lib.hid (rowBelow AV.out hv2 AV.out.lt)
            have BU := Lib.hid (rowBelow BV.out hv2 BV.out.lt)
            clear hv2 GV AV BV x0 x1 x2 x3 y0 y1 y2 y3
            go_wp2
            go_roundw
            case rel => exact ⟨4, by omega, by omega, by rfl, AU.out, BU.out, GU.out⟩
            case measure => simp [intOf]
          · rw [show (((4 : Nat)) : Int) = 4 from rfl]
            go_wp2
            go_roundw
            case rel => exact ⟨2, by omega, by rfl, RKA.out, RKB.out, GK.out⟩
            case measure => simp [intOf]
      · rw [show (((2 : Nat)) : Int) = 2 from rfl]
        go_wp2_with fail
        obtain ⟨wo, rfl⟩ : ∃ wo : World, wo = wr := ⟨_, rfl⟩
        go_loopw [9] (fun i wr => ∃ k0 : Nat, 2 < k0 ∧ k0 ≤ 4 ∧ i = .int .i64 k0 ∧ wr.rowIs w.heap.size 24 4 (cell a) ∧ wr.rowIs (w.heap.size + 1) 24 4 (cell b) ∧ Below w.heap.size w wr) (fun i _ => 4 - (intOf i).toNat)
        case atStart => exact ⟨3, by omega, by omega, by rfl, RAH.out, RBH.out, GH.out⟩
        case round =>
          obtain ⟨k0, hk, hk4, rfl, RA, RB, G⟩ := hrel
          have RKA := Lib.hid RA
          have RKB := Lib.hid RB
          have GK := Lib.hid G
          clear RA RB G RAH RBH GH
          have hc : k0 = 3 ∨ k0 = 4 := by omega
          clear hk hk4
          rcases hc with rfl | rfl
          · rw [show (((3 : Nat)) : Int) = 3 from rfl]
            have c1 := Lib.hid (cmp_unit (o := o) (i := 2) (k := 3) (by omega) (by omega))
            have c2 := Lib.hid (show cmpM o (unitM 3) (unitM 2) = -1 by rw [cmp_swap (unit_small 2) (unit_small 3), c1.out])
            go_wp2_with fail
            refine (cmp_as (o := o) (a := unitM 2) (b := unitM 3) (n := 1) _ (unit_small 2) (unit_small 3) c1.out).mono ?_
            rintro e v1 ⟨rfl, hv1⟩
            have GV := Lib.hid ((GK.out.alloc GK.out.size _ |>.alloc (by have := GK.out.size; simp; omega) _).trans (hv1.mono (by have := GK.out.size; simp; omega)) : Below w.heap.size w v1)
            have X1 := rowBelow (boxes wr 24 (unitM 2) (unitM 3)).1 hv1 (by simp; omega)
            have Y1 := rowBelow (boxes wr 24 (unitM 2) (unitM 3)).2 hv1 (by simp)
            have AV := Lib.hid (rowBelow (RKA.out.alloc (.cells (arr4 (unitM 2)) 24) |>.alloc (.cells (arr4 (unitM 3)) 24)) hv1 (by have := RKA.out.lt; simp; omega))
            have BV := Lib.hid (rowBelow (RKB.out.alloc (.cells (arr4 (unitM 2)) 24) |>.alloc (.cells (arr4 (unitM 3)) 24)) hv1 (by have := RKB.out.lt; simp; omega))
            obtain ⟨x0, x1, x2, x3⟩ := rowc X1
            obtain ⟨y0, y1, y2, y3⟩ := rowc Y1
            clear hv1 X1 Y1 RKA RKB GK
            go_wp2_with fail
            refine (cmp_as (o := o) (a := unitM 3) (b := unitM 2) (n := -1) _ (unit_small 3) (unit_small 2) c2.out).mono ?_
            rintro e v2 ⟨rfl, hv2⟩
            have GU := Lib.hid (GV.out.trans (hv2.mono GV.out.size) : Below w.heap.size w v2)
            have AU := Lib.hid (rowBelow AV.out hv2 AV.out.lt)
            have BU := Lib.hid (rowBelow BV.out hv2 BV.out.lt)
            clear hv2 GV AV BV x0 x1 x2 x3 y0 y1 y2 y3
            go_wp2
            go_roundw
            case rel => exact ⟨4, by omega, by omega, by rfl, AU.out, BU.out, GU.out⟩
            case measure => simp [intOf]
          · rw [show (((4 : Nat)) : Int) = 4 from rfl]
            go_wp2
            go_roundw
            case rel => exact ⟨3, by omega, by rfl, RKA.out, RKB.out, GK.out⟩
            case measure => simp [intOf]
      · rw [show (((3 : Nat)) : Int) = 3 from rfl]
        go_wp2_with fail
        obtain ⟨wo, rfl⟩ : ∃ wo : World, wo = wr := ⟨_, rfl⟩
        go_loopw [9] (fun i wr => ∃ k0 : Nat, 3 < k0 ∧ k0 ≤ 4 ∧ i = .int .i64 k0 ∧ wr.rowIs w.heap.size 24 4 (cell a) ∧ wr.rowIs (w.heap.size + 1) 24 4 (cell b) ∧ Below w.heap.size w wr) (fun i _ => 4 - (intOf i).toNat)
        case atStart => exact ⟨4, by omega, by omega, by rfl, RAH.out, RBH.out, GH.out⟩
        case round =>
          obtain ⟨k0, hk, hk4, rfl, RA, RB, G⟩ := hrel
          have RKA := Lib.hid RA
          have RKB := Lib.hid RB
          have GK := Lib.hid G
          clear RA RB G RAH RBH GH
          have hc : k0 = 4 := by omega
          clear hk hk4
          obtain rfl := hc
          · rw [show (((4 : Nat)) : Int) = 4 from rfl]
            go_wp2
            go_roundw
            case rel => exact ⟨4, by omega, by rfl, RKA.out, RKB.out, GK.out⟩
            case measure => simp [intOf]
    · obtain rfl : i0 = 4 := by omega
      have A3 := RAH.out
      have B3 := RBH.out
      have L3 := GH
      clear RAH RBH GH hi hlt
      obtain ⟨a3_0, a3_1, a3_2, a3_3⟩ := rowc A3
      have ltA := A3.lt
      obtain ⟨b3_0, b3_1, b3_2, b3_3⟩ := rowc B3
      have ltB := B3.lt
      obtain ⟨w3, rfl⟩ : ∃ w3 : World, w3 = wr := ⟨_, rfl⟩
      go_wp2_with fail
      refine wp_region_quiet_below (by kernel_rfl) (by kernel_rfl) ?_
      obtain ⟨ar_0, ar_1, ar_2, ar_3⟩ := rows4 A3
      obtain ⟨br_0, br_1, br_2, br_3⟩ := rows4 B3
      repeat (go_big_quiet_step (first
        | (go_at_call 21; exact Calls.regrown_of (alive_any _))
        | (go_at_call 19; first | (with_reducible exact Calls.regrown_of (cmp_as (o := o) (a := a) (b := b) (n := cmpM 0 a b) _ HA.out HB.out E2.out)) | (with_reducible exact Calls.regrown_of (cmp_any 0 a b _ HA.out HB.out)))))
      refine wpQuiet_nil ?_
      intro w4 hw4
      obtain ⟨q, hq⟩ := hw4
      have hb4 : Below w3.heap.size w3 w4 := by
        have h := below_regrown w3 q.d q.os
        have e : w4 = grow (redrawn w3 q.d) q.os := hq
        rw [e]; exact h
      clear hq ar_0 ar_1 ar_2 ar_3 br_0 br_1 br_2 br_3
      have A4 := rowBelow A3 hb4 (by first | (simp; done) | (simp; omega) | exact A3.lt)
      have B4 := rowBelow B3 hb4 (by first | (simp; done) | (simp; omega) | exact B3.lt)
      have L4 := Lib.hid (L3.out.trans (hb4.mono L3.out.size) : Below w.heap.size w w4)
      clear hb4 L3 A3 a3_0 a3_1 a3_2 a3_3 ltA B3 b3_0 b3_1 b3_2 b3_3 ltB
      obtain ⟨a4_0, a4_1, a4_2, a4_3⟩ := rowc A4
      have ltA := A4.lt
      obtain ⟨b4_0, b4_1, b4_2, b4_3⟩ := rowc B4
      have ltB := B4.lt
      go_wp2
      go_ret
      exact ⟨rfl, L4.out⟩

set_option maxHeartbeats 4000000 in
theorem graded_01 (o : Int) (a b : Nat → Int) (w : World) (ha : Small a) (hb : Small b) (hp : degM a - degM b ≤ 0) (hq : o ≤ 2) :
    Calls Try.prog 9 #[mvf a, mvf b, .int .u8 o] w fun e w' => e = .returned (.bool true) ∧ Below w.heap.size w w' := by
  have HA := Lib.hid ha
  have HB := Lib.hid hb
  have HX := Lib.hid (boxes w 24 a b)
  have da := degM_bd ha
  have db := degM_bd hb
  have es := IntWalk.i64_in (degM a - degM b) (by omega)
  clear ha hb
  go_enter Try.func9, Try.ntmps9
  go_wp2_with fail
  refine wp_region_quiet_below (by kernel_rfl) (by kernel_rfl) ?_
  obtain ⟨ar_0, ar_1, ar_2, ar_3⟩ := rows4 HX.out.1
  obtain ⟨br_0, br_1, br_2, br_3⟩ := rows4 HX.out.2
  repeat (go_big_quiet_step (first
    | (go_at_call 17; first | (with_reducible exact Calls.regrown_of (degree_any a _ HA.out)) | (with_reducible exact Calls.regrown_of (degree_any b _ HB.out)))))
  refine wpQuiet_nil ?_
  intro w1 hw1
  obtain ⟨q, hq⟩ := hw1
  have hb1 : Below ((w.alloc (.cells (arr4 a) 24)).alloc (.cells (arr4 b) 24)).heap.size ((w.alloc (.cells (arr4 a) 24)).alloc (.cells (arr4 b) 24)) w1 := by
    have h := below_regrown ((w.alloc (.cells (arr4 a) 24)).alloc (.cells (arr4 b) 24)) q.d q.os
    have e : w1 = grow (redrawn ((w.alloc (.cells (arr4 a) 24)).alloc (.cells (arr4 b) 24)) q.d) q.os := hq
    rw [e]; exact h
  clear hq ar_0 ar_1 ar_2 ar_3 br_0 br_1 br_2 br_3
  have A1 := rowBelow HX.out.1 hb1 (by first | (simp; done) | (simp; omega) | exact A0.lt)
  have B1 := rowBelow HX.out.2 hb1 (by first | (simp; done) | (simp; omega) | exact B0.lt)
  have L1 := Lib.hid ((((Below.refl _ _).alloc (by go_size) _).alloc (by go_size) _).trans (hb1.mono (by go_size)) : Below w.heap.size w w1)
  clear hb1
  obtain ⟨a1_0, a1_1, a1_2, a1_3⟩ := rowc A1
  have ltA := A1.lt
  obtain ⟨b1_0, b1_1, b1_2, b1_3⟩ := rowc B1
  have ltB := B1.lt
  go_wp2_with fail
  go_loopw [8] (fun i wr => ∃ i0 : Nat, i0 ≤ 4 ∧ i = .int .i64 i0 ∧ wr.rowIs w.heap.size 24 4 (cell a) ∧ wr.rowIs (w.heap.size + 1) 24 4 (cell b) ∧ Below w.heap.size w wr) (fun i _ => 4 - (intOf i).toNat)
  case atStart => exact ⟨0, by omega, rfl, A1, B1, L1.out⟩
  case round =>
    obtain ⟨i0, hi, rfl, RA, RB, G⟩ := hrel
    clear L1 A1 a1_0 a1_1 a1_2 a1_3 ltA B1 b1_0 b1_1 b1_2 b1_3 ltB es
    have RAH := Lib.hid RA
    have RBH := Lib.hid RB
    have GH := Lib.hid G
    clear RA RB G
    by_cases hlt : i0 < 4
    · have hc : i0 = 0 ∨ i0 = 1 ∨ i0 = 2 ∨ i0 = 3 := by omega
      clear hlt hi
      rcases hc with rfl | rfl | rfl | rfl
      · rw [show (((0 : Nat)) : Int) = 0 from rfl]
        go_wp2_with fail
        obtain ⟨wo, rfl⟩ : ∃ wo : World, wo = wr := ⟨_, rfl⟩
        go_loopw [9] (fun i wr => ∃ k0 : Nat, 0 < k0 ∧ k0 ≤ 4 ∧ i = .int .i64 k0 ∧ wr.rowIs w.heap.size 24 4 (cell a) ∧ wr.rowIs (w.heap.size + 1) 24 4 (cell b) ∧ Below w.heap.size w wr) (fun i _ => 4 - (intOf i).toNat)
        case atStart => exact ⟨1, by omega, by omega, by rfl, RAH.out, RBH.out, GH.out⟩
        case round =>
          obtain ⟨k0, hk, hk4, rfl, RA, RB, G⟩ := hrel
          have RKA := Lib.hid RA
          have RKB := Lib.hid RB
          have GK := Lib.hid G
          clear RA RB G RAH RBH GH
          have hc : k0 = 1 ∨ k0 = 2 ∨ k0 = 3 ∨ k0 = 4 := by omega
          clear hk hk4
          rcases hc with rfl | rfl | rfl | rfl
          · rw [show (((1 : Nat)) : Int) = 1 from rfl]
            have c1 := Lib.hid (cmp_unit (o := o) (i := 0) (k := 1) (by omega) (by omega))
            have c2 := Lib.hid (show cmpM o (unitM 1) (unitM 0) = -1 by rw [cmp_swap (unit_small 0) (unit_small 1), c1.out])
            go_wp2_with fail
            refine (cmp_as (o := o) (a := unitM 0) (b := unitM 1) (n := 1) _ (unit_small 0) (unit_small 1) c1.out).mono ?_
            rintro e v1 ⟨rfl, hv1⟩
            have GV := Lib.hid ((GK.out.alloc GK.out.size _ |>.alloc (by have := GK.out.size; simp; omega) _).trans (hv1.mono (by have := GK.out.size; simp; omega)) : Below w.heap.size w v1)
            have X1 := rowBelow (boxes wr 24 (unitM 0) (unitM 1)).1 hv1 (by simp; omega)
            have Y1 := rowBelow (boxes wr 24 (unitM 0) (unitM 1)).2 hv1 (by simp)
            have AV := Lib.hid (rowBelow (RKA.out.alloc (.cells (arr4 (unitM 0)) 24) |>.alloc (.cells (arr4 (unitM 1)) 24)) hv1 (by have := RKA.out.lt; simp; omega))
            have BV := Lib.hid (rowBelow (RKB.out.alloc (.cells (arr4 (unitM 0)) 24) |>.alloc (.cells (arr4 (unitM 1)) 24)) hv1 (by have := RKB.out.lt; simp; omega))
            obtain ⟨x0, x1, x2, x3⟩ := rowc X1
            obtain ⟨y0, y1, y2, y3⟩ := rowc Y1
            clear hv1 X1 Y1 RKA RKB GK
            go_wp2_with fail
            refine (cmp_as (o := o) (a := unitM 1) (b := unitM 0) (n := -1) _ (unit_small 1) (unit_small 0) c2.out).mono ?_
            rintro e v2 ⟨rfl, hv2⟩
            have GU := Lib.hid (GV.out.trans (hv2.mono GV.out.size) : Below w.heap.size w v2)
            have AU := Lib.hid (rowBelow AV.out hv2 AV.out.lt)
            have BU := Lib.hid (rowBelow BV.out hv2 BV.out.lt)
            clear hv2 GV AV BV x0 x1 x2 x3 y0 y1 y2 y3
            go_wp2
            go_roundw
            case rel => exact ⟨2, by omega, by omega, by rfl, AU.out, BU.out, GU.out⟩
            case measure => simp [intOf]
          · rw [show (((2 : Nat)) : Int) = 2 from rfl]
            have c1 := Lib.hid (cmp_unit (o := o) (i := 0) (k := 2) (by omega) (by omega))
            have c2 := Lib.hid (show cmpM o (unitM 2) (unitM 0) = -1 by rw [cmp_swap (unit_small 0) (unit_small 2), c1.out])
            go_wp2_with fail
            refine (cmp_as (o := o) (a := unitM 0) (b := unitM 2) (n := 1) _ (unit_small 0) (unit_small 2) c1.out).mono ?_
            rintro e v1 ⟨rfl, hv1⟩
            have GV := Lib.hid ((GK.out.alloc GK.out.size _ |>.alloc (by have := GK.out.size; simp; omega) _).trans (hv1.mono (by have := GK.out.size; simp; omega)) : Below w.heap.size w v1)
            have X1 := rowBelow (boxes wr 24 (unitM 0) (unitM 2)).1 hv1 (by simp; omega)
            have Y1 := rowBelow (boxes wr 24 (unitM 0) (unitM 2)).2 hv1 (by simp)
            have AV := Lib.hid (rowBelow (RKA.out.alloc (.cells (arr4 (unitM 0)) 24) |>.alloc (.cells (arr4 (unitM 2)) 24)) hv1 (by have := RKA.out.lt; simp; omega))
            have BV := Lib.hid (rowBelow (RKB.out.alloc (.cells (arr4 (unitM 0)) 24) |>.alloc (.cells (arr4 (unitM 2)) 24)) hv1 (by have := RKB.out.lt; simp; omega))
            obtain ⟨x0, x1, x2, x3⟩ := rowc X1
            obtain ⟨y0, y1, y2, y3⟩ := rowc Y1
            clear hv1 X1 Y1 RKA RKB GK
            go_wp2_with fail
            refine (cmp_as (o := o) (a := unitM 2) (b := unitM 0) (n := -1) _ (unit_small 2) (unit_small 0) c2.out).mono ?_
            rintro e v2 ⟨rfl, hv2⟩
            have GU := Lib.hid (GV.out.trans (hv2.mono GV.out.size) : Below w.heap.size w v2)
            have AU := Lib.hid (rowBelow AV.out hv2 AV.out.lt)
            have BU := Lib.hid (rowBelow BV.out hv2 BV.out.lt)
            clear hv2 GV AV BV x0 x1 x2 x3 y0 y1 y2 y3
            go_wp2
            go_roundw
            case rel => exact ⟨3, by omega, by omega, by rfl, AU.out, BU.out, GU.out⟩
            case measure => simp [intOf]
          · rw [show (((3 : Nat)) : Int) = 3 from rfl]
            have c1 := Lib.hid (cmp_unit (o := o) (i := 0) (k := 3) (by omega) (by omega))
            have c2 := Lib.hid (show cmpM o (unitM 3) (unitM 0) = -1 by rw [cmp_swap (unit_small 0) (unit_small 3), c1.out])
            go_wp2_with fail
            refine (cmp_as (o := o) (a := unitM 0) (b := unitM 3) (n := 1) _ (unit_small 0) (unit_small 3) c1.out).mono ?_
            rintro e v1 ⟨rfl, hv1⟩
            have GV := Lib.hid ((GK.out.alloc GK.out.size _ |>.alloc (by have := GK.out.size; simp; omega) _).trans (hv1.mono (by have := GK.out.size; simp; omega)) : Below w.heap.size w v1)
            have X1 := rowBelow (boxes wr 24 (unitM 0) (unitM 3)).1 hv1 (by simp; omega)
            have Y1 := rowBelow (boxes wr 24 (unitM 0) (unitM 3)).2 hv1 (by simp)
            have AV := Lib.hid (rowBelow (RKA.out.alloc (.cells (arr4 (unitM 0)) 24) |>.alloc (.cells (arr4 (unitM 3)) 24)) hv1 (by have := RKA.out.lt; simp; omega))
            have BV := Lib.hid (rowBelow (RKB.out.alloc (.cells (arr4 (unitM 0)) 24) |>.alloc (.cells (arr4 (unitM 3)) 24)) hv1 (by have := RKB.out.lt; simp; omega))
            obtain ⟨x0, x1, x2, x3⟩ := rowc X1
            obtain ⟨y0, y1, y2, y3⟩ := rowc Y1
            clear hv1 X1 Y1 RKA RKB GK
            go_wp2_with fail
            refine (cmp_as (o := o) (a := unitM 3) (b := unitM 0) (n := -1) _ (unit_small 3) (unit_small 0) c2.out).mono ?_
            rintro e v2 ⟨rfl, hv2⟩
            have GU := Lib.hid (GV.out.trans (hv2.mono GV.out.size) : Below w.heap.size w v2)
            have AU := Lib.hid (rowBelow AV.out hv2 AV.out.lt)
            have BU := Lib.hid (rowBelow BV.out hv2 BV.out.lt)
            clear hv2 GV AV BV x0 x1 x2 x3 y0 y1 y2 y3
            go_wp2
            go_roundw
            case rel => exact ⟨4, by omega, by omega, by rfl, AU.out, BU.out, GU.out⟩
            case measure => simp [intOf]
          · rw [show (((4 : Nat)) : Int) = 4 from rfl]
            go_wp2
            go_roundw
            case rel => exact ⟨1, by omega, by rfl, RKA.out, RKB.out, GK.out⟩
            case measure => simp [intOf]
      · rw [show (((1 : Nat)) : Int) = 1 from rfl]
        go_wp2_with fail
        obtain ⟨wo, rfl⟩ : ∃ wo : World, wo = wr := ⟨_, rfl⟩
        go_loopw [9] (fun i wr => ∃ k0 : Nat, 1 < k0 ∧ k0 ≤ 4 ∧ i = .int .i64 k0 ∧ wr.rowIs w.heap.size 24 4 (cell a) ∧ wr.rowIs (w.heap.size + 1) 24 4 (cell b) ∧ Below w.heap.size w wr) (fun i _ => 4 - (intOf i).toNat)
        case atStart => exact ⟨2, by omega, by omega, by rfl, RAH.out, RBH.out, GH.out⟩
        case round =>
          obtain ⟨k0, hk, hk4, rfl, RA, RB, G⟩ := hrel
          have RKA := Lib.hid RA
          have RKB := Lib.hid RB
          have GK := Lib.hid G
          clear RA RB G RAH RBH GH
          have hc : k0 = 2 ∨ k0 = 3 ∨ k0 = 4 := by omega
          clear hk hk4
          rcases hc with rfl | rfl | rfl
          · rw [show (((2 : Nat)) : Int) = 2 from rfl]
            have c1 := Lib.hid (cmp_unit (o := o) (i := 1) (k := 2) (by omega) (by omega))
            have c2 := Lib.hid (show cmpM o (unitM 2) (unitM 1) = -1 by rw [cmp_swap (unit_small 1) (unit_small 2), c1.out])
            go_wp2_with fail
            refine (cmp_as (o := o) (a := unitM 1) (b := unitM 2) (n := 1) _ (unit_small 1) (unit_small 2) c1.out).mono ?_
            rintro e v1 ⟨rfl, hv1⟩
            have GV := Lib.hid ((GK.out.alloc GK.out.size _ |>.alloc (by have := GK.out.size; simp; omega) _).trans (hv1.mono (by have := GK.out.size; simp; omega)) : Below w.heap.size w v1)
            have X1 := rowBelow (boxes wr 24 (unitM 1) (unitM 2)).1 hv1 (by simp; omega)
            have Y1 := rowBelow (boxes wr 24 (unitM 1) (unitM 2)).2 hv1 (by simp)
            have AV := Lib.hid (rowBelow (RKA.out.alloc (.cells (arr4 (unitM 1)) 24) |>.alloc (.cells (arr4 (unitM 2)) 24)) hv1 (by have := RKA.out.lt; simp; omega))
            have BV := Lib.hid (rowBelow (RKB.out.alloc (.cells (arr4 (unitM 1)) 24) |>.alloc (.cells (arr4 (unitM 2)) 24)) hv1 (by have := RKB.out.lt; simp; omega))
            obtain ⟨x0, x1, x2, x3⟩ := rowc X1
            obtain ⟨y0, y1, y2, y3⟩ := rowc Y1
            clear hv1 X1 Y1 RKA RKB GK
            go_wp2_with fail
            refine (cmp_as (o := o) (a := unitM 2) (b := unitM 1) (n := -1) _ (unit_small 2) (unit_small 1) c2.out).mono ?_
            rintro e v2 ⟨rfl, hv2⟩
            have GU := Lib.hid (GV.out.trans (hv2.mono GV.out.size) : Below w.heap.size w v2)
            have AU := Lib.hid (rowBelow AV.out hv2 AV.out.lt)
            have BU := Lib.hid (rowBelow BV.out hv2 BV.out.lt)
            clear hv2 GV AV BV x0 x1 x2 x3 y0 y1 y2 y3
            go_wp2
            go_roundw
            case rel => exact ⟨3, by omega, by omega, by rfl, AU.out, BU.out, GU.out⟩
            case measure => simp [intOf]
          · rw [show (((3 : Nat)) : Int) = 3 from rfl]
            have c1 := Lib.hid (cmp_unit (o := o) (i := 1) (k := 3) (by omega) (by omega))
            have c2 := Lib.hid (show cmpM o (unitM 3) (unitM 1) = -1 by rw [cmp_swap (unit_small 1) (unit_small 3), c1.out])
            go_wp2_with fail
            refine (cmp_as (o := o) (a := unitM 1) (b := unitM 3) (n := 1) _ (unit_small 1) (unit_small 3) c1.out).mono ?_
            rintro e v1 ⟨rfl, hv1⟩
            have GV := Lib.hid ((GK.out.alloc GK.out.size _ |>.alloc (by have := GK.out.size; simp; omega) _).trans (hv1.mono (by have := GK.out.size; simp; omega)) : Below w.heap.size w v1)
            have X1 := rowBelow (boxes wr 24 (unitM 1) (unitM 3)).1 hv1 (by simp; omega)
            have Y1 := rowBelow (boxes wr 24 (unitM 1) (unitM 3)).2 hv1 (by simp)
            have AV := Lib.hid (rowBelow (RKA.out.alloc (.cells (arr4 (unitM 1)) 24) |>.alloc (.cells (arr4 (unitM 3)) 24)) hv1 (by have := RKA.out.lt; simp; omega))
            have BV := Lib.hid (rowBelow (RKB.out.alloc (.cells (arr4 (unitM 1)) 24) |>.alloc (.cells (arr4 (unitM 3)) 24)) hv1 (by have := RKB.out.lt; simp; omega))
            obtain ⟨x0, x1, x2, x3⟩ := rowc X1
            obtain ⟨y0, y1, y2, y3⟩ := rowc Y1
            clear hv1 X1 Y1 RKA RKB GK
            go_wp2_with fail
            refine (cmp_as (o := o) (a := unitM 3) (b := unitM 1) (n := -1) _ (unit_small 3) (unit_small 1) c2.out).mono ?_
            rintro e v2 ⟨rfl, hv2⟩
            have GU := Lib.hid (GV.out.trans (hv2.mono GV.out.size) : Below w.heap.size w v2)
            have AU := Lib.hid (rowBelow AV.out hv2 AV.out.lt)
            have BU := Lib.hid (rowBelow BV.out hv2 BV.out.lt)
            clear hv2 GV AV BV x0 x1 x2 x3 y0 y1 y2 y3
            go_wp2
            go_roundw
            case rel => exact ⟨4, by omega, by omega, by rfl, AU.out, BU.out, GU.out⟩
            case measure => simp [intOf]
          · rw [show (((4 : Nat)) : Int) = 4 from rfl]
            go_wp2
            go_roundw
            case rel => exact ⟨2, by omega, by rfl, RKA.out, RKB.out, GK.out⟩
            case measure => simp [intOf]
      · rw [show (((2 : Nat)) : Int) = 2 from rfl]
        go_wp2_with fail
        obtain ⟨wo, rfl⟩ : ∃ wo : World, wo = wr := ⟨_, rfl⟩
        go_loopw [9] (fun i wr => ∃ k0 : Nat, 2 < k0 ∧ k0 ≤ 4 ∧ i = .int .i64 k0 ∧ wr.rowIs w.heap.size 24 4 (cell a) ∧ wr.rowIs (w.heap.size + 1) 24 4 (cell b) ∧ Below w.heap.size w wr) (fun i _ => 4 - (intOf i).toNat)
        case atStart => exact ⟨3, by omega, by omega, by rfl, RAH.out, RBH.out, GH.out⟩
        case round =>
          obtain ⟨k0, hk, hk4, rfl, RA, RB, G⟩ := hrel
          have RKA := Lib.hid RA
          have RKB := Lib.hid RB
          have GK := Lib.hid G
          clear RA RB G RAH RBH GH
          have hc : k0 = 3 ∨ k0 = 4 := by omega
          clear hk hk4
          rcases hc with rfl | rfl
          · rw [show (((3 : Nat)) : Int) = 3 from rfl]
            have c1 := Lib.hid (cmp_unit (o := o) (i := 2) (k := 3) (by omega) (by omega))
            have c2 := Lib.hid (show cmpM o (unitM 3) (unitM 2) = -1 by rw [cmp_swap (unit_small 2) (unit_small 3), c1.out])
            go_wp2_with fail
            refine (cmp_as (o := o) (a := unitM 2) (b := unitM 3) (n := 1) _ (unit_small 2) (unit_small 3) c1.out).mono ?_
            rintro e v1 ⟨rfl, hv1⟩
            have GV := Lib.hid ((GK.out.alloc GK.out.size _ |>.alloc (by have := GK.out.size; simp; omega) _).trans (hv1.mono (by have := GK.out.size; simp; omega)) : Below w.heap.size w v1)
            have X1 := rowBelow (boxes wr 24 (unitM 2) (unitM 3)).1 hv1 (by simp; omega)
            have Y1 := rowBelow (boxes wr 24 (unitM 2) (unitM 3)).2 hv1 (by simp)
            have AV := Lib.hid (rowBelow (RKA.out.alloc (.cells (arr4 (unitM 2)) 24) |>.alloc (.cells (arr4 (unitM 3)) 24)) hv1 (by have := RKA.out.lt; simp; omega))
            have BV := Lib.hid (rowBelow (RKB.out.alloc (.cells (arr4 (unitM 2)) 24) |>.alloc (.cells (arr4 (unitM 3)) 24)) hv1 (by have := RKB.out.lt; simp; omega))
            obtain ⟨x0, x1, x2, x3⟩ := rowc X1
            obtain ⟨y0, y1, y2, y3⟩ := rowc Y1
            clear hv1 X1 Y1 RKA RKB GK
            go_wp2_with fail
            refine (cmp_as (o := o) (a := unitM 3) (b := unitM 2) (n := -1) _ (unit_small 3) (unit_small 2) c2.out).mono ?_
            rintro e v2 ⟨rfl, hv2⟩
            have GU := Lib.hid (GV.out.trans (hv2.mono GV.out.size) : Below w.heap.size w v2)
            have AU := Lib.hid (rowBelow AV.out hv2 AV.out.lt)
            have BU := Lib.hid (rowBelow BV.out hv2 BV.out.lt)
            clear hv2 GV AV BV x0 x1 x2 x3 y0 y1 y2 y3
            go_wp2
            go_roundw
            case rel => exact ⟨4, by omega, by omega, by rfl, AU.out, BU.out, GU.out⟩
            case measure => simp [intOf]
          · rw [show (((4 : Nat)) : Int) = 4 from rfl]
            go_wp2
            go_roundw
            case rel => exact ⟨3, by omega, by rfl, RKA.out, RKB.out, GK.out⟩
            case measure => simp [intOf]
      · rw [show (((3 : Nat)) : Int) = 3 from rfl]
        go_wp2_with fail
        obtain ⟨wo, rfl⟩ : ∃ wo : World, wo = wr := ⟨_, rfl⟩
        go_loopw [9] (fun i wr => ∃ k0 : Nat, 3 < k0 ∧ k0 ≤ 4 ∧ i = .int .i64 k0 ∧ wr.rowIs w.heap.size 24 4 (cell a) ∧ wr.rowIs (w.heap.size + 1) 24 4 (cell b) ∧ Below w.heap.size w wr) (fun i _ => 4 - (intOf i).toNat)
        case atStart => exact ⟨4, by omega, by omega, by rfl, RAH.out, RBH.out, GH.out⟩
        case round =>
          obtain ⟨k0, hk, hk4, rfl, RA, RB, G⟩ := hrel
          have RKA := Lib.hid RA
          have RKB := Lib.hid RB
          have GK := Lib.hid G
          clear RA RB G RAH RBH GH
          have hc : k0 = 4 := by omega
          clear hk hk4
          obtain rfl := hc
          · rw [show (((4 : Nat)) : Int) = 4 from rfl]
            go_wp2
            go_roundw
            case rel => exact ⟨4, by omega, by rfl, RKA.out, RKB.out, GK.out⟩
            case measure => simp [intOf]
    · obtain rfl : i0 = 4 := by omega
      have A1 := RAH.out
      have B1 := RBH.out
      have L1 := GH
      clear RAH RBH GH hi hlt
      obtain ⟨a1_0, a1_1, a1_2, a1_3⟩ := rowc A1
      have ltA := A1.lt
      obtain ⟨b1_0, b1_1, b1_2, b1_3⟩ := rowc B1
      have ltB := B1.lt
      obtain ⟨w1, rfl⟩ : ∃ w1 : World, w1 = wr := ⟨_, rfl⟩
      go_wp2_with fail
      refine wp_region_quiet_below (by kernel_rfl) (by kernel_rfl) ?_
      obtain ⟨ar_0, ar_1, ar_2, ar_3⟩ := rows4 A1
      obtain ⟨br_0, br_1, br_2, br_3⟩ := rows4 B1
      repeat (go_big_quiet_step (first
        | (go_at_call 21; exact Calls.regrown_of (alive_any _))))
      refine wpQuiet_nil ?_
      intro w2 hw2
      obtain ⟨q, hq⟩ := hw2
      have hb2 : Below w1.heap.size w1 w2 := by
        have h := below_regrown w1 q.d q.os
        have e : w2 = grow (redrawn w1 q.d) q.os := hq
        rw [e]; exact h
      clear hq ar_0 ar_1 ar_2 ar_3 br_0 br_1 br_2 br_3
      have A2 := rowBelow A1 hb2 (by first | (simp; done) | (simp; omega) | exact A1.lt)
      have B2 := rowBelow B1 hb2 (by first | (simp; done) | (simp; omega) | exact B1.lt)
      have L2 := Lib.hid (L1.out.trans (hb2.mono L1.out.size) : Below w.heap.size w w2)
      clear hb2 L1 A1 a1_0 a1_1 a1_2 a1_3 ltA B1 b1_0 b1_1 b1_2 b1_3 ltB
      obtain ⟨a2_0, a2_1, a2_2, a2_3⟩ := rowc A2
      have ltA := A2.lt
      obtain ⟨b2_0, b2_1, b2_2, b2_3⟩ := rowc B2
      have ltB := B2.lt
      go_wp2
      go_ret
      exact ⟨rfl, L2.out⟩

set_option maxHeartbeats 4000000 in
theorem graded_00 (o : Int) (a b : Nat → Int) (w : World) (ha : Small a) (hb : Small b) (hp : degM a - degM b ≤ 0) (hq : 2 < o) :
    Calls Try.prog 9 #[mvf a, mvf b, .int .u8 o] w fun e w' => e = .returned (.bool true) ∧ Below w.heap.size w w' := by
  have HA := Lib.hid ha
  have HB := Lib.hid hb
  have HX := Lib.hid (boxes w 24 a b)
  have da := degM_bd ha
  have db := degM_bd hb
  have es := IntWalk.i64_in (degM a - degM b) (by omega)
  have E2 := Lib.hid (cmp_else0 hq a b)
  have hqd : decide (o ≤ 2) = false := by simp; omega
  clear ha hb
  go_enter Try.func9, Try.ntmps9
  go_wp2_with fail
  refine wp_region_quiet_below (by kernel_rfl) (by kernel_rfl) ?_
  obtain ⟨ar_0, ar_1, ar_2, ar_3⟩ := rows4 HX.out.1
  obtain ⟨br_0, br_1, br_2, br_3⟩ := rows4 HX.out.2
  repeat (go_big_quiet_step (first
    | (go_at_call 17; first | (with_reducible exact Calls.regrown_of (degree_any a _ HA.out)) | (with_reducible exact Calls.regrown_of (degree_any b _ HB.out)))))
  refine wpQuiet_nil ?_
  intro w1 hw1
  obtain ⟨q, hq⟩ := hw1
  have hb1 : Below ((w.alloc (.cells (arr4 a) 24)).alloc (.cells (arr4 b) 24)).heap.size ((w.alloc (.cells (arr4 a) 24)).alloc (.cells (arr4 b) 24)) w1 := by
    have h := below_regrown ((w.alloc (.cells (arr4 a) 24)).alloc (.cells (arr4 b) 24)) q.d q.os
    have e : w1 = grow (redrawn ((w.alloc (.cells (arr4 a) 24)).alloc (.cells (arr4 b) 24)) q.d) q.os := hq
    rw [e]; exact h
  clear hq ar_0 ar_1 ar_2 ar_3 br_0 br_1 br_2 br_3
  have A1 := rowBelow HX.out.1 hb1 (by first | (simp; done) | (simp; omega) | exact A0.lt)
  have B1 := rowBelow HX.out.2 hb1 (by first | (simp; done) | (simp; omega) | exact B0.lt)
  have L1 := Lib.hid ((((Below.refl _ _).alloc (by go_size) _).alloc (by go_size) _).trans (hb1.mono (by go_size)) : Below w.heap.size w w1)
  clear hb1
  obtain ⟨a1_0, a1_1, a1_2, a1_3⟩ := rowc A1
  have ltA := A1.lt
  obtain ⟨b1_0, b1_1, b1_2, b1_3⟩ := rowc B1
  have ltB := B1.lt
  go_wp2_with fail
  go_loopw [8] (fun i wr => ∃ i0 : Nat, i0 ≤ 4 ∧ i = .int .i64 i0 ∧ wr.rowIs w.heap.size 24 4 (cell a) ∧ wr.rowIs (w.heap.size + 1) 24 4 (cell b) ∧ Below w.heap.size w wr) (fun i _ => 4 - (intOf i).toNat)
  case atStart => exact ⟨0, by omega, rfl, A1, B1, L1.out⟩
  case round =>
    obtain ⟨i0, hi, rfl, RA, RB, G⟩ := hrel
    clear L1 A1 a1_0 a1_1 a1_2 a1_3 ltA B1 b1_0 b1_1 b1_2 b1_3 ltB es
    have RAH := Lib.hid RA
    have RBH := Lib.hid RB
    have GH := Lib.hid G
    clear RA RB G
    by_cases hlt : i0 < 4
    · have hc : i0 = 0 ∨ i0 = 1 ∨ i0 = 2 ∨ i0 = 3 := by omega
      clear hlt hi
      rcases hc with rfl | rfl | rfl | rfl
      · rw [show (((0 : Nat)) : Int) = 0 from rfl]
        go_wp2_with fail
        obtain ⟨wo, rfl⟩ : ∃ wo : World, wo = wr := ⟨_, rfl⟩
        go_loopw [9] (fun i wr => ∃ k0 : Nat, 0 < k0 ∧ k0 ≤ 4 ∧ i = .int .i64 k0 ∧ wr.rowIs w.heap.size 24 4 (cell a) ∧ wr.rowIs (w.heap.size + 1) 24 4 (cell b) ∧ Below w.heap.size w wr) (fun i _ => 4 - (intOf i).toNat)
        case atStart => exact ⟨1, by omega, by omega, by rfl, RAH.out, RBH.out, GH.out⟩
        case round =>
          obtain ⟨k0, hk, hk4, rfl, RA, RB, G⟩ := hrel
          have RKA := Lib.hid RA
          have RKB := Lib.hid RB
          have GK := Lib.hid G
          clear RA RB G RAH RBH GH
          have hc : k0 = 1 ∨ k0 = 2 ∨ k0 = 3 ∨ k0 = 4 := by omega
          clear hk hk4
          rcases hc with rfl | rfl | rfl | rfl
          · rw [show (((1 : Nat)) : Int) = 1 from rfl]
            have c1 := Lib.hid (cmp_unit (o := o) (i := 0) (k := 1) (by omega) (by omega))
            have c2 := Lib.hid (show cmpM o (unitM 1) (unitM 0) = -1 by rw [cmp_swap (unit_small 0) (unit_small 1), c1.out])
            go_wp2_with fail
            refine (cmp_as (o := o) (a := unitM 0) (b := unitM 1) (n := 1) _ (unit_small 0) (unit_small 1) c1.out).mono ?_
            rintro e v1 ⟨rfl, hv1⟩
            have GV := Lib.hid ((GK.out.alloc GK.out.size _ |>.alloc (by have := GK.out.size; simp; omega) _).trans (hv1.mono (by have := GK.out.size; simp; omega)) : Below w.heap.size w v1)
            have X1 := rowBelow (boxes wr 24 (unitM 0) (unitM 1)).1 hv1 (by simp; omega)
            have Y1 := rowBelow (boxes wr 24 (unitM 0) (unitM 1)).2 hv1 (by simp)
            have AV := Lib.hid (rowBelow (RKA.out.alloc (.cells (arr4 (unitM 0)) 24) |>.alloc (.cells (arr4 (unitM 1)) 24)) hv1 (by have := RKA.out.lt; simp; omega))
            have BV := Lib.hid (rowBelow (RKB.out.alloc (.cells (arr4 (unitM 0)) 24) |>.alloc (.cells (arr4 (unitM 1)) 24)) hv1 (by have := RKB.out.lt; simp; omega))
            obtain ⟨x0, x1, x2, x3⟩ := rowc X1
            obtain ⟨y0, y1, y2, y3⟩ := rowc Y1
            clear hv1 X1 Y1 RKA RKB GK
            go_wp2_with fail
            refine (cmp_as (o := o) (a := unitM 1) (b := unitM 0) (n := -1) _ (unit_small 1) (unit_small 0) c2.out).mono ?_
            rintro e v2 ⟨rfl, hv2⟩
            have GU := Lib.hid (GV.out.trans (hv2.mono GV.out.size) : Below w.heap.size w v2)
            have AU := Lib.hid (rowBelow AV.out hv2 AV.out.lt)
            have BU := Lib.hid (rowBelow BV.out hv2 BV.out.lt)
            clear hv2 GV AV BV x0 x1 x2 x3 y0 y1 y2 y3
            go_wp2
            go_roundw
            case rel => exact ⟨2, by omega, by omega, by rfl, AU.out, BU.out, GU.out⟩
            case measure => simp [intOf]
          · rw [show (((2 : Nat)) : Int) = 2 from rfl]
            have c1 := Lib.hid (cmp_unit (o := o) (i := 0) (k := 2) (by omega) (by omega))
            have c2 := Lib.hid (show cmpM o (unitM 2) (unitM 0) = -1 by rw [cmp_swap (unit_small 0) (unit_small 2), c1.out])
            go_wp2_with fail
            refine (cmp_as (o := o) (a := unitM 0) (b := unitM 2) (n := 1) _ (unit_small 0) (unit_small 2) c1.out).mono ?_
            rintro e v1 ⟨rfl, hv1⟩
            have GV := Lib.hid ((GK.out.alloc GK.out.size _ |>.alloc (by have := GK.out.size; simp; omega) _).trans (hv1.mono (by have := GK.out.size; simp; omega)) : Below w.heap.size w v1)
            have X1 := rowBelow (boxes wr 24 (unitM 0) (unitM 2)).1 hv1 (by simp; omega)
            have Y1 := rowBelow (boxes wr 24 (unitM 0) (unitM 2)).2 hv1 (by simp)
            have AV := Lib.hid (rowBelow (RKA.out.alloc (.cells (arr4 (unitM 0)) 24) |>.alloc (.cells (arr4 (unitM 2)) 24)) hv1 (by have := RKA.out.lt; simp; omega))
            have BV := Lib.hid (rowBelow (RKB.out.alloc (.cells (arr4 (unitM 0)) 24) |>.alloc (.cells (arr4 (unitM 2)) 24)) hv1 (by have := RKB.out.lt; simp; omega))
            obtain ⟨x0, x1, x2, x3⟩ := rowc X1
            obtain ⟨y0, y1, y2, y3⟩ := rowc Y1
            clear hv1 X1 Y1 RKA RKB GK
            go_wp2_with fail
            refine (cmp_as (o := o) (a := unitM 2) (b := unitM 0) (n := -1) _ (unit_small 2) (unit_small 0) c2.out).mono ?_
            rintro e v2 ⟨rfl, hv2⟩
            have GU := Lib.hid (GV.out.trans (hv2.mono GV.out.size) : Below w.heap.size w v2)
            have AU := Lib.hid (rowBelow AV.out hv2 AV.out.lt)
            have BU := Lib.hid (rowBelow BV.out hv2 BV.out.lt)
            clear hv2 GV AV BV x0 x1 x2 x3 y0 y1 y2 y3
            go_wp2
            go_roundw
            case rel => exact ⟨3, by omega, by omega, by rfl, AU.out, BU.out, GU.out⟩
            case measure => simp [intOf]
          · rw [show (((3 : Nat)) : Int) = 3 from rfl]
            have c1 := Lib.hid (cmp_unit (o := o) (i := 0) (k := 3) (by omega) (by omega))
            have c2 := Lib.hid (show cmpM o (unitM 3) (unitM 0) = -1 by rw [cmp_swap (unit_small 0) (unit_small 3), c1.out])
            go_wp2_with fail
            refine (cmp_as (o := o) (a := unitM 0) (b := unitM 3) (n := 1) _ (unit_small 0) (unit_small 3) c1.out).mono ?_
            rintro e v1 ⟨rfl, hv1⟩
            have GV := Lib.hid ((GK.out.alloc GK.out.size _ |>.alloc (by have := GK.out.size; simp; omega) _).trans (hv1.mono (by have := GK.out.size; simp; omega)) : Below w.heap.size w v1)
            have X1 := rowBelow (boxes wr 24 (unitM 0) (unitM 3)).1 hv1 (by simp; omega)
            have Y1 := rowBelow (boxes wr 24 (unitM 0) (unitM 3)).2 hv1 (by simp)
            have AV := Lib.hid (rowBelow (RKA.out.alloc (.cells (arr4 (unitM 0)) 24) |>.alloc (.cells (arr4 (unitM 3)) 24)) hv1 (by have := RKA.out.lt; simp; omega))
            have BV := Lib.hid (rowBelow (RKB.out.alloc (.cells (arr4 (unitM 0)) 24) |>.alloc (.cells (arr4 (unitM 3)) 24)) hv1 (by have := RKB.out.lt; simp; omega))
            obtain ⟨x0, x1, x2, x3⟩ := rowc X1
            obtain ⟨y0, y1, y2, y3⟩ := rowc Y1
            clear hv1 X1 Y1 RKA RKB GK
            go_wp2_with fail
            refine (cmp_as (o := o) (a := unitM 3) (b := unitM 0) (n := -1) _ (unit_small 3) (unit_small 0) c2.out).mono ?_
            rintro e v2 ⟨rfl, hv2⟩
            have GU := Lib.hid (GV.out.trans (hv2.mono GV.out.size) : Below w.heap.size w v2)
            have AU := Lib.hid (rowBelow AV.out hv2 AV.out.lt)
            have BU := Lib.hid (rowBelow BV.out hv2 BV.out.lt)
            clear hv2 GV AV BV x0 x1 x2 x3 y0 y1 y2 y3
            go_wp2
            go_roundw
            case rel => exact ⟨4, by omega, by omega, by rfl, AU.out, BU.out, GU.out⟩
            case measure => simp [intOf]
          · rw [show (((4 : Nat)) : Int) = 4 from rfl]
            go_wp2
            go_roundw
            case rel => exact ⟨1, by omega, by rfl, RKA.out, RKB.out, GK.out⟩
            case measure => simp [intOf]
      · rw [show (((1 : Nat)) : Int) = 1 from rfl]
        go_wp2_with fail
        obtain ⟨wo, rfl⟩ : ∃ wo : World, wo = wr := ⟨_, rfl⟩
        go_loopw [9] (fun i wr => ∃ k0 : Nat, 1 < k0 ∧ k0 ≤ 4 ∧ i = .int .i64 k0 ∧ wr.rowIs w.heap.size 24 4 (cell a) ∧ wr.rowIs (w.heap.size + 1) 24 4 (cell b) ∧ Below w.heap.size w wr) (fun i _ => 4 - (intOf i).toNat)
        case atStart => exact ⟨2, by omega, by omega, by rfl, RAH.out, RBH.out, GH.out⟩
        case round =>
          obtain ⟨k0, hk, hk4, rfl, RA, RB, G⟩ := hrel
          have RKA := Lib.hid RA
          have RKB := Lib.hid RB
          have GK := Lib.hid G
          clear RA RB G RAH RBH GH
          have hc : k0 = 2 ∨ k0 = 3 ∨ k0 = 4 := by omega
          clear hk hk4
          rcases hc with rfl | rfl | rfl
          · rw [show (((2 : Nat)) : Int) = 2 from rfl]
            have c1 := Lib.hid (cmp_unit (o := o) (i := 1) (k := 2) (by omega) (by omega))
            have c2 := Lib.hid (show cmpM o (unitM 2) (unitM 1) = -1 by rw [cmp_swap (unit_small 1) (unit_small 2), c1.out])
            go_wp2_with fail
            refine (cmp_as (o := o) (a := unitM 1) (b := unitM 2) (n := 1) _ (unit_small 1) (unit_small 2) c1.out).mono ?_
            rintro e v1 ⟨rfl, hv1⟩
            have GV := Lib.hid ((GK.out.alloc GK.out.size _ |>.alloc (by have := GK.out.size; simp; omega) _).trans (hv1.mono (by have := GK.out.size; simp; omega)) : Below w.heap.size w v1)
            have X1 := rowBelow (boxes wr 24 (unitM 1) (unitM 2)).1 hv1 (by simp; omega)
            have Y1 := rowBelow (boxes wr 24 (unitM 1) (unitM 2)).2 hv1 (by simp)
            have AV := Lib.hid (rowBelow (RKA.out.alloc (.cells (arr4 (unitM 1)) 24) |>.alloc (.cells (arr4 (unitM 2)) 24)) hv1 (by have := RKA.out.lt; simp; omega))
            have BV := Lib.hid (rowBelow (RKB.out.alloc (.cells (arr4 (unitM 1)) 24) |>.alloc (.cells (arr4 (unitM 2)) 24)) hv1 (by have := RKB.out.lt; simp; omega))
            obtain ⟨x0, x1, x2, x3⟩ := rowc X1
            obtain ⟨y0, y1, y2, y3⟩ := rowc Y1
            clear hv1 X1 Y1 RKA RKB GK
            go_wp2_with fail
            refine (cmp_as (o := o) (a := unitM 2) (b := unitM 1) (n := -1) _ (unit_small 2) (unit_small 1) c2.out).mono ?_
            rintro e v2 ⟨rfl, hv2⟩
            have GU := Lib.hid (GV.out.trans (hv2.mono GV.out.size) : Below w.heap.size w v2)
            have AU := Lib.hid (rowBelow AV.out hv2 AV.out.lt)
            have BU := Lib.hid (rowBelow BV.out hv2 BV.out.lt)
            clear hv2 GV AV BV x0 x1 x2 x3 y0 y1 y2 y3
            go_wp2
            go_roundw
            case rel => exact ⟨3, by omega, by omega, by rfl, AU.out, BU.out, GU.out⟩
            case measure => simp [intOf]
          · rw [show (((3 : Nat)) : Int) = 3 from rfl]
            have c1 := Lib.hid (cmp_unit (o := o) (i := 1) (k := 3) (by omega) (by omega))
            have c2 := Lib.hid (show cmpM o (unitM 3) (unitM 1) = -1 by rw [cmp_swap (unit_small 1) (unit_small 3), c1.out])
            go_wp2_with fail
            refine (cmp_as (o := o) (a := unitM 1) (b := unitM 3) (n := 1) _ (unit_small 1) (unit_small 3) c1.out).mono ?_
            rintro e v1 ⟨rfl, hv1⟩
            have GV := Lib.hid ((GK.out.alloc GK.out.size _ |>.alloc (by have := GK.out.size; simp; omega) _).trans (hv1.mono (by have := GK.out.size; simp; omega)) : Below w.heap.size w v1)
            have X1 := rowBelow (boxes wr 24 (unitM 1) (unitM 3)).1 hv1 (by simp; omega)
            have Y1 := rowBelow (boxes wr 24 (unitM 1) (unitM 3)).2 hv1 (by simp)
            have AV := Lib.hid (rowBelow (RKA.out.alloc (.cells (arr4 (unitM 1)) 24) |>.alloc (.cells (arr4 (unitM 3)) 24)) hv1 (by have := RKA.out.lt; simp; omega))
            have BV := Lib.hid (rowBelow (RKB.out.alloc (.cells (arr4 (unitM 1)) 24) |>.alloc (.cells (arr4 (unitM 3)) 24)) hv1 (by have := RKB.out.lt; simp; omega))
            obtain ⟨x0, x1, x2, x3⟩ := rowc X1
            obtain ⟨y0, y1, y2, y3⟩ := rowc Y1
            clear hv1 X1 Y1 RKA RKB GK
            go_wp2_with fail
            refine (cmp_as (o := o) (a := unitM 3) (b := unitM 1) (n := -1) _ (unit_small 3) (unit_small 1) c2.out).mono ?_
            rintro e v2 ⟨rfl, hv2⟩
            have GU := Lib.hid (GV.out.trans (hv2.mono GV.out.size) : Below w.heap.size w v2)
            have AU := Lib.hid (rowBelow AV.out hv2 AV.out.lt)
            have BU := Lib.hid (rowBelow BV.out hv2 BV.out.lt)
            clear hv2 GV AV BV x0 x1 x2 x3 y0 y1 y2 y3
            go_wp2
            go_roundw
            case rel => exact ⟨4, by omega, by omega, by rfl, AU.out, BU.out, GU.out⟩
            case measure => simp [intOf]
          · rw [show (((4 : Nat)) : Int) = 4 from rfl]
            go_wp2
            go_roundw
            case rel => exact ⟨2, by omega, by rfl, RKA.out, RKB.out, GK.out⟩
            case measure => simp [intOf]
      · rw [show (((2 : Nat)) : Int) = 2 from rfl]
        go_wp2_with fail
        obtain ⟨wo, rfl⟩ : ∃ wo : World, wo = wr := ⟨_, rfl⟩
        go_loopw [9] (fun i wr => ∃ k0 : Nat, 2 < k0 ∧ k0 ≤ 4 ∧ i = .int .i64 k0 ∧ wr.rowIs w.heap.size 24 4 (cell a) ∧ wr.rowIs (w.heap.size + 1) 24 4 (cell b) ∧ Below w.heap.size w wr) (fun i _ => 4 - (intOf i).toNat)
        case atStart => exact ⟨3, by omega, by omega, by rfl, RAH.out, RBH.out, GH.out⟩
        case round =>
          obtain ⟨k0, hk, hk4, rfl, RA, RB, G⟩ := hrel
          have RKA := Lib.hid RA
          have RKB := Lib.hid RB
          have GK := Lib.hid G
          clear RA RB G RAH RBH GH
          have hc : k0 = 3 ∨ k0 = 4 := by omega
          clear hk hk4
          rcases hc with rfl | rfl
          · rw [show (((3 : Nat)) : Int) = 3 from rfl]
            have c1 := Lib.hid (cmp_unit (o := o) (i := 2) (k := 3) (by omega) (by omega))
            have c2 := Lib.hid (show cmpM o (unitM 3) (unitM 2) = -1 by rw [cmp_swap (unit_small 2) (unit_small 3), c1.out])
            go_wp2_with fail
            refine (cmp_as (o := o) (a := unitM 2) (b := unitM 3) (n := 1) _ (unit_small 2) (unit_small 3) c1.out).mono ?_
            rintro e v1 ⟨rfl, hv1⟩
            have GV := Lib.hid ((GK.out.alloc GK.out.size _ |>.alloc (by have := GK.out.size; simp; omega) _).trans (hv1.mono (by have := GK.out.size; simp; omega)) : Below w.heap.size w v1)
            have X1 := rowBelow (boxes wr 24 (unitM 2) (unitM 3)).1 hv1 (by simp; omega)
            have Y1 := rowBelow (boxes wr 24 (unitM 2) (unitM 3)).2 hv1 (by simp)
            have AV := Lib.hid (rowBelow (RKA.out.alloc (.cells (arr4 (unitM 2)) 24) |>.alloc (.cells (arr4 (unitM 3)) 24)) hv1 (by have := RKA.out.lt; simp; omega))
            have BV := Lib.hid (rowBelow (RKB.out.alloc (.cells (arr4 (unitM 2)) 24) |>.alloc (.cells (arr4 (unitM 3)) 24)) hv1 (by have := RKB.out.lt; simp; omega))
            obtain ⟨x0, x1, x2, x3⟩ := rowc X1
            obtain ⟨y0, y1, y2, y3⟩ := rowc Y1
            clear hv1 X1 Y1 RKA RKB GK
            go_wp2_with fail
            refine (cmp_as (o := o) (a := unitM 3) (b := unitM 2) (n := -1) _ (unit_small 3) (unit_small 2) c2.out).mono ?_
            rintro e v2 ⟨rfl, hv2⟩
            have GU := Lib.hid (GV.out.trans (hv2.mono GV.out.size) : Below w.heap.size w v2)
            have AU := Lib.hid (rowBelow AV.out hv2 AV.out.lt)
            have BU := Lib.hid (rowBelow BV.out hv2 BV.out.lt)
            clear hv2 GV AV BV x0 x1 x2 x3 y0 y1 y2 y3
            go_wp2
            go_roundw
            case rel => exact ⟨4, by omega, by omega, by rfl, AU.out, BU.out, GU.out⟩
            case measure => simp [intOf]
          · rw [show (((4 : Nat)) : Int) = 4 from rfl]
            go_wp2
            go_roundw
            case rel => exact ⟨3, by omega, by rfl, RKA.out, RKB.out, GK.out⟩
            case measure => simp [intOf]
      · rw [show (((3 : Nat)) : Int) = 3 from rfl]
        go_wp2_with fail
        obtain ⟨wo, rfl⟩ : ∃ wo : World, wo = wr := ⟨_, rfl⟩
        go_loopw [9] (fun i wr => ∃ k0 : Nat, 3 < k0 ∧ k0 ≤ 4 ∧ i = .int .i64 k0 ∧ wr.rowIs w.heap.size 24 4 (cell a) ∧ wr.rowIs (w.heap.size + 1) 24 4 (cell b) ∧ Below w.heap.size w wr) (fun i _ => 4 - (intOf i).toNat)
        case atStart => exact ⟨4, by omega, by omega, by rfl, RAH.out, RBH.out, GH.out⟩
        case round =>
          obtain ⟨k0, hk, hk4, rfl, RA, RB, G⟩ := hrel
          have RKA := Lib.hid RA
          have RKB := Lib.hid RB
          have GK := Lib.hid G
          clear RA RB G RAH RBH GH
          have hc : k0 = 4 := by omega
          clear hk hk4
          obtain rfl := hc
          · rw [show (((4 : Nat)) : Int) = 4 from rfl]
            go_wp2
            go_roundw
            case rel => exact ⟨4, by omega, by rfl, RKA.out, RKB.out, GK.out⟩
            case measure => simp [intOf]
    · obtain rfl : i0 = 4 := by omega
      have A1 := RAH.out
      have B1 := RBH.out
      have L1 := GH
      clear RAH RBH GH hi hlt
      obtain ⟨a1_0, a1_1, a1_2, a1_3⟩ := rowc A1
      have ltA := A1.lt
      obtain ⟨b1_0, b1_1, b1_2, b1_3⟩ := rowc B1
      have ltB := B1.lt
      obtain ⟨w1, rfl⟩ : ∃ w1 : World, w1 = wr := ⟨_, rfl⟩
      go_wp2_with fail
      refine wp_region_quiet_below (by kernel_rfl) (by kernel_rfl) ?_
      obtain ⟨ar_0, ar_1, ar_2, ar_3⟩ := rows4 A1
      obtain ⟨br_0, br_1, br_2, br_3⟩ := rows4 B1
      repeat (go_big_quiet_step (first
        | (go_at_call 21; exact Calls.regrown_of (alive_any _))
        | (go_at_call 19; first | (with_reducible exact Calls.regrown_of (cmp_as (o := o) (a := a) (b := b) (n := cmpM 0 a b) _ HA.out HB.out E2.out)) | (with_reducible exact Calls.regrown_of (cmp_any 0 a b _ HA.out HB.out)))))
      refine wpQuiet_nil ?_
      intro w2 hw2
      obtain ⟨q, hq⟩ := hw2
      have hb2 : Below w1.heap.size w1 w2 := by
        have h := below_regrown w1 q.d q.os
        have e : w2 = grow (redrawn w1 q.d) q.os := hq
        rw [e]; exact h
      clear hq ar_0 ar_1 ar_2 ar_3 br_0 br_1 br_2 br_3
      have A2 := rowBelow A1 hb2 (by first | (simp; done) | (simp; omega) | exact A1.lt)
      have B2 := rowBelow B1 hb2 (by first | (simp; done) | (simp; omega) | exact B1.lt)
      have L2 := Lib.hid (L1.out.trans (hb2.mono L1.out.size) : Below w.heap.size w w2)
      clear hb2 L1 A1 a1_0 a1_1 a1_2 a1_3 ltA B1 b1_0 b1_1 b1_2 b1_3 ltB
      obtain ⟨a2_0, a2_1, a2_2, a2_3⟩ := rowc A2
      have ltA := A2.lt
      obtain ⟨b2_0, b2_1, b2_2, b2_3⟩ := rowc B2
      have ltB := B2.lt
      go_wp2
      go_ret
      exact ⟨rfl, L2.out⟩

theorem graded_walk (o : Int) (a b : Nat → Int) (w : World) (ha : Small a) (hb : Small b) :
    Calls Try.prog 9 #[mvf a, mvf b, .int .u8 o] w fun e w' => e = .returned (.bool true) ∧ Below w.heap.size w w' := by
  by_cases hp : 0 < degM a - degM b <;> by_cases hq : o ≤ 2
  · exact graded_11 o a b w ha hb hp hq
  · exact graded_10 o a b w ha hb hp (by omega)
  · exact graded_01 o a b w ha hb (by omega) hq
  · exact graded_00 o a b w ha hb (by omega) (by omega)

open Go.ChangeShapes Go.WideShapes Go.ChangeAt
theorem own : ownKnob Try.prog.godebug = none := by kernel_rfl
theorem laidOut : laidOutB Try.prog = true := by kernel_rfl
theorem cellsM : Try.prog.cellsOf 24 = 4 := by kernel_rfl
theorem cellsU : Try.prog.cellsOf 22 = 1 := by kernel_rfl

set_option maxRecDepth 100000 in
theorem graded_lifted (os : Os) (started : os.Started) (H : Type) (enc : TypeId × Value → H) :
    ReturnsInHanded {} Try.checked os 9 .any (Rows.monosGradedSpec.pre6 enc Try.prog Try.f9 Rows.monosGradedRow.domain false) (Rows.monosGradedSpec.post enc Try.prog Try.f9 false true false false) := by
  refine returnsInHanded_of_change (C := Try.checked) own started (by kernel_rfl) Try.func9
    (ChangeSpec.witness6 (enc := enc) (C := Try.checked) false ⟨#[], #[mv 0 0 0 0, mv 0 0 0 0, .int .u8 0], []⟩ 8 (by kernel_rfl) (by kernel_rfl) (by kernel_rfl) (by kernel_rfl)) ?_
  intro W base args ds gs before hval0 hW hcnd _
  have hval : ∀ (j : Nat) t v, Try.f9.params[j]? = some t → args[j]? = some v → Value.okWide Try.prog W .any base t v := hval0
  have hW' := hW
  obtain ⟨p, q, hA0, hV, rfl, hfz, hnd⟩ := hW
  have hA : DataW.TrodAll enc Try.prog W 0 (fun _ => true) true Try.f9.params.toList args.toList ds p := hA0
  rw [Try.params9] at hA hval
  obtain ⟨v0, v1, v2, d0, d1, d2, p0, p1, p2, rfl, rfl, rfl, h0, h1, h2⟩ := trodAll_three hA
  obtain ⟨rfl, rfl⟩ := trodVars_none hV
  obtain ⟨a, rfl, ha⟩ := LawPost.open_four Try.underlying24 Try.underlying22 cellsU cellsM (hval 0 24 v0 rfl rfl) h0
  obtain ⟨b, rfl, hb⟩ := LawPost.open_four Try.underlying24 Try.underlying22 cellsU cellsM (hval 1 24 v1 rfl rfl) h1
  obtain ⟨o, rfl, -, -, wo⟩ := open_int Try.underlying33 (hval 2 33 v2 rfl rfl) h2
  refine (graded_walk o a b W ha hb).mono fun e W' ⟨he, hg⟩ => ?_
  subst he
  exact ⟨_, rfl, LawPost.law_post laidOut (by kernel_rfl) (by kernel_rfl) Try.underlying4 hW' rfl rfl hg⟩

theorem graded_holds : Rows.MonosGradedSaid :=
  OpenClaim.holds_of_wide 9 Try.f9 rfl rfl rfl rfl rfl rfl rfl ⟨rfl, rfl, rfl, rfl, rfl⟩ rfl rfl rfl rfl rfl (by kernel_rfl) Try.func9 (by kernel_rfl)
    (of_decide_eq_true (by kernel_rfl)) (by unfold Func.isWrapper; first | (rw [if_pos (by decide +kernel)]; kernel_rfl) | (rw [if_neg (by decide +kernel)]; exact ⟨rfl, rfl⟩))
    (fun os started H enc _ => graded_lifted os started H enc)
#print axioms graded_holds
end Go.Proofs.Ytlhkiodgjcbjbaa.Mono
