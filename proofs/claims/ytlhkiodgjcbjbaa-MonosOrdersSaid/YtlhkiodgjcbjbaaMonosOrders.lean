/-
  MonosOrders: whatever order and whatever two products come in, the law returns true.
-/
import Derived.Test.YtlhkiodgjcbjbaaMonoRCmp
import Derived.Test.YtlhkiodgjcbjbaaLawPost
namespace Go.Proofs.Ytlhkiodgjcbjbaa.Mono
open Go.RowKit Go.Sort

set_option maxHeartbeats 2000000 in
theorem orders_walk (o : Int) (a b : Nat → Int) (w : World) (ha : Small a) (hb : Small b) :
    Calls Try.prog 4 #[.int .u8 o, mvf a, mvf b] w fun e w' => e = .returned (.bool true) ∧ Below w.heap.size w w' := by
  have HA := Lib.hid ha; clear ha
  have HB := Lib.hid hb; clear hb
  have HX := Lib.hid (boxes w 24 a b)
  go_enter Try.func4, Try.ntmps4
  go_wp2_with fail
  refine wp_region_quiet_below (by kernel_rfl) (by kernel_rfl) ?_
  obtain ⟨ar_0, ar_1, ar_2, ar_3⟩ := rows4 HX.out.1
  obtain ⟨br_0, br_1, br_2, br_3⟩ := rows4 HX.out.2
  repeat (go_big_quiet_step (first
    | (go_at_call 19; exact Calls.regrown_of (cmp_any o a b _ HA.out HB.out))
    | (go_at_call 20; exact Calls.regrown_of (rcmp_any o a b _ HA.out HB.out))))
  refine wpQuiet_nil ?_
  intro w1 hw1
  obtain ⟨q, hq⟩ := hw1
  have hb1 := below_regrown ((w.alloc (.cells (arr4 a) 24)).alloc (.cells (arr4 b) 24)) q.d q.os
  rw [← show w1 = _ from hq] at hb1
  clear hq ar_0 ar_1 ar_2 ar_3 br_0 br_1 br_2 br_3
  have A1 := rowBelow HX.out.1 hb1 (by first | (simp; done) | (simp; omega) | exact A0.lt)
  have B1 := rowBelow HX.out.2 hb1 (by first | (simp; done) | (simp; omega) | exact B0.lt)
  have L1 := Lib.hid ((((Below.refl _ _).alloc (by go_size) _).alloc (by go_size) _).trans (hb1.mono (by go_size)) : Below w.heap.size w w1)
  clear hb1
  obtain ⟨a1_0, a1_1, a1_2, a1_3⟩ := rowc A1
  have ltA := A1.lt
  obtain ⟨b1_0, b1_1, b1_2, b1_3⟩ := rowc B1
  have ltB := B1.lt
  go_wp2
  go_ret
  exact ⟨rfl, L1.out⟩

open Go.ChangeShapes Go.WideShapes Go.ChangeAt
theorem own : ownKnob Try.prog.godebug = none := by kernel_rfl
theorem laidOut : laidOutB Try.prog = true := by kernel_rfl
theorem cellsM : Try.prog.cellsOf 24 = 4 := by kernel_rfl
theorem cellsU : Try.prog.cellsOf 22 = 1 := by kernel_rfl

set_option maxRecDepth 100000 in
theorem orders_lifted (os : Os) (started : os.Started) (H : Type) (enc : TypeId × Value → H) :
    ReturnsInHanded {} Try.checked os 4 .any (Rows.monosOrdersSpec.pre6 enc Try.prog Try.f4 Rows.monosOrdersRow.domain false) (Rows.monosOrdersSpec.post enc Try.prog Try.f4 false true false false) := by
  refine returnsInHanded_of_change (C := Try.checked) own started (by kernel_rfl) Try.func4
    (ChangeSpec.witness6 (enc := enc) (C := Try.checked) false ⟨#[], #[.int .u8 0, mv 0 0 0 0, mv 0 0 0 0], []⟩ 8 (by kernel_rfl) (by kernel_rfl) (by kernel_rfl) (by kernel_rfl)) ?_
  intro W base args ds gs before hval0 hW hcnd _
  have hval : ∀ (j : Nat) t v, Try.f4.params[j]? = some t → args[j]? = some v → Value.okWide Try.prog W .any base t v := hval0
  have hW' := hW
  obtain ⟨p, q, hA0, hV, rfl, hfz, hnd⟩ := hW
  have hA : DataW.TrodAll enc Try.prog W 0 (fun _ => true) true Try.f4.params.toList args.toList ds p := hA0
  rw [Try.params4] at hA hval
  obtain ⟨v0, v1, v2, d0, d1, d2, p0, p1, p2, rfl, rfl, rfl, h0, h1, h2⟩ := trodAll_three hA
  obtain ⟨rfl, rfl⟩ := trodVars_none hV
  obtain ⟨o, rfl, -, -, wo⟩ := open_int Try.underlying33 (hval 0 33 v0 rfl rfl) h0
  obtain ⟨a, rfl, ha⟩ := LawPost.open_four Try.underlying24 Try.underlying22 cellsU cellsM (hval 1 24 v1 rfl rfl) h1
  obtain ⟨b, rfl, hb⟩ := LawPost.open_four Try.underlying24 Try.underlying22 cellsU cellsM (hval 2 24 v2 rfl rfl) h2
  refine (orders_walk o a b W ha hb).mono fun e W' ⟨he, hg⟩ => ?_
  subst he
  exact ⟨_, rfl, LawPost.law_post laidOut (by kernel_rfl) (by kernel_rfl) Try.underlying4 hW' rfl rfl hg⟩

theorem orders_holds : Rows.MonosOrdersSaid :=
  OpenClaim.holds_of_wide 4 Try.f4 rfl rfl rfl rfl rfl rfl rfl ⟨rfl, rfl, rfl, rfl, rfl⟩ rfl rfl rfl rfl rfl (by kernel_rfl) Try.func4 (by kernel_rfl)
    (of_decide_eq_true (by kernel_rfl)) (by unfold Func.isWrapper; first | (rw [if_pos (by decide +kernel)]; kernel_rfl) | (rw [if_neg (by decide +kernel)]; exact ⟨rfl, rfl⟩))
    (fun os started H enc _ => orders_lifted os started H enc)
#print axioms orders_holds
end Go.Proofs.Ytlhkiodgjcbjbaa.Mono
