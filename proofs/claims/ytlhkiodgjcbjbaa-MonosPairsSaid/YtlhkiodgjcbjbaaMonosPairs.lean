/-
  MonosPairs: whatever two products come in, the law returns true.
-/
import Derived.Test.YtlhkiodgjcbjbaaMonoKit
import Derived.Test.YtlhkiodgjcbjbaaLawPost
namespace Go.Proofs.Ytlhkiodgjcbjbaa.Mono
open Go.RowKit Go.Sort

set_option maxHeartbeats 2000000 in
theorem pairs_walk (a b : Nat → Int) (w : World) (ha : Small a) (hb : Small b) :
    Calls Try.prog 3 #[mvf a, mvf b] w fun e w' => e = .returned (.bool true) ∧ Below w.heap.size w w' := by
  have HA := Lib.hid ha; clear ha
  have HB := Lib.hid hb; clear hb
  have HX := Lib.hid (boxes w 24 a b)
  go_enter Try.func3, Try.ntmps3
  go_wp2_with fail
  refine (mul_any a b _ HA.out HB.out).mono ?_
  rintro e w1 ⟨rfl, hb1⟩
  have Z1 := hb1.size
  have A1 := rowBelow HX.out.1 hb1 (by simp; omega)
  have B1 := rowBelow HX.out.2 hb1 (by simp)
  have L1 := Lib.hid ((Below.refl _ _).alloc (Nat.le_refl _) _ |>.alloc (by go_size) _ |>.trans (hb1.mono (by go_size)) : Below w.heap.size w w1)
  clear hb1 HX
  have LA := A1.lt
  have LB := B1.lt
  obtain ⟨a10, a11, a12, a13⟩ := rowc A1
  obtain ⟨b10, b11, b12, b13⟩ := rowc B1
  go_wp2_with fail
  refine (div_any a b _ HA.out HB.out).mono ?_
  rintro e w2 ⟨rfl, hb2⟩
  have A2 := rowBelow (A1.alloc (.cells (arr4 (mulM a b)) 24)) hb2 (by simp; omega)
  have B2 := rowBelow (B1.alloc (.cells (arr4 (mulM a b)) 24)) hb2 (by simp; omega)
  have P2 := rowBelow (rowNew w1 24 (mulM a b)) hb2 (by simp)
  have L2 := Lib.hid (L1.out.alloc (by have := L1.out.size; omega) _ |>.trans (hb2.mono (by have := L1.out.size; simp; omega)) : Below w.heap.size w w2)
  clear hb2 A1 B1 L1
  clear a10 a11 a12 a13 b10 b11 b12 b13 LA LB Z1
  obtain ⟨a20, a21, a22, a23⟩ := rowc A2
  have LA := A2.lt
  obtain ⟨b20, b21, b22, b23⟩ := rowc B2
  have LB := B2.lt
  obtain ⟨p20, p21, p22, p23⟩ := rowc P2
  have LP := P2.lt
  go_wp2_with fail
  refine (rmul_any a b _ HA.out HB.out).mono ?_
  rintro e w3 ⟨rfl, hb3⟩
  have A3 := rowBelow (A2.alloc (.cells (arr4 (divM a b)) 24)) hb3 (by simp; omega)
  have B3 := rowBelow (B2.alloc (.cells (arr4 (divM a b)) 24)) hb3 (by simp; omega)
  have P3 := rowBelow (P2.alloc (.cells (arr4 (divM a b)) 24)) hb3 (by simp; omega)
  have Q3 := rowBelow (rowNew w2 24 (divM a b)) hb3 (by simp)
  have L3 := Lib.hid (L2.out.alloc (by have := L2.out.size; omega) _ |>.trans (hb3.mono (by have := L2.out.size; simp; omega)) : Below w.heap.size w w3)
  clear hb3 A2 B2 P2 L2
  clear a20 a21 a22 a23 LA
  clear b20 b21 b22 b23 LB
  clear p20 p21 p22 p23 LP
  obtain ⟨a30, a31, a32, a33⟩ := rowc A3
  have LA := A3.lt
  obtain ⟨b30, b31, b32, b33⟩ := rowc B3
  have LB := B3.lt
  obtain ⟨p30, p31, p32, p33⟩ := rowc P3
  have LP := P3.lt
  obtain ⟨q30, q31, q32, q33⟩ := rowc Q3
  have LQ := Q3.lt
  go_wp2_with fail
  refine (rdiv_any a b _ HA.out HB.out).mono ?_
  rintro e w4 ⟨rfl, hb4⟩
  have A4 := rowBelow (A3.alloc (.cells (arr4 (mulM a b)) 24)) hb4 (by simp; omega)
  have B4 := rowBelow (B3.alloc (.cells (arr4 (mulM a b)) 24)) hb4 (by simp; omega)
  have P4 := rowBelow (P3.alloc (.cells (arr4 (mulM a b)) 24)) hb4 (by simp; omega)
  have Q4 := rowBelow (Q3.alloc (.cells (arr4 (mulM a b)) 24)) hb4 (by simp; omega)
  have R4 := rowBelow (rowNew w3 24 (mulM a b)) hb4 (by simp)
  have L4 := Lib.hid (L3.out.alloc (by have := L3.out.size; omega) _ |>.trans (hb4.mono (by have := L3.out.size; simp; omega)) : Below w.heap.size w w4)
  clear hb4 A3 B3 P3 Q3 L3
  clear a30 a31 a32 a33 LA
  clear b30 b31 b32 b33 LB
  clear p30 p31 p32 p33 LP
  clear q30 q31 q32 q33 LQ
  obtain ⟨a40, a41, a42, a43⟩ := rowc A4
  have LA := A4.lt
  obtain ⟨b40, b41, b42, b43⟩ := rowc B4
  have LB := B4.lt
  obtain ⟨p40, p41, p42, p43⟩ := rowc P4
  have LP := P4.lt
  obtain ⟨q40, q41, q42, q43⟩ := rowc Q4
  have LQ := Q4.lt
  obtain ⟨r40, r41, r42, r43⟩ := rowc R4
  have LR := R4.lt
  go_wp2_with fail
  refine wp_region_quiet_below (by kernel_rfl) (by kernel_rfl) ?_
  obtain ⟨a50, a51, a52, a53⟩ := rows4 (A4.alloc (.cells (arr4 (divM a b)) 24))
  obtain ⟨b50, b51, b52, b53⟩ := rows4 (B4.alloc (.cells (arr4 (divM a b)) 24))
  obtain ⟨p50, p51, p52, p53⟩ := rows4 (P4.alloc (.cells (arr4 (divM a b)) 24))
  obtain ⟨q50, q51, q52, q53⟩ := rows4 (Q4.alloc (.cells (arr4 (divM a b)) 24))
  obtain ⟨r50, r51, r52, r53⟩ := rows4 (R4.alloc (.cells (arr4 (divM a b)) 24))
  obtain ⟨s50, s51, s52, s53⟩ := rows4 (rowNew w4 24 (divM a b))
  have L5 := Lib.hid (fun (o : Obj) (q : Regrown) => (L4.out.alloc (by have := L4.out.size; omega) o).trans ((below_regrown (w4.alloc o) q.d q.os).mono (by have := L4.out.size; simp; omega)))
  repeat (go_big_quiet_step (first
    | (go_at_call 15; exact Calls.regrown_of (lcm_any a b _ HA.out HB.out))
    | (go_at_call 16; exact Calls.regrown_of (rlcm_any a b _ HA.out HB.out))
    | (go_at_call 17; exact Calls.regrown_of (degree_any a _ HA.out))
    | (go_at_call 18; exact Calls.regrown_of (rdegree_any a _ HA.out))))
  refine wpQuiet_nil ?_
  intro w5 hw5
  obtain ⟨q, rfl⟩ := hw5
  go_wp2
  go_ret
  exact ⟨rfl, L5.out _ q⟩

open Go.ChangeShapes Go.WideShapes Go.ChangeAt
theorem own : ownKnob Try.prog.godebug = none := by kernel_rfl
theorem laidOut : laidOutB Try.prog = true := by kernel_rfl
theorem cellsM : Try.prog.cellsOf 24 = 4 := by kernel_rfl
theorem cellsU : Try.prog.cellsOf 22 = 1 := by kernel_rfl

set_option maxRecDepth 100000 in
theorem pairs_lifted (os : Os) (started : os.Started) (H : Type) (enc : TypeId × Value → H) :
    ReturnsInHanded {} Try.checked os 3 .any (Rows.monosPairsSpec.pre6 enc Try.prog Try.f3 Rows.monosPairsRow.domain false) (Rows.monosPairsSpec.post enc Try.prog Try.f3 false true false false) := by
  refine returnsInHanded_of_change (C := Try.checked) own started (by kernel_rfl) Try.func3
    (ChangeSpec.witness6 (enc := enc) (C := Try.checked) false ⟨#[], #[mv 0 0 0 0, mv 0 0 0 0], []⟩ 8 (by kernel_rfl) (by kernel_rfl) (by kernel_rfl) (by kernel_rfl)) ?_
  intro W base args ds gs before hval0 hW hcnd _
  have hval : ∀ (j : Nat) t v, Try.f3.params[j]? = some t → args[j]? = some v → Value.okWide Try.prog W .any base t v := hval0
  have hW' := hW
  obtain ⟨p, q, hA0, hV, rfl, hfz, hnd⟩ := hW
  have hA : DataW.TrodAll enc Try.prog W 0 (fun _ => true) true Try.f3.params.toList args.toList ds p := hA0
  rw [Try.params3] at hA hval
  obtain ⟨v0, v1, d0, d1, p0, p1, rfl, rfl, rfl, h0, h1⟩ := trodAll_two hA
  obtain ⟨rfl, rfl⟩ := trodVars_none hV
  obtain ⟨a, rfl, ha⟩ := LawPost.open_four Try.underlying24 Try.underlying22 cellsU cellsM (hval 0 24 v0 rfl rfl) h0
  obtain ⟨b, rfl, hb⟩ := LawPost.open_four Try.underlying24 Try.underlying22 cellsU cellsM (hval 1 24 v1 rfl rfl) h1
  refine (pairs_walk a b W ha hb).mono fun e W' ⟨he, hg⟩ => ?_
  subst he
  exact ⟨_, rfl, LawPost.law_post laidOut (by kernel_rfl) (by kernel_rfl) Try.underlying4 hW' rfl rfl hg⟩

theorem pairs_holds : Rows.MonosPairsSaid :=
  OpenClaim.holds_of_wide 3 Try.f3 rfl rfl rfl rfl rfl rfl rfl ⟨rfl, rfl, rfl, rfl, rfl⟩ rfl rfl rfl rfl rfl (by kernel_rfl) Try.func3 (by kernel_rfl)
    (of_decide_eq_true (by kernel_rfl)) (by unfold Func.isWrapper; first | (rw [if_pos (by decide +kernel)]; kernel_rfl) | (rw [if_neg (by decide +kernel)]; exact ⟨rfl, rfl⟩))
    (fun os started H enc _ => pairs_lifted os started H enc)
#print axioms pairs_holds
end Go.Proofs.Ytlhkiodgjcbjbaa.Mono
