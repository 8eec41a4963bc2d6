/-
  The walks of Mul, Div, Lcm and Degree of package monos.
-/
import Derived.Test.YtlhkiodgjcbjbaaMonoEach
namespace Go.Proofs.Ytlhkiodgjcbjbaa.Mono
open Go.RowKit

theorem bcell {W w1 : World} (hb : Below W.heap.size W w1) : (∀ b o, b < W.heap.size → w1.cell? ⟨b, o, none⟩ = W.cell? ⟨b, o, none⟩) ∧ (∀ b o, b < W.heap.size → w1.frozen? ⟨b, o, none⟩ = W.frozen? ⟨b, o, none⟩) :=
  ⟨fun b o h => hb.cell (p := ⟨b, o, none⟩) h, fun b o h => hb.frozen (p := ⟨b, o, none⟩) h⟩

theorem set4 {w : World} {b : Nat} {t : TypeId} {f : Nat → Value} (h : w.rowIs b t 4 f) (g : Nat → Int) :
    ((((w.setCell ⟨b, 0, none⟩ (.int .u16 (g 0))).setCell ⟨b, 1, none⟩ (.int .u16 (g 1))).setCell ⟨b, 2, none⟩ (.int .u16 (g 2))).setCell ⟨b, 3, none⟩ (.int .u16 (g 3))).heap[b]? = some (.cells (arr4 g) t (0, 0)) :=
  row_four (((((h.set 0 (.int .u16 (g 0))).set 1 (.int .u16 (g 1))).set 2 (.int .u16 (g 2))).set 3 (.int .u16 (g 3))).congr (g := cell g) (fun j hj => by
    match j, hj with
    | 0, _ => simp
    | 1, _ => simp
    | 2, _ => simp
    | 3, _ => simp))
theorem set4a {w : World} {b : Nat} {t : TypeId} {f : Nat → Value} (h : w.rowIs b t 4 f) (g : Nat → Int) (o : Obj) :
    (((((w.setCell ⟨b, 0, none⟩ (.int .u16 (g 0))).setCell ⟨b, 1, none⟩ (.int .u16 (g 1))).setCell ⟨b, 2, none⟩ (.int .u16 (g 2))).setCell ⟨b, 3, none⟩ (.int .u16 (g 3))).alloc o).heap[b]? = some (.cells (arr4 g) t (0, 0)) :=
  (Below.heap_alloc _ o b (by have := h.lt; simpa using this)).trans (set4 h g)
/-- The result's variable: the third block of the call's own, behind a callee that has left it alone. -/
theorem third (w w1 : World) (o1 o2 : Obj) (T : TypeId) (hb1 : Below (((w.alloc o1).alloc o2).alloc (.cells (arr4 zeroM) T)).heap.size (((w.alloc o1).alloc o2).alloc (.cells (arr4 zeroM) T)) w1) :
    w1.rowIs (w.heap.size + 1 + 1) T 4 (cell zeroM) := by
  have h := World.rowIs_alloc ((w.alloc o1).alloc o2) (arr4 zeroM) T (cell zeroM) (four zeroM)
  rw [World.size_alloc, World.size_alloc] at h
  exact h.of_block (hb1.block _ (by simp))

set_option maxHeartbeats 1000000 in
theorem mul_any (a b : Nat → Int) (w : World) (ha : Small a) (hb : Small b) :
    Calls Try.prog 11 #[mvf a, mvf b] w fun e w' => e = .returned (.tuple #[mvf (mulM a b), .int .i64 (mulE a b)]) ∧ Below w.heap.size w w' := by
  have HA := Lib.hid ha; clear ha
  have HB := Lib.hid hb; clear hb
  go_enter Try.func11, Try.ntmps11
  go_wp2_with fail
  refine (each_mul a b _ HA.out HB.out).mono ?_
  rintro e w1 ⟨rfl, hb1⟩
  obtain ⟨hc, hf⟩ := bcell hb1
  have H3 := Lib.hid (third w w1 _ _ _ hb1)
  have hz : w.heap.size + 1 + 1 < w1.heap.size := by have := hb1.size; simp at this; omega
  have hb0 : Below w.heap.size w w1 := (((Below.refl _ _).alloc (by go_size) _ |>.alloc (by go_size) _).alloc (by go_size) _).trans (hb1.mono (by go_size))
  by_cases h : mulB a b = true
  · have E := Lib.hid (show mulE a b = 0 by simp [mulE, h])
    go_wp2
    refine bodyPost_ret (results_row_tmp rfl _ _ _ _ _ _ _ rfl (set4a H3.out (mulM a b) _) Try.underlying24 rfl (by kernel_rfl)) rfl ⟨by rw [E.out]; rfl, ?_⟩
    go_grown
  · have E := Lib.hid (show mulE a b = 3 by simp [mulE, h])
    go_wp2
    refine bodyPost_ret (results_row_tmp rfl _ _ _ _ _ _ _ rfl (set4a H3.out (mulM a b) _) Try.underlying24 rfl (by kernel_rfl)) rfl ⟨by rw [E.out]; rfl, ?_⟩
    go_grown

set_option maxHeartbeats 1000000 in
theorem div_any (a b : Nat → Int) (w : World) (ha : Small a) (hb : Small b) :
    Calls Try.prog 12 #[mvf a, mvf b] w fun e w' => e = .returned (.tuple #[mvf (divM a b), .bool (divB a b)]) ∧ Below w.heap.size w w' := by
  have HA := Lib.hid ha; clear ha
  have HB := Lib.hid hb; clear hb
  go_enter Try.func12, Try.ntmps12
  go_wp2_with fail
  refine (each_div a b _ HA.out HB.out).mono ?_
  rintro e w1 ⟨rfl, hb1⟩
  obtain ⟨hc, hf⟩ := bcell hb1
  have H3 := Lib.hid (third w w1 _ _ _ hb1)
  have hz : w.heap.size + 1 + 1 < w1.heap.size := by have := hb1.size; simp at this; omega
  have hb0 : Below w.heap.size w w1 := (((Below.refl _ _).alloc (by go_size) _ |>.alloc (by go_size) _).alloc (by go_size) _).trans (hb1.mono (by go_size))
  go_wp2
  refine bodyPost_ret (results_row_tmp rfl _ _ _ _ _ _ _ rfl (set4 H3.out (divM a b)) Try.underlying24 rfl (by kernel_rfl)) rfl ⟨rfl, ?_⟩
  go_grown

set_option maxHeartbeats 1000000 in
theorem lcm_any (a b : Nat → Int) (w : World) (ha : Small a) (hb : Small b) :
    Calls Try.prog 15 #[mvf a, mvf b] w fun e w' => e = .returned (mvf (lcmM a b)) ∧ Below w.heap.size w w' := by
  have HA := Lib.hid ha; clear ha
  have HB := Lib.hid hb; clear hb
  go_enter Try.func15, Try.ntmps15
  go_wp2_with fail
  refine (each_lcm a b _ HA.out HB.out).mono ?_
  rintro e w1 ⟨rfl, hb1⟩
  obtain ⟨hc, hf⟩ := bcell hb1
  have H3 := Lib.hid (third w w1 _ _ _ hb1)
  have hz : w.heap.size + 1 + 1 < w1.heap.size := by have := hb1.size; simp at this; omega
  have hb0 : Below w.heap.size w w1 := (((Below.refl _ _).alloc (by go_size) _ |>.alloc (by go_size) _).alloc (by go_size) _).trans (hb1.mono (by go_size))
  go_wp2
  refine bodyPost_ret (results_cell_row rfl _ _ _ _ _ _ _ rfl (set4a H3.out (lcmM a b) _) Try.underlying24 rfl (by kernel_rfl)) rfl ⟨rfl, ?_⟩
  go_grown

set_option maxHeartbeats 1000000 in
theorem degree_any (a : Nat → Int) (w : World) (ha : Small a) :
    Calls Try.prog 17 #[mvf a] w fun e w' => e = .returned (.int .i64 (degM a)) ∧ Below w.heap.size w w' := by
  obtain ⟨p0, q0⟩ := ha 0 (by omega)
  obtain ⟨p1, q1⟩ := ha 1 (by omega)
  obtain ⟨p2, q2⟩ := ha 2 (by omega)
  obtain ⟨p3, q3⟩ := ha 3 (by omega)
  clear ha
  have i0 : ∀ w, (Instr.index 24 (mvf a) (.int .i64 0)).run Try.prog w = .ok (.int .u16 (a 0)) w := fun _ => by kernel_rfl
  have i1 : ∀ w, (Instr.index 24 (mvf a) (.int .i64 1)).run Try.prog w = .ok (.int .u16 (a 1)) w := fun _ => by kernel_rfl
  have i2 : ∀ w, (Instr.index 24 (mvf a) (.int .i64 2)).run Try.prog w = .ok (.int .u16 (a 2)) w := fun _ => by kernel_rfl
  have i3 : ∀ w, (Instr.index 24 (mvf a) (.int .i64 3)).run Try.prog w = .ok (.int .u16 (a 3)) w := fun _ => by kernel_rfl
  go_enter Try.func17, Try.ntmps17
  go_wp2
  go_rounds 5
  go_ret
  exact ⟨rfl, by go_grown⟩
end Go.Proofs.Ytlhkiodgjcbjbaa.Mono
