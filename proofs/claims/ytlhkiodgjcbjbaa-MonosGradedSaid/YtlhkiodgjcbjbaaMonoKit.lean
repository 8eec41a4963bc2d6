/-
  Small lemmas for walks over products of letters: rows of four cells kept through callees that leave old memory alone.
-/
import Derived.Test.YtlhkiodgjcbjbaaMonoRef
import Derived.Lib.QuietBelow
namespace Go.Proofs.Ytlhkiodgjcbjbaa.Mono
open Go.RowKit Go.Sort

theorem rows4 {W : World} {b : Nat} {t : TypeId} {f : Nat → Value} (h : W.rowIs b t 4 f) :
    (∀ d os, (grow (redrawn W d) os).cell? ⟨b, 0, none⟩ = some (f 0)) ∧ (∀ d os, (grow (redrawn W d) os).cell? ⟨b, 1, none⟩ = some (f 1)) ∧
    (∀ d os, (grow (redrawn W d) os).cell? ⟨b, 2, none⟩ = some (f 2)) ∧ (∀ d os, (grow (redrawn W d) os).cell? ⟨b, 3, none⟩ = some (f 3)) :=
  ⟨cell_regrown (h.cell (by omega)), cell_regrown (h.cell (by omega)), cell_regrown (h.cell (by omega)), cell_regrown (h.cell (by omega))⟩
theorem rowc {W : World} {b : Nat} {t : TypeId} {f : Nat → Value} (h : W.rowIs b t 4 f) :
    W.cell? ⟨b, 0, none⟩ = some (f 0) ∧ W.cell? ⟨b, 1, none⟩ = some (f 1) ∧ W.cell? ⟨b, 2, none⟩ = some (f 2) ∧ W.cell? ⟨b, 3, none⟩ = some (f 3) :=
  ⟨h.cell (by omega), h.cell (by omega), h.cell (by omega), h.cell (by omega)⟩
theorem rowBelow {B b : Nat} {W w1 : World} {t : TypeId} {f : Nat → Value} (h : W.rowIs b t 4 f) (hb : Below B W w1) (hlt : b < B) : w1.rowIs b t 4 f := h.of_block (hb.block _ hlt)
theorem rowNew (W : World) (t : TypeId) (a : Nat → Int) : (W.alloc (.cells (arr4 a) t)).rowIs W.heap.size t 4 (cell a) := W.rowIs_alloc (arr4 a) t (cell a) (four a)
/-- The two boxes of a function of two products. -/
theorem boxes (w : World) (t : TypeId) (a b : Nat → Int) : ((w.alloc (.cells (arr4 a) t)).alloc (.cells (arr4 b) t)).rowIs w.heap.size t 4 (cell a) ∧ ((w.alloc (.cells (arr4 a) t)).alloc (.cells (arr4 b) t)).rowIs (w.heap.size + 1) t 4 (cell b) := by
  refine ⟨(rowNew w t a).alloc _, ?_⟩
  have h := rowNew (w.alloc (.cells (arr4 a) t)) t b
  rw [World.size_alloc] at h
  exact h

/-! ### '==' on products -/
theorem eqIn16 (d : Nat) (a b : Int) (w : World) : (Op.equalIn (d + 1) 22 (.int .u16 a) (.int .u16 b)).run Try.prog w = .ok (a == b) w :=
  run_equalIn_int w d 22 .u16 .u16 a b Try.underlying22
theorem part0 (x0 x1 x2 x3 : Int) (w : World) : (Go.part 22 #[Value.int .u16 x0, .int .u16 x1, .int .u16 x2, .int .u16 x3] 0).run Try.prog w = .ok (.int .u16 x0) w := by kernel_rfl
theorem part1 (x0 x1 x2 x3 : Int) (w : World) : (Go.part 22 #[Value.int .u16 x0, .int .u16 x1, .int .u16 x2, .int .u16 x3] 1).run Try.prog w = .ok (.int .u16 x1) w := by kernel_rfl
theorem part2 (x0 x1 x2 x3 : Int) (w : World) : (Go.part 22 #[Value.int .u16 x0, .int .u16 x1, .int .u16 x2, .int .u16 x3] 2).run Try.prog w = .ok (.int .u16 x2) w := by kernel_rfl
theorem part3 (x0 x1 x2 x3 : Int) (w : World) : (Go.part 22 #[Value.int .u16 x0, .int .u16 x1, .int .u16 x2, .int .u16 x3] 3).run Try.prog w = .ok (.int .u16 x3) w := by kernel_rfl
theorem eqIn4 (d : Nat) (x0 x1 x2 x3 y0 y1 y2 y3 : Int) (w : World) : (Op.equalIn (d + 2) 24 (mv x0 x1 x2 x3) (mv y0 y1 y2 y3)).run Try.prog w = .ok (x0 == y0 && (x1 == y1 && (x2 == y2 && x3 == y3))) w := by
  have hs : ∀ w, (sizeOf 22).run Try.prog w = .ok 1 w := fun _ => by kernel_rfl
  rw [Op.equalIn]
  simp only [Sem.run_bind, run_underlying Try.underlying24, Result.andThen_ok, hs]
  simp only [Std.Legacy.Range.forIn_eq_forIn_range', Std.Legacy.Range.size, Nat.sub_zero, Nat.add_sub_cancel, Nat.div_one, List.range'_succ, List.range'_zero, List.forIn_cons, List.forIn_nil]
  simp only [Sem.run_bind, Nat.mul_one, Nat.zero_add, Nat.reduceAdd, part0, eqIn16, Result.andThen_ok]
  by_cases h0 : x0 = y0 <;> by_cases h1 : x1 = y1 <;> by_cases h2 : x2 = y2 <;> by_cases h3 : x3 = y3 <;> simp [h0, h1, h2, h3, Sem.run_bind, part1, part2, part3, eqIn16]
@[go_sem] theorem run_eq4 (x0 x1 x2 x3 y0 y1 y2 y3 : Int) (w : World) : (Op.equalIn 10000 24 (mv x0 x1 x2 x3) (mv y0 y1 y2 y3)).run Try.prog w = .ok (x0 == y0 && (x1 == y1 && (x2 == y2 && x3 == y3))) w :=
  eqIn4 9998 x0 x1 x2 x3 y0 y1 y2 y3 w
end Go.Proofs.Ytlhkiodgjcbjbaa.Mono
