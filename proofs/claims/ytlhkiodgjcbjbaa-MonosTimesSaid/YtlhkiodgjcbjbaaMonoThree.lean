/-
  Three products in one array: how they come in, and as a row of twelve cells.
-/
import Derived.Test.YtlhkiodgjcbjbaaMonoKeys
import Derived.Test.YtlhkiodgjcbjbaaLawPost
namespace Go.Proofs.Ytlhkiodgjcbjbaa.LawPost
open Go.ChangeShapes Go.WideShapes Go.ChangeAt Go.RowKit
variable {H : Type} {enc : TypeId × Value → H} {P : Program}

/-- Three products come in, in one array. -/
theorem open_twelve {W : World} {base : Nat} {r : Reach} {sp : Nat → Bool} {hd : Bool} {t m e : TypeId} {v : Value} {d : DataW H} {p : List MemPlace} (ht : P.underlying t = some (.array 3 m)) (hm : P.underlying m = some (.array 4 e)) (he : P.underlying e = some (.int .u16))
    (hce : P.cellsOf e = 1) (hcm : P.cellsOf m = 4) (hct : P.cellsOf t = 12) (hok : Value.okWide P W r base t v) (h : DataW.Trod enc P W 0 sp hd t v d p) :
    ∃ a b c : Nat → Int, v = .agg #[.int .u16 (a 0), .int .u16 (a 1), .int .u16 (a 2), .int .u16 (a 3), .int .u16 (b 0), .int .u16 (b 1), .int .u16 (b 2), .int .u16 (b 3), .int .u16 (c 0), .int .u16 (c 1), .int .u16 (c 2), .int .u16 (c 3)] ∧
      (∀ i, i < 4 → 0 ≤ a i ∧ a i ≤ 65535) ∧ (∀ i, i < 4 → 0 ≤ b i ∧ b i ≤ 65535) ∧ (∀ i, i < 4 → 0 ≤ c i ∧ c i ≤ 65535) := by
  obtain ⟨cs, rfl, _⟩ : ∃ cs, v = .agg cs ∧ True := by
    unfold Value.okWide at hok
    rw [ht] at hok
    obtain ⟨cs, h1, _⟩ := hok
    exact ⟨cs, h1, trivial⟩
  obtain ⟨fuel, hf⟩ := h
  obtain ⟨hl, k, _, hk⟩ := trod_arr ht hf
  have hl' : cs.toList.length = 12 := hl.trans hct
  obtain ⟨y0, h0⟩ := hk 0 (by omega)
  obtain ⟨y1, h1⟩ := hk 1 (by omega)
  obtain ⟨y2, h2⟩ := hk 2 (by omega)
  rw [hcm] at h0 h1 h2
  obtain ⟨a, ea, ba⟩ := four_u16 hm he hce hcm h0
  obtain ⟨b, eb, bb⟩ := four_u16 hm he hce hcm h1
  obtain ⟨c, ec, bc⟩ := four_u16 hm he hce hcm h2
  refine ⟨a, b, c, ?_, ba, bb, bc⟩
  have e0 : cs.toList = cs.toList.take 4 ++ ((cs.toList.drop 4).take 4 ++ (cs.toList.drop 8).take 4) := by
    have f1 : cs.toList.take 4 ++ cs.toList.drop 4 = cs.toList := List.take_append_drop 4 _
    have f2 : (cs.toList.drop 4).take 4 ++ (cs.toList.drop 4).drop 4 = cs.toList.drop 4 := List.take_append_drop 4 _
    rw [List.drop_drop] at f2
    have f3 : (cs.toList.drop 8).take 4 = cs.toList.drop 8 := List.take_of_length_le (by rw [List.length_drop]; omega)
    rw [f3]
    rw [show (4 + 4 : Nat) = 8 from rfl] at f2
    rw [f2, f1]
  have ea' : cs.toList.take 4 = _ := ea
  have eb' : (cs.toList.drop 4).take 4 = _ := eb
  have ec' : (cs.toList.drop 8).take 4 = _ := ec
  rw [ea', eb', ec'] at e0
  have e1 : cs = cs.toList.toArray := by simp
  rw [e1, e0]
  rfl
end Go.Proofs.Ytlhkiodgjcbjbaa.LawPost
namespace Go.Proofs.Ytlhkiodgjcbjbaa.Mono
open Go.RowKit Go.Sort
abbrev arr12 (a b c : Nat → Int) : Array Value := #[.int .u16 (a 0), .int .u16 (a 1), .int .u16 (a 2), .int .u16 (a 3), .int .u16 (b 0), .int .u16 (b 1), .int .u16 (b 2), .int .u16 (b 3), .int .u16 (c 0), .int .u16 (c 1), .int .u16 (c 2), .int .u16 (c 3)]
abbrev mv12 (a b c : Nat → Int) : Value := .agg (arr12 a b c)
def cell12 (a b c : Nat → Int) (i : Nat) : Value := ((arr12 a b c)[i]?).getD undef
theorem twelve (a b c : Nat → Int) (i : Nat) (h : i < (arr12 a b c).size) : (arr12 a b c)[i]? = some (cell12 a b c i) := by
  unfold cell12; rw [Array.getElem?_eq_getElem h]; rfl
theorem rowc12 {W : World} {bl : Nat} {t : TypeId} {a b c : Nat → Int} (h : W.rowIs bl t 12 (cell12 a b c)) :
    W.cell? ⟨bl, 0, none⟩ = some (.int .u16 (a 0)) ∧ W.cell? ⟨bl, 1, none⟩ = some (.int .u16 (a 1)) ∧ W.cell? ⟨bl, 2, none⟩ = some (.int .u16 (a 2)) ∧ W.cell? ⟨bl, 3, none⟩ = some (.int .u16 (a 3)) ∧
    W.cell? ⟨bl, 4, none⟩ = some (.int .u16 (b 0)) ∧ W.cell? ⟨bl, 5, none⟩ = some (.int .u16 (b 1)) ∧ W.cell? ⟨bl, 6, none⟩ = some (.int .u16 (b 2)) ∧ W.cell? ⟨bl, 7, none⟩ = some (.int .u16 (b 3)) ∧
    W.cell? ⟨bl, 8, none⟩ = some (.int .u16 (c 0)) ∧ W.cell? ⟨bl, 9, none⟩ = some (.int .u16 (c 1)) ∧ W.cell? ⟨bl, 10, none⟩ = some (.int .u16 (c 2)) ∧ W.cell? ⟨bl, 11, none⟩ = some (.int .u16 (c 3)) :=
  ⟨h.cell (by omega), h.cell (by omega), h.cell (by omega), h.cell (by omega), h.cell (by omega), h.cell (by omega), h.cell (by omega), h.cell (by omega), h.cell (by omega), h.cell (by omega), h.cell (by omega), h.cell (by omega)⟩
theorem rows12 {W : World} {bl : Nat} {t : TypeId} {a b c : Nat → Int} (h : W.rowIs bl t 12 (cell12 a b c)) :
    (∀ d os, (grow (redrawn W d) os).cell? ⟨bl, 0, none⟩ = some (.int .u16 (a 0))) ∧ (∀ d os, (grow (redrawn W d) os).cell? ⟨bl, 1, none⟩ = some (.int .u16 (a 1))) ∧ (∀ d os, (grow (redrawn W d) os).cell? ⟨bl, 2, none⟩ = some (.int .u16 (a 2))) ∧ (∀ d os, (grow (redrawn W d) os).cell? ⟨bl, 3, none⟩ = some (.int .u16 (a 3))) ∧
    (∀ d os, (grow (redrawn W d) os).cell? ⟨bl, 4, none⟩ = some (.int .u16 (b 0))) ∧ (∀ d os, (grow (redrawn W d) os).cell? ⟨bl, 5, none⟩ = some (.int .u16 (b 1))) ∧ (∀ d os, (grow (redrawn W d) os).cell? ⟨bl, 6, none⟩ = some (.int .u16 (b 2))) ∧ (∀ d os, (grow (redrawn W d) os).cell? ⟨bl, 7, none⟩ = some (.int .u16 (b 3))) ∧
    (∀ d os, (grow (redrawn W d) os).cell? ⟨bl, 8, none⟩ = some (.int .u16 (c 0))) ∧ (∀ d os, (grow (redrawn W d) os).cell? ⟨bl, 9, none⟩ = some (.int .u16 (c 1))) ∧ (∀ d os, (grow (redrawn W d) os).cell? ⟨bl, 10, none⟩ = some (.int .u16 (c 2))) ∧ (∀ d os, (grow (redrawn W d) os).cell? ⟨bl, 11, none⟩ = some (.int .u16 (c 3))) := by
  obtain ⟨h0, h1, h2, h3, h4, h5, h6, h7, h8, h9, h10, h11⟩ := rowc12 h
  exact ⟨cell_regrown h0, cell_regrown h1, cell_regrown h2, cell_regrown h3, cell_regrown h4, cell_regrown h5, cell_regrown h6, cell_regrown h7, cell_regrown h8, cell_regrown h9, cell_regrown h10, cell_regrown h11⟩
theorem rowBelow12 {B b : Nat} {W w1 : World} {t : TypeId} {f : Nat → Value} (h : W.rowIs b t 12 f) (hb : Below B W w1) (hlt : b < B) : w1.rowIs b t 12 f := h.of_block (hb.block _ hlt)
theorem boxL (w : World) (t : TypeId) (a b c : Nat → Int) : (w.alloc (.cells (arr12 a b c) t)).rowIs w.heap.size t 12 (cell12 a b c) := w.rowIs_alloc (arr12 a b c) t (cell12 a b c) (twelve a b c)
theorem boxesF (w : World) (t3 t : TypeId) (a b c : Nat → Int) :
    ((((w.alloc (.cells (arr12 a b c) t3)).alloc (.cells (arr4 a) t)).alloc (.cells (arr4 b) t)).alloc (.cells (arr4 c) t)).rowIs (w.heap.size + 1) t 4 (cell a) ∧
    ((((w.alloc (.cells (arr12 a b c) t3)).alloc (.cells (arr4 a) t)).alloc (.cells (arr4 b) t)).alloc (.cells (arr4 c) t)).rowIs (w.heap.size + 1 + 1) t 4 (cell b) ∧
    ((((w.alloc (.cells (arr12 a b c) t3)).alloc (.cells (arr4 a) t)).alloc (.cells (arr4 b) t)).alloc (.cells (arr4 c) t)).rowIs (w.heap.size + 1 + 1 + 1) t 4 (cell c) := by
  have h := boxes3 (w.alloc (.cells (arr12 a b c) t3)) t a b c
  simp only [World.size_alloc] at h
  exact h
theorem cellsL : Try.prog.cellsOf 38 = 12 := by kernel_rfl
end Go.Proofs.Ytlhkiodgjcbjbaa.Mono
