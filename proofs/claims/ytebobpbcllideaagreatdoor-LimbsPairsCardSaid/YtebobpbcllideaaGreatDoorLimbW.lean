/-
  How a number comes in among a law's arguments.
-/
import Derived.Test.YtebobpbcllideaaGreatDoorLimbMem
import Derived.Test.YtebobpbcllideaaGreatDoorLawPost
namespace Go.Proofs.YtebobpbcllideaaGreatDoor.Limb
open Go.RowKit Go.Sort Go.ChangeShapes Go.WideShapes Go.ChangeAt

theorem cellsNum : Tryz.prog.cellsOf 24 = 2 := by kernel_rfl
theorem cellsBool : Tryz.prog.cellsOf 4 = 1 := by kernel_rfl
theorem cellsList : Tryz.prog.cellsOf 22 = 1 := by kernel_rfl
theorem cellsPart : Tryz.prog.cellsOf 57 = 1 := by kernel_rfl

theorem open_list {H : Type} {enc : TypeId × Value → H} {W : World} {sp : Nat → Bool} {hd : Bool} {fuel : Nat} {v : Value} {x : DataW H × List MemPlace}
    (h : DataW.trod enc Tryz.prog W 0 sp hd fuel 22 [v] = some x) : ∃ a n c o, v = .slice a n c ∧ Rd W a n o ∧ n ≤ c := by
  rcases open_ints Tryz.underlying22 Tryz.underlying57 cellsPart h with ⟨e, _⟩ | ⟨a, len, cap, zs, e, _, hl, _, hz, _, hc, hw⟩
  · simp only [List.cons.injEq, and_true] at e
    exact ⟨none, 0, 0, fun _ => 0, e, Rd.nil _ _ _, Nat.le_refl _⟩
  · simp only [List.cons.injEq, and_true] at e
    have hlz : len ≤ zs.length := by rw [hz]; split <;> omega
    refine ⟨some a, len, cap, fun i => zs.getD i 0, e, ⟨fun hn => ?_, fun i hi => ?_⟩, hl⟩
    · obtain ⟨b, off, rfl, h3⟩ := ints_at hc (by omega)
      exact ⟨b, off, rfl, fun i hi => h3 i (by omega)⟩
    · have hmem : zs.getD i 0 ∈ zs := by
        rw [List.getD_eq_getElem?_getD, List.getElem?_eq_getElem (by omega)]
        exact List.getElem_mem _
      exact bounds_u32 (hw _ hmem)

set_option maxRecDepth 100000 in
theorem open_num {H : Type} {enc : TypeId × Value → H} {W : World} {base : Nat} {r : Reach} {sp : Nat → Bool} {hd : Bool} {v : Value} {d : DataW H} {p : List MemPlace}
    (hok : Value.okWide Tryz.prog W r base 24 v) (h : DataW.Trod enc Tryz.prog W 0 sp hd 24 v d p) : ∃ s a n c o, v = numV s a n c ∧ Rd W a n o ∧ n ≤ c := by
  obtain ⟨cs, rfl, _⟩ : ∃ cs, v = .agg cs ∧ True := by
    unfold Value.okWide at hok
    rw [Tryz.underlying24] at hok
    obtain ⟨cs, h1, _⟩ := hok
    exact ⟨cs, h1, trivial⟩
  obtain ⟨fuel, hf⟩ := h
  obtain ⟨xs, m, _, _, hlen, hxl, hfld⟩ := DataW.trod_struct Tryz.underlying24 hf
  have hlen : cs.toList.length = 2 := hlen.trans cellsNum
  obtain ⟨l⟩ := cs
  obtain ⟨x0, x1, rfl⟩ : ∃ x0 x1, l = [x0, x1] := by
    match l, hlen with
    | [x0, x1], _ => exact ⟨x0, x1, rfl⟩
  have h0 : DataW.trod enc Tryz.prog W 0 sp hd m 4 (([x0, x1].drop 0).take (Tryz.prog.cellsOf 4)) = xs[0]? := hfld 0 _ rfl
  have h1 : DataW.trod enc Tryz.prog W 0 sp hd m 22 (([x0, x1].drop 1).take (Tryz.prog.cellsOf 22)) = xs[1]? := hfld 1 _ rfl
  have hx : xs.length = 2 := hxl
  rw [List.getElem?_eq_getElem (by omega)] at h0
  rw [List.getElem?_eq_getElem (by omega)] at h1
  rw [cellsBool] at h0
  rw [cellsList] at h1
  obtain ⟨s, e0, _⟩ := DataW.trod_bool Tryz.underlying4 h0
  obtain ⟨a, n, c, o, e1, hr, hl⟩ := open_list (v := x1) h1
  have e0 : x0 = .bool s := by
    have : [x0] = [Value.bool s] := e0
    simpa using this
  exact ⟨s, a, n, c, o, by rw [e0, e1], hr, hl⟩
end Go.Proofs.YtebobpbcllideaaGreatDoor.Limb
