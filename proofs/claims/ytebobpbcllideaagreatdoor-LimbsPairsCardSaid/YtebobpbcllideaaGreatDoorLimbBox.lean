/-
  Boxes of two cells: a number's variable in memory.
-/
import Derived.Test.YtebobpbcllideaaGreatDoorLimbC
namespace Go.Proofs.YtebobpbcllideaaGreatDoor.Limb
open Go.RowKit Go.Sort

/-- A box of two cells, not frozen. -/
def Bx (w : World) (b : Nat) (t : TypeId) (x y : Value) : Prop := w.heap[b]? = some (.cells #[x, y] t (0, 0))
def bxf (x y : Value) (i : Nat) : Value := if i = 0 then x else y
theorem Bx.row {w : World} {b : Nat} {t : TypeId} {x y : Value} (h : Bx w b t x y) : w.rowIs b t 2 (bxf x y) :=
  ⟨#[x, y], h, rfl, fun i hi => by
    match i, hi with
    | 0, _ => rfl
    | 1, _ => rfl⟩
theorem Bx.of_row {w : World} {b : Nat} {t : TypeId} {f : Nat → Value} (h : w.rowIs b t 2 f) : Bx w b t (f 0) (f 1) := by
  obtain ⟨c, hb, hn, hc⟩ := h
  show w.heap[b]? = _
  rw [hb]
  have e : c = #[f 0, f 1] := by
    apply Array.ext
    · simpa using hn
    · intro i h1 h2
      have h3 := hc i (by omega)
      rw [Array.getElem?_eq_getElem h1] at h3
      have h4 : i < 2 := by omega
      have h5 : #[f 0, f 1][i]? = some (f i) := by
        match i, h4 with
        | 0, _ => rfl
        | 1, _ => rfl
      rw [Array.getElem?_eq_getElem h2] at h5
      simp only [Option.some.injEq] at h3 h5
      rw [h3, h5]
  rw [e]
theorem Bx.c0 {w : World} {b : Nat} {t : TypeId} {x y : Value} (h : Bx w b t x y) : w.cell? ⟨b, 0, none⟩ = some x := cell_of_row _ _ _ _ _ _ h
theorem Bx.c1 {w : World} {b : Nat} {t : TypeId} {x y : Value} (h : Bx w b t x y) : w.cell? ⟨b, 1, none⟩ = some y := cell_of_row _ _ _ _ _ _ h
theorem Bx.fz {w : World} {b : Nat} {t : TypeId} {x y : Value} (h : Bx w b t x y) (i : Nat) : w.frozen? ⟨b, i, none⟩ = false := h.row.frozen i
theorem Bx.lt {w : World} {b : Nat} {t : TypeId} {x y : Value} (h : Bx w b t x y) : b < w.heap.size := h.row.lt
theorem Bx.of {w w' : World} {b : Nat} {t : TypeId} {x y : Value} (h : Bx w b t x y) (e : w'.heap[b]? = w.heap[b]?) : Bx w' b t x y := e.trans h
theorem Bx.below {W w : World} {b B : Nat} {t : TypeId} {x y : Value} (h : Bx W b t x y) (hb : Below B W w) (hlt : b < B) : Bx w b t x y := h.of (hb.block _ hlt)
theorem Bx.alloc {w : World} {b : Nat} {t : TypeId} {x y : Value} (h : Bx w b t x y) (o : Obj) : Bx (w.alloc o) b t x y := h.of (Below.heap_alloc _ _ _ h.lt)
theorem Bx.other {w : World} {b : Nat} {t : TypeId} {x y : Value} (h : Bx w b t x y) {a : Addr} (ha : b ≠ a.block) (v : Value) : Bx (w.setCell a v) b t x y := h.of (Below.heap_setCell _ _ _ _ ha)
theorem Bx.new (w : World) (t : TypeId) (x y : Value) : Bx (w.alloc (.cells #[x, y] t)) w.heap.size t x y := by show (w.heap.push _)[w.heap.size]? = _; simp
theorem Bx.new2 (w : World) (p : Obj) (t : TypeId) (x y : Value) : Bx ((w.alloc p).alloc (.cells #[x, y] t)) (w.heap.size + 1) t x y := by have h := Bx.new (w.alloc p) t x y; rw [World.size_alloc] at h; exact h
theorem Bx.new3 (w : World) (p q : Obj) (t : TypeId) (x y : Value) : Bx (((w.alloc p).alloc q).alloc (.cells #[x, y] t)) (w.heap.size + 1 + 1) t x y := by have h := Bx.new2 (w.alloc p) q t x y; rw [World.size_alloc] at h; exact h
theorem Bx.drewN {w : World} {b : Nat} {t : TypeId} {x y : Value} (h : Bx w b t x y) (m : Nat) : Bx (w.drewN m) b t x y := h
theorem Bx.set0 {w : World} {b : Nat} {t : TypeId} {x y : Value} (h : Bx w b t x y) (v : Value) : Bx (w.setCell ⟨b, 0, none⟩ v) b t v y := Bx.of_row (h.row.set 0 v)
theorem Bx.set1 {w : World} {b : Nat} {t : TypeId} {x y : Value} (h : Bx w b t x y) (v : Value) : Bx (w.setCell ⟨b, 1, none⟩ v) b t x v := Bx.of_row (h.row.set 1 v)
theorem Bx.set {w : World} {b : Nat} {t : TypeId} {x y : Value} (h : Bx w b t x y) (u v : Value) : Bx ((w.setCell ⟨b, 0, none⟩ u).setCell ⟨b, 1, none⟩ v) b t u v := (h.set0 u).set1 v
/-- All at once. -/
theorem Bx.all {w : World} {b : Nat} {t : TypeId} {x y : Value} (h : Bx w b t x y) : w.cell? ⟨b, 0, none⟩ = some x ∧ w.cell? ⟨b, 1, none⟩ = some y ∧ (∀ i, w.frozen? ⟨b, i, none⟩ = false) ∧ b < w.heap.size := ⟨h.c0, h.c1, h.fz, h.lt⟩
end Go.Proofs.YtebobpbcllideaaGreatDoor.Limb
