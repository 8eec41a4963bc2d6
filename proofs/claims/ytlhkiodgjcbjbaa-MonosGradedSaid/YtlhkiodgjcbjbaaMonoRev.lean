/-
  The walks of slices.Reverse at four numbers of 16 bits, and of backward.
-/
import Derived.Test.YtlhkiodgjcbjbaaMonoCmp
import Derived.BigRegion
namespace Go.Proofs.Ytlhkiodgjcbjbaa.Mono
open Go.RowKit Go.Sort

def revM (a : Nat → Int) (i : Nat) : Int := a (3 - i)

set_option maxHeartbeats 2000000 in
theorem reverse_any (b t : Nat) (a : Nat → Int) (w : World) (hA : w.rowIs b t 4 (cell a)) :
    Calls Try.prog 32 #[.slice (some ⟨b, 0, none⟩) 4 4] w fun e w' => e = .returned (.tuple #[]) ∧ w'.rowIs b t 4 (cell (revM a)) ∧ w.grownBy w' (some b) := by
  have HR := Lib.hid hA
  obtain ⟨c0, c1, c2, c3⟩ := rowc hA
  have hf := fun i => hA.frozen i
  clear hA
  go_enter Try.func32, Try.ntmps32
  go_wp2
  refine wp_loop_rounds 3 ?_
  rw [rounds_succ]
  go_wp2
  go_region
  go_wp2
  rw [rounds_succ]
  go_wp2
  go_region
  go_wp2
  rw [rounds_succ]
  go_wp2
  go_end0
  have R := ((((HR.out.set 0 (.int .u16 (a 3))).set 3 (.int .u16 (a 0))).set 1 (.int .u16 (a 2))).set 2 (.int .u16 (a 1))).drew.drew
  refine ⟨rfl, R.congr (fun j hj => ?_), rfl, rfl, rfl, ?_, fun k _ hk => ?_⟩
  · match j, hj with
    | 0, _ => simp [revM, cell]
    | 1, _ => simp [revM, cell]
    | 2, _ => simp [revM, cell]
    | 3, _ => simp [revM, cell]
  · simp
  · have e : k ≠ b := fun e => hk (by rw [e])
    show ((((w.setCell ⟨b, 0, none⟩ _).setCell ⟨b, 3, none⟩ _).setCell ⟨b, 1, none⟩ _).setCell ⟨b, 2, none⟩ _).heap[k]? = _
    rw [Below.heap_setCell _ _ _ _ e, Below.heap_setCell _ _ _ _ e, Below.heap_setCell _ _ _ _ e, Below.heap_setCell _ _ _ _ e]

set_option maxHeartbeats 1000000 in
theorem backward_any (a b : Nat → Int) (w : World) :
    Calls Try.prog 29 #[mvf a, mvf b] w fun e w' => e = .returned (.int .i64 (lexM (revM b) (revM a))) ∧ Below w.heap.size w w' := by
  have HX := Lib.hid (boxes w 24 a b)
  go_enter Try.func29, Try.ntmps29
  go_wp2_with fail
  refine (reverse_any _ _ a _ HX.out.1).mono ?_
  rintro e w1 ⟨rfl, hr1, hg1⟩
  have hb1 := hr1
  have HB1 := Lib.hid (HX.out.2.of_block (hg1.block (w.heap.size + 1) (by simp) (by simp)))
  have G1 := Lib.hid ((((Below.refl _ _).alloc (Nat.le_refl _) _).alloc (by simp) _).grown hg1 (by simp; omega) (by simp) : Below w.heap.size w w1)
  have HR1 := Lib.hid hr1
  have HG1 := Lib.hid hg1.size
  clear hr1 hg1 hb1
  go_wp2_with fail
  refine (reverse_any _ _ b _ HB1.out).mono ?_
  rintro e w2 ⟨rfl, hr2, hg2⟩
  have HB2 := Lib.hid hr2
  have HA2 := Lib.hid (HR1.out.of_block (hg2.block w.heap.size (by have := HG1.out; simp at this; omega) (by simp)))
  have G2 := Lib.hid (G1.out.grown hg2 (by have := G1.out.size; omega) (by simp))
  clear hr2 hg2
  go_wp2
  go_quiet (exact Calls.quiet_of_same (compare_any _ _ _ _ (revM b) (revM a) _ (HB2.out.of_block rfl) (HA2.out.of_block rfl)))
  go_wp2
  go_ret
  exact ⟨rfl, below_drewN G2.out _⟩

/-! ### The map of orders: it is made and asked in one call -/
def putObj (X : World) (r : Nat) (o : Obj) : World := { X with heap := X.heap.setIfInBounds r o }
@[go_sem] theorem size_putObj (X : World) (r : Nat) (o : Obj) : (putObj X r o).heap.size = X.heap.size := by simp [putObj]
theorem putObj_same {X : World} {r : Nat} {o o' : Obj} (h : X.heap[r]? = some o') : (putObj X r o).heap[r]? = some o := by
  have := lt_of_block h
  simp [putObj, this]
theorem putObj_other (X : World) {r k : Nat} (o : Obj) (h : k ≠ r) : (putObj X r o).heap[k]? = X.heap[k]? := by
  simp [putObj, Array.getElem?_setIfInBounds]; omega
theorem below_putObj {B : Nat} {w X : World} (h : Below B w X) {r : Nat} (hr : B ≤ r) (o : Obj) : Below B w (putObj X r o) :=
  h.trans ⟨rfl, rfl, rfl, by simp [putObj], fun k hk => putObj_other X o (by omega)⟩
theorem checkKey8 (b : Bool) (n : Nat) (k : Int) (w : World) : (Instr.checkKey b (n + 1) 33 (.int .u8 k)).run Try.prog w = .ok () w := by
  rw [Instr.checkKey]
  simp [Sem.run_bind, run_underlying Try.underlying33]
theorem upd0 {X : World} {r : Nat} (h : X.heap[r]? = some (.map #[] 0)) (k : Int) (v : Value) :
    (Instr.mapUpdate 44 (.map (some r)) (.int .u8 k) v).run Try.prog X = .ok () (putObj X r (.map #[⟨.int .u8 k, v, 0⟩] 1)) := by
  unfold Instr.mapUpdate
  simp [Sem.run_bind, run_underlying Try.underlying44, h, getObj, setObj, checkKey8 _ 9999, Instr.findKey, run_underlying Try.underlying33, Instr.findNow, putObj, Sem.run]
theorem upd1 {X : World} {r : Nat} {k1 : Int} {v1 : Value} (h : X.heap[r]? = some (.map #[⟨.int .u8 k1, v1, 0⟩] 1)) (k : Int) (v : Value) (hk : (k == k1) = false) :
    (Instr.mapUpdate 44 (.map (some r)) (.int .u8 k) v).run Try.prog X = .ok () (putObj X r (.map #[⟨.int .u8 k1, v1, 0⟩, ⟨.int .u8 k, v, 1⟩] 2)) := by
  unfold Instr.mapUpdate
  simp [Sem.run_bind, run_underlying Try.underlying44, h, getObj, setObj, checkKey8 _ 9999, Instr.findKey, run_underlying Try.underlying33, Instr.findNow, Instr.sameNow, putObj, Sem.run, hk]
theorem look2 {X : World} {r : Nat} {k1 k2 : Int} {v1 v2 : Value} (h : X.heap[r]? = some (.map #[⟨.int .u8 k1, v1, 0⟩, ⟨.int .u8 k2, v2, 1⟩] 2)) (k : Int) :
    (Instr.lookup 44 (.map (some r)) (.int .u8 k) false).run Try.prog X = .ok (if (k == k1) = true then v1 else if (k == k2) = true then v2 else .slice none 0 0) X := by
  have hz : ∀ w, (zeroValue 43).run Try.prog w = .ok (.slice none 0 0) w := fun _ => by kernel_rfl
  unfold Instr.lookup
  cases h1 : k == k1 <;> cases h2 : k == k2 <;>
  simp [Sem.run_bind, run_underlying Try.underlying44, h, getObj, checkKey8 _ 9999, Instr.findKey, run_underlying Try.underlying33, Instr.findNow, Instr.sameNow, Sem.run, hz, h1, h2]

abbrev fnG : Value := .func (.func 28) #[] #[]
abbrev fnL : Value := .func (.func 27) #[] #[]
abbrev fnB : Value := .func (.func 29) #[] #[]

/-- The map of orders in memory: the map's block, the two lists'. -/
def Ords (B : Nat) (X : World) : Prop :=
  X.heap[B]? = some (.map #[⟨.int .u8 1, .slice (some ⟨B + 1, 0, none⟩) 2 2, 0⟩, ⟨.int .u8 2, .slice (some ⟨B + 1 + 1, 0, none⟩) 2 2, 1⟩] 2) ∧
  (X.cell? ⟨B + 1, 0, none⟩ = some fnG ∧ X.cell? ⟨B + 1, 1, none⟩ = some fnL) ∧ (X.cell? ⟨B + 1 + 1, 0, none⟩ = some fnG ∧ X.cell? ⟨B + 1 + 1, 1, none⟩ = some fnB)
def ordO (f : Value) : Obj := .cells #[fnG, f] 46
def ordM1 (B : Nat) : Obj := .map #[⟨.int .u8 1, .slice (some ⟨B + 1, 0, none⟩) 2 2, 0⟩] 1
def ordM2 (B : Nat) : Obj := .map #[⟨.int .u8 1, .slice (some ⟨B + 1, 0, none⟩) 2 2, 0⟩, ⟨.int .u8 2, .slice (some ⟨B + 1 + 1, 0, none⟩) 2 2, 1⟩] 2
def ordW (w : World) : World := putObj ((putObj ((w.alloc (.map #[] 0)).alloc (ordO fnL)) w.heap.size (ordM1 w.heap.size)).alloc (ordO fnB)) w.heap.size (ordM2 w.heap.size)
theorem ordW_ok (w : World) : Ords w.heap.size (ordW w) ∧ Below w.heap.size w (ordW w) := by
  have e0 : ((w.alloc (.map #[] 0)).alloc (ordO fnL)).heap[w.heap.size]? = some (.map #[] 0) := (Below.heap_alloc _ _ _ (by simp)).trans (Go.heap_alloc_new w _)
  have e1 : ((w.alloc (.map #[] 0)).alloc (ordO fnL)).heap[w.heap.size + 1]? = some (ordO fnL) := by
    have := Go.heap_alloc_new (w.alloc (.map #[] 0)) (ordO fnL)
    rwa [World.size_alloc] at this
  have f0 := putObj_same (o := ordM1 w.heap.size) e0
  have f1 := (putObj_other ((w.alloc (.map #[] 0)).alloc (ordO fnL)) (ordM1 w.heap.size) (show w.heap.size + 1 ≠ w.heap.size by omega)).trans e1
  have hs : (putObj ((w.alloc (.map #[] 0)).alloc (ordO fnL)) w.heap.size (ordM1 w.heap.size)).heap.size = w.heap.size + 1 + 1 := by simp [size_putObj]
  have g2 := Go.heap_alloc_new (putObj ((w.alloc (.map #[] 0)).alloc (ordO fnL)) w.heap.size (ordM1 w.heap.size)) (ordO fnB)
  rw [hs] at g2
  have g0 := (Below.heap_alloc (putObj ((w.alloc (.map #[] 0)).alloc (ordO fnL)) w.heap.size (ordM1 w.heap.size)) (ordO fnB) _ (by rw [hs]; omega)).trans f0
  have g1 := (Below.heap_alloc (putObj ((w.alloc (.map #[] 0)).alloc (ordO fnL)) w.heap.size (ordM1 w.heap.size)) (ordO fnB) _ (by rw [hs]; omega)).trans f1
  have h0 := putObj_same (o := ordM2 w.heap.size) g0
  have h1 := (putObj_other _ (ordM2 w.heap.size) (show w.heap.size + 1 ≠ w.heap.size by omega)).trans g1
  have h2 := (putObj_other _ (ordM2 w.heap.size) (show w.heap.size + 1 + 1 ≠ w.heap.size by omega)).trans g2
  refine ⟨⟨h0, ⟨?_, ?_⟩, ?_, ?_⟩, ?_⟩
  · exact (cell_of_row _ _ 0 _ _ _ h1)
  · exact (cell_of_row _ _ 1 _ _ _ h1)
  · exact (cell_of_row _ _ 0 _ _ _ h2)
  · exact (cell_of_row _ _ 1 _ _ _ h2)
  · refine below_putObj (Below.alloc (below_putObj (((Below.refl _ _).alloc (Nat.le_refl _) _).alloc (by simp) _) (Nat.le_refl _) _) ?_ _) (Nat.le_refl _) _
    rw [hs]; omega

set_option maxHeartbeats 1000000 in
theorem orders_any (w : World) :
    Calls Try.prog 26 #[] w fun e w' => e = .returned (.map (some w.heap.size)) ∧ Ords w.heap.size w' ∧ Below w.heap.size w w' := by
  have hmm := fun (t : TypeId) (w : World) => run_makeMap (P := Try.prog) t w
  have u0 := fun (o : Obj) v => upd0 (X := (w.alloc (.map #[] 0)).alloc o) (r := w.heap.size) ((Below.heap_alloc _ o _ (by simp)).trans (Go.heap_alloc_new w _)) 1 v
  have u1 := fun (o1 : Obj) v1 (o2 : Obj) v => upd1 (X := (putObj ((w.alloc (.map #[] 0)).alloc o1) w.heap.size (.map #[⟨.int .u8 1, v1, 0⟩] 1)).alloc o2) (r := w.heap.size) (k1 := 1) (v1 := v1)
    ((Below.heap_alloc _ o2 _ (by rw [size_putObj]; simp; omega)).trans (putObj_same ((Below.heap_alloc _ o1 _ (by simp)).trans (Go.heap_alloc_new w _)))) 2 v rfl
  have hok := Lib.hid (ordW_ok w)
  go_enter Try.func26, Try.ntmps26
  go_wp2
  go_ret
  exact ⟨rfl, hok.out⟩
end Go.Proofs.Ytlhkiodgjcbjbaa.Mono
