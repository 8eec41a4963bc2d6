/-
  Lists of parts in memory: what may be read, what a call has made itself.
-/
import Derived.Test.YtebobpbcllideaaGreatDoorLimbPlain2
import Derived.WalkKit
import Derived.WalkSpells
import Derived.WalkLawsBesides
import Derived.BigQuiet
import Derived.Handy
import Derived.Deep.OwnRows
import Derived.Lib.Hide
import Derived.Lib.QuietBelow
import Derived.StillTailTactics
namespace Go.Proofs.YtebobpbcllideaaGreatDoor.Limb
open Go.RowKit Go.Sort

abbrev uc (o : Nat → Int) (i : Nat) : Value := .int .u32 (o i)
/-- A number as a value: its sign, its list. -/
abbrev numV (s : Bool) (a : Option Addr) (n cap : Nat) : Value := .agg #[.bool s, .slice a n cap]

/-- A list of n parts that may be read. -/
structure Rd (w : World) (a : Option Addr) (n : Nat) (o : Nat → Int) : Prop where
  cells : 0 < n → ∃ b off, a = some ⟨b, off, none⟩ ∧ ∀ i, i < n → w.cell? ⟨b, off + i, none⟩ = some (uc o i)
  rng : ∀ i, i < n → 0 ≤ o i ∧ o i ≤ 4294967295
theorem Rd.nil (w : World) (a : Option Addr) (o : Nat → Int) : Rd w a 0 o := ⟨fun h => absurd h (by omega), fun i h => absurd h (by omega)⟩
/-- In a later world that has left old memory alone. -/
theorem Rd.below {w w' : World} {a : Option Addr} {n : Nat} {o : Nat → Int} (h : Rd w a n o) (hb : Below w.heap.size w w') : Rd w' a n o := by
  refine ⟨fun hn => ?_, h.rng⟩
  obtain ⟨b, off, ha, hc⟩ := h.cells hn
  refine ⟨b, off, ha, fun i hi => ?_⟩
  have h1 := hc i hi
  have h2 : b < w.heap.size := block_lt_of_cell h1
  exact (hb.cell (p := ⟨b, off + i, none⟩) h2).trans h1
theorem Rd.drewN {w : World} {a : Option Addr} {n : Nat} {o : Nat → Int} (h : Rd w a n o) (m : Nat) : Rd (w.drewN m) a n o := ⟨h.cells, h.rng⟩
theorem Rd.le {w : World} {a : Option Addr} {n m : Nat} {o : Nat → Int} (h : Rd w a n o) (hm : m ≤ n) : Rd w a m o := by
  refine ⟨fun hn => ?_, fun i hi => h.rng i (by omega)⟩
  obtain ⟨b, off, ha, hc⟩ := h.cells (by omega)
  exact ⟨b, off, ha, fun i hi => hc i (by omega)⟩
theorem Rd.congr {w : World} {a : Option Addr} {n : Nat} {o o' : Nat → Int} (h : Rd w a n o) (e : ∀ i, i < n → o i = o' i) : Rd w a n o' := by
  refine ⟨fun hn => ?_, fun i hi => by rw [← e i hi]; exact h.rng i hi⟩
  obtain ⟨b, off, ha, hc⟩ := h.cells hn
  exact ⟨b, off, ha, fun i hi => by rw [hc i hi]; show some (Value.int .u32 (o i)) = _; rw [e i hi]⟩

/-- A list that the call has made itself: in a block from 'base' on, not frozen, from its head; or it has no room at all. -/
structure Own (T : Nat) (w : World) (base : Nat) (a : Option Addr) (n cap : Nat) (o : Nat → Int) : Prop where
  le : n ≤ cap
  place : (a = none ∧ n = 0 ∧ cap = 0) ∨ ∃ g cur, a = some ⟨g, 0, none⟩ ∧ base ≤ g ∧ w.heap[g]? = some (.cells cur T (0, 0)) ∧ cap ≤ cur.size ∧ ∀ i, i < n → cur[i]? = some (uc o i)
  rng : ∀ i, i < n → 0 ≤ o i ∧ o i ≤ 4294967295
theorem Own.rd {T : Nat} {w : World} {base : Nat} {a : Option Addr} {n cap : Nat} {o : Nat → Int} (h : Own T w base a n cap o) : Rd w a n o := by
  refine ⟨fun hn => ?_, h.rng⟩
  rcases h.place with ⟨_, h0, _⟩ | ⟨g, cur, ha, _, hg, _, hc⟩
  · omega
  · exact ⟨g, 0, ha, fun i hi => by rw [cell_of_row _ _ _ _ _ _ hg, Nat.zero_add]; exact hc i hi⟩
theorem Own.below {T : Nat} {w w' : World} {base : Nat} {a : Option Addr} {n cap : Nat} {o : Nat → Int} (h : Own T w base a n cap o) (hb : Below w.heap.size w w') : Own T w' base a n cap o := by
  refine ⟨h.le, ?_, h.rng⟩
  rcases h.place with h0 | ⟨g, cur, ha, hbg, hg, hcap, hc⟩
  · exact Or.inl h0
  · exact Or.inr ⟨g, cur, ha, hbg, (hb.block g (lt_of_block hg)).trans hg, hcap, hc⟩
theorem Own.mono {T : Nat} {w : World} {base base' : Nat} {a : Option Addr} {n cap : Nat} {o : Nat → Int} (h : Own T w base a n cap o) (hb : base' ≤ base) : Own T w base' a n cap o := by
  refine ⟨h.le, ?_, h.rng⟩
  rcases h.place with h0 | ⟨g, cur, ha, hbg, hg, hcap, hc⟩
  · exact Or.inl h0
  · exact Or.inr ⟨g, cur, ha, by omega, hg, hcap, hc⟩

/-- The result lies in a variable: a row of cells. -/
theorem results_cell {P : Program} {fn : Func} {p : Tmp} {ty : TypeId} (h : fn.results = #[.cell p ty]) (tmps : Array Value) (w : World) (g : Nat) (t : TypeId) (cs : Array Value) (fr : Nat × Nat) (d : TypeDesc)
    (hp : tmps.getD p undef = .pointer (some ⟨g, 0, none⟩)) (hg : w.heap[g]? = some (.cells cs t fr))
    (hu : P.underlying ty = some d) (hd : (match d with | .struct _ | .array _ _ => true | _ => false) = true) (hi : (P.info? ty).map (·.size) = some cs.size) :
    (results fn tmps).run P w = .ok (.agg cs) w := results_cell_row h tmps w g t cs fr d hp hg hu hd hi
theorem bcell {W w1 : World} (hb : Below W.heap.size W w1) : (∀ b o, b < W.heap.size → w1.cell? ⟨b, o, none⟩ = W.cell? ⟨b, o, none⟩) ∧ (∀ b o, b < W.heap.size → w1.frozen? ⟨b, o, none⟩ = W.frozen? ⟨b, o, none⟩) :=
  ⟨fun b o h => hb.cell (p := ⟨b, o, none⟩) h, fun b o h => hb.frozen (p := ⟨b, o, none⟩) h⟩
theorem bdrewN {B : Nat} {a w : World} (h : Below B a w) (n : Nat) : Below B a (w.drewN n) := ⟨h.os, h.tape, h.output, h.size, h.block⟩
end Go.Proofs.YtebobpbcllideaaGreatDoor.Limb
