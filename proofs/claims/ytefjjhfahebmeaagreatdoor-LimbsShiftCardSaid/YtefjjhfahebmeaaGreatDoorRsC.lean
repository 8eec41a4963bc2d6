/-
  Numbers that a law has made: their variables, their lists, no two in one block; a Book of them; guarded operations in a drawn region.
-/
import Derived.Test.YtefjjhfahebmeaaGreatDoorRsB
import Derived.Deep.DeepCutAuto
import Derived.Laws.CopyRow
import Derived.Deep.RegionHeld3
import Derived.WalkMore
import Derived.Laws.MakeOwn
set_option linter.unusedSimpArgs false
set_option linter.unusedVariables false
namespace Go.Proofs.YtefjjhfahebmeaaGreatDoor.Book
open Go.RowKit Go.Sort Go.Fresh Go.Proofs.YtefjjhfahebmeaaGreatDoor.Limb
structure Touch (U : Nat → Prop) (w w' : World) : Prop where
  os : w'.os = w.os
  tape : w'.tape = w.tape
  output : w'.output = w.output
  size : w.heap.size ≤ w'.heap.size
  block : ∀ k, k < w.heap.size → ¬ U k → w'.heap[k]? = w.heap[k]?
theorem Touch.refl (U : Nat → Prop) (w : World) : Touch U w w := ⟨rfl, rfl, rfl, Nat.le_refl _, fun _ _ _ => rfl⟩
theorem Touch.trans {U : Nat → Prop} {a b c : World} (h : Touch U a b) (k : Touch U b c) : Touch U a c :=
  ⟨k.os.trans h.os, k.tape.trans h.tape, k.output.trans h.output, Nat.le_trans h.size k.size, fun i hi hu => (k.block i (Nat.lt_of_lt_of_le hi h.size) hu).trans (h.block i hi hu)⟩
theorem Touch.mono {U V : Nat → Prop} {a b : World} (h : Touch U a b) (hU : ∀ k, U k → V k) : Touch V a b := ⟨h.os, h.tape, h.output, h.size, fun i hi hu => h.block i hi fun hh => hu (hU i hh)⟩
theorem Touch.of_below {U : Nat → Prop} {a b : World} (h : Below a.heap.size a b) : Touch U a b := ⟨h.os, h.tape, h.output, h.size, fun i hi _ => h.block i hi⟩
theorem Touch.drewN {U : Nat → Prop} {a b : World} (h : Touch U a b) (m : Nat) : Touch U a (b.drewN m) := ⟨h.os, h.tape, h.output, h.size, h.block⟩
theorem Touch.drew {U : Nat → Prop} {a b : World} (h : Touch U a b) : Touch U a b.drew := ⟨h.os, h.tape, h.output, h.size, h.block⟩
theorem Touch.alloc {U : Nat → Prop} {a b : World} (h : Touch U a b) (o : Obj) : Touch U a (b.alloc o) := h.trans (Touch.of_below ((Below.refl _ _).alloc (Nat.le_refl _) o))
theorem Touch.setCell {U : Nat → Prop} {a b : World} (h : Touch U a b) {p : Addr} (hp : U p.block ∨ a.heap.size ≤ p.block) (v : Value) : Touch U a (b.setCell p v) :=
  ⟨h.os, h.tape, h.output, by simpa using h.size, fun i hi hu => by
    rw [Below.heap_setCell _ _ _ _ (fun e => by subst e; rcases hp with hp | hp; exact hu hp; omega)]
    exact h.block i hi hu⟩
theorem Touch.grown {U : Nat → Prop} {a b c : World} {row : Option Nat} (h : Touch U a b) (hg : b.grownBy c row) (hr : ∀ k, row = some k → U k ∨ a.heap.size ≤ k) : Touch U a c :=
  ⟨hg.os.trans h.os, hg.tape.trans h.tape, hg.output.trans h.output, Nat.le_trans h.size hg.size, fun i hi hu => by
    rw [hg.block i (Nat.lt_of_lt_of_le hi h.size) (fun e => by rcases hr i e.symm with h1 | h1; exact hu h1; omega)]
    exact h.block i hi hu⟩
end Go.Proofs.YtefjjhfahebmeaaGreatDoor.Book
namespace Go.Proofs.YtefjjhfahebmeaaGreatDoor.Limb
open Go.RowKit Go.Sort Go.Fresh
theorem Own.keep {T : Nat} {w w' : World} {base : Nat} {a : Option Addr} {n cap : Nat} {o : Nat → Int} (h : Own T w base a n cap o) (hk : ∀ p, a = some p → w'.heap[p.block]? = w.heap[p.block]?) : Own T w' base a n cap o := by
  refine ⟨h.le, ?_, h.rng⟩
  rcases h.place with h0 | ⟨g, cur, ha, hbg, hg, hcap, hc⟩
  · exact Or.inl h0
  · exact Or.inr ⟨g, cur, ha, hbg, (hk _ ha).trans hg, hcap, hc⟩
theorem Own.blk {T : Nat} {w : World} {base : Nat} {a : Option Addr} {n cap : Nat} {o : Nat → Int} (h : Own T w base a n cap o) {p : Addr} (hp : a = some p) : p = ⟨p.block, 0, none⟩ ∧ base ≤ p.block ∧ p.block < w.heap.size := by
  rcases h.place with h0 | ⟨g, cur, ha, hbg, hg, hcap, hc⟩
  · rw [h0.1] at hp; cases hp
  · obtain rfl := Option.some.inj (ha.symm.trans hp)
    exact ⟨rfl, hbg, lt_of_block hg⟩
theorem Own.fz {T : Nat} {w : World} {base g n cap : Nat} {o : Nat → Int} (h : Own T w base (some ⟨g, 0, none⟩) n cap o) (i : Nat) : w.frozen? ⟨g, i, none⟩ = false := by
  rcases h.place with h0 | ⟨g', cur, ha, hbg, hg, hcap, hc⟩
  · cases h0.1
  · cases ha; exact frozen_of_row w _ i cur T hg
theorem Own.cell {T : Nat} {w : World} {base g n cap : Nat} {o : Nat → Int} (h : Own T w base (some ⟨g, 0, none⟩) n cap o) {i : Nat} (hi : i < n) : w.cell? ⟨g, i, none⟩ = some (.int .u32 (o i)) := by
  rcases h.place with h0 | ⟨g', cur, ha, hbg, hg, hcap, hc⟩
  · cases h0.1
  · cases ha
    rw [cell_of_row _ _ _ _ _ _ hg]
    exact hc i hi
theorem Own.congr {T : Nat} {w : World} {base : Nat} {a : Option Addr} {n cap : Nat} {o o' : Nat → Int} (h : Own T w base a n cap o) (e : ∀ i, i < n → o i = o' i) : Own T w base a n cap o' := by
  refine ⟨h.le, ?_, fun i hi => by rw [← e i hi]; exact h.rng i hi⟩
  rcases h.place with h0 | ⟨g, cur, ha, hbg, hg, hcap, hc⟩
  · exact Or.inl h0
  · exact Or.inr ⟨g, cur, ha, hbg, hg, hcap, fun i hi => by rw [hc i hi]; show some (Value.int .u32 (o i)) = _; rw [e i hi]⟩
theorem Own.less {T : Nat} {w : World} {base : Nat} {a : Option Addr} {n cap L : Nat} {o : Nat → Int} (h : Own T w base a n cap o) (hL : L ≤ n) : Own T w base a L cap o := by
  refine ⟨Nat.le_trans hL h.le, ?_, fun i hi => h.rng i (by omega)⟩
  rcases h.place with ⟨e0, h0, h1⟩ | ⟨g, cur, ha, hbg, hg, hcap, hc⟩
  · exact Or.inl ⟨e0, by omega, by omega⟩
  · exact Or.inr ⟨g, cur, ha, hbg, hg, hcap, fun i hi => hc i (by omega)⟩
theorem Own.put {T : Nat} {w : World} {base g n cap : Nat} {o : Nat → Int} (h : Own T w base (some ⟨g, 0, none⟩) n cap o) {t : Nat} (ht : t < n) {v : Int} (hv : 0 ≤ v ∧ v ≤ 4294967295) :
    Own T (w.setCell ⟨g, t, none⟩ (.int .u32 v)) base (some ⟨g, 0, none⟩) n cap (upd o t v) := by
  refine ⟨h.le, ?_, fun i hi => ?_⟩
  · rcases h.place with h0 | ⟨g', cur, ha, hbg, hg, hcap, hc⟩
    · cases h0.1
    · cases ha
      refine Or.inr ⟨g, cur.setIfInBounds t (.int .u32 v), rfl, hbg, heap_setCell_same w g t cur T _ hg, by simpa using hcap, fun i hi => ?_⟩
      rw [Array.getElem?_setIfInBounds]
      by_cases e : t = i
      · subst e
        have := h.le
        rw [if_pos rfl, if_pos (by omega)]
        show _ = some (Value.int .u32 (upd o t v t)); rw [upd_same]
      · rw [if_neg e]
        show _ = some (Value.int .u32 (upd o t v i)); rw [upd_ne _ _ (fun h => e h.symm)]
        exact hc i hi
  · by_cases e : i = t
    · subst e; rw [upd_same]; exact hv
    · rw [upd_ne _ _ e]; exact h.rng i hi
end Go.Proofs.YtefjjhfahebmeaaGreatDoor.Limb
namespace Go.Proofs.YtefjjhfahebmeaaGreatDoor.Book
open Go.RowKit Go.Sort Go.Fresh Go.Proofs.YtefjjhfahebmeaaGreatDoor.Limb
theorem ucs_upd {o : Nat → Int} {n : Nat} {v : Int} : ucs (upd o n v) n = ucs o n := by
  unfold ucs
  refine List.map_congr_left fun i hi => ?_
  rw [List.mem_range] at hi
  show Value.int .u32 (upd o n v i) = .int .u32 (o i)
  rw [upd_ne _ _ (by omega)]
theorem push_any {w : World} {base : Nat} {a : Option Addr} {n cap : Nat} {o : Nat → Int} (h : Own 54 w base a n cap o) (hn : n ≤ 1000000000) (hb : base ≤ w.heap.size) {gs : Nat} {v : Int} (hc : w.cell? ⟨gs, 0, none⟩ = some (.int .u32 v)) (hv : 0 ≤ v ∧ v ≤ 4294967295) (ty m c : Nat) (hm : m = 1) :
    ∃ a' cap' w', (Builtin.append_ #[22, 22] ty #[.slice a n cap, .slice (some ⟨gs, 0, none⟩) m c]).run Tryz.prog w = .ok (.slice a' (n + 1) cap') w' ∧ Own 54 w' base a' (n + 1) cap' (upd o n v) ∧
      ((a' = a ∧ cap' = cap ∧ w.grownBy w' (a.map (·.block))) ∨ ((∃ g, a' = some ⟨g, 0, none⟩ ∧ w.heap.size ≤ g) ∧ w.grownBy w' none ∧ cap < n + 1)) := by
  subst hm
  obtain ⟨i0, hi, hz0, hz1, hz2⟩ := info_parts info32
  have hnews : ∀ j u, [Value.int .u32 v][j]? = some u → w.cell? ((⟨gs, 0, none⟩ : Addr).add j) = some u := by
    intro j u hj
    match j, hj with
    | 0, hj =>
      simp at hj; subst hj
      rw [Addr.add_lit]; exact hc
  have h1 : ∀ u ∈ [Value.int .u32 v], u.oneCell' = true := by intro u hu; simp at hu; subst hu; rfl
  have hrng : ∀ i, i < n + 1 → 0 ≤ upd o n v i ∧ upd o n v i ≤ 4294967295 := by
    intro i hi
    by_cases e : i = n
    · subst e; rw [upd_same]; exact hv
    · rw [upd_ne _ _ e]; exact h.rng i (by omega)
  have grownOwn : ∀ old, old < n + 1 → (w.drew.alloc (.cells ((ucs o n).toArray ++ [Value.int .u32 v].toArray ++ Builtin.zeroCells (Value.int .u32 0).cells (grownCap w (n + 1) old 54 - (n + 1))) 54)).heap.size = w.heap.size + 1 ∧
      Own 54 (w.drew.alloc (.cells ((ucs o n).toArray ++ [Value.int .u32 v].toArray ++ Builtin.zeroCells (Value.int .u32 0).cells (grownCap w (n + 1) old 54 - (n + 1))) 54)) base (some ⟨w.heap.size, 0, none⟩) (n + 1) (grownCap w (n + 1) old 54) (upd o n v) ∧
      w.grownBy (w.drew.alloc (.cells ((ucs o n).toArray ++ [Value.int .u32 v].toArray ++ Builtin.zeroCells (Value.int .u32 0).cells (grownCap w (n + 1) old 54 - (n + 1))) 54)) none := by
    intro old ho
    have hge := grownCap_ge w (n + 1) old 54
    refine ⟨by simp, ⟨hge, Or.inr ⟨w.heap.size, _, rfl, hb, heap_alloc_new w.drew _, ?_, fun i hi => ?_⟩, hrng⟩, ⟨rfl, rfl, rfl, by simp, fun k hk _ => heap_alloc_old w.drew _ hk⟩⟩
    · simp only [Array.size_append, List.size_toArray, size_zeroCells, ucs_len, List.length_cons, List.length_nil]
      show _ ≤ n + (0 + 1) + _ * 1
      omega
    · rw [Array.getElem?_append_left (by simp only [Array.size_append, List.size_toArray, ucs_len, List.length_cons, List.length_nil]; omega), ← Array.getElem?_toList, Array.toList_append]
      show (ucs o n ++ [Value.int .u32 v])[i]? = some (uc (upd o n v) i)
      rw [← ucs_get (upd o n v) (n + 1) i hi, ucs_succ, ucs_upd]
      show _ = (ucs o n ++ [Value.int .u32 (upd o n v n)])[i]?
      rw [upd_same]
  rcases h.place with ⟨rfl, rfl, rfl⟩ | ⟨g, cur, rfl, hbg, hg, hcap, hcc⟩
  · have hr := run_append_nil (P := Tryz.prog) w 22 ty 54 i0 (.int .u32 0) Tryz.underlying22 hi hz0 ⟨gs, 0, none⟩ 1 c [.int .u32 v] (by rw [hz1]; rfl) hnews (by omega) (by omega) (by rw [hz2]; omega)
    have hgr := grownOwn 0 (by omega)
    simp only [Nat.zero_add, ucs, List.range_zero, List.map_nil, Array.empty_append] at hgr
    refine ⟨_, _, _, hr, hgr.2.1, Or.inr ⟨⟨_, rfl, Nat.le_refl _⟩, hgr.2.2, by omega⟩⟩
  · by_cases hroom : n + 1 ≤ cap
    · have hr := run_append_room (P := Tryz.prog) w 22 ty 54 i0 Tryz.underlying22 hi g n cap cur hg ⟨gs, 0, none⟩ 1 c [.int .u32 v] (by rw [hz1]; rfl) hnews h1 hroom (by rw [hz1]; simp; omega)
      refine ⟨_, _, _, hr, ⟨hroom, Or.inr ⟨g, _, rfl, hbg, setRow_heap w g cur _ _ _ hg, ?_, fun i hi => ?_⟩, hrng⟩, Or.inl ⟨rfl, rfl, ⟨rfl, rfl, rfl, by simp, fun k _ hk => setRow_other w g k _ (fun e => hk (by simp [e]))⟩⟩⟩
      · simp only [List.size_toArray, List.length_append, List.length_take, List.length_drop, Array.length_toList, List.length_cons, List.length_nil]
        omega
      · rw [hz1, Nat.mul_one]
        rw [List.getElem?_toArray, List.append_assoc]
        have hlt : (cur.toList.take n).length = n := by simp; omega
        by_cases e : i < n
        · rw [List.getElem?_append_left (by rw [hlt]; exact e), List.getElem?_take, if_pos e]
          have := hcc i e
          rw [Array.getElem?_toList, this]
          show some (Value.int .u32 (o i)) = some (Value.int .u32 (upd o n v i))
          rw [upd_ne _ _ (by omega)]
        · obtain rfl : i = n := by omega
          rw [List.getElem?_append_right (by rw [hlt]; exact Nat.le_refl _), hlt, Nat.sub_self]
          show some (Value.int .u32 v) = some (Value.int .u32 (upd o i v i))
          rw [upd_same]
    · have holds : ∀ j u, (ucs o n)[j]? = some u → w.cell? ((⟨g, 0, none⟩ : Addr).add j) = some u := by
        intro j u hj
        obtain ⟨hj1, rfl⟩ := ucs_get' hj
        rw [Addr.add_lit, Nat.zero_add, cell_of_row _ _ _ _ _ _ hg]
        exact hcc j hj1
      have hle := h.le
      have hr := run_append_grow (P := Tryz.prog) w 22 ty 54 i0 (.int .u32 0) Tryz.underlying22 hi hz0 ⟨g, 0, none⟩ n cap (ucs o n) (by rw [ucs_len, hz1]; omega) holds ⟨gs, 0, none⟩ 1 c [.int .u32 v] (by rw [hz1]; rfl) hnews (by omega) (by omega) (growslice_fits (by omega) (by rw [hz2]; omega))
      have hgr := grownOwn cap (by omega)
      exact ⟨_, _, _, hr, hgr.2.1, Or.inr ⟨⟨_, rfl, Nat.le_refl _⟩, hgr.2.2, by omega⟩⟩
theorem wpList_push {ops : Array Oper} {rest : List Oper} {oo : Oper} {ac : Act} {Q : Exit → Act → World → Prop} (hgd : oo.guard = none) (s x : Operand)
    (ho : oo.op = .call { callee := .builtin .append, args := #[s, x], argTypes := #[22, 22] })
    {w : World} {base : Nat} {a : Option Addr} {n cap : Nat} {o : Nat → Int} (hs : ac.eval s = .slice a n cap) (h : Own 54 w base a n cap o) (hn : n ≤ 1000000000) (hb : base ≤ w.heap.size)
    {gs : Nat} {v : Int} {m c : Nat} (hx : ac.eval x = .slice (some ⟨gs, 0, none⟩) m c) (hc : w.cell? ⟨gs, 0, none⟩ = some (.int .u32 v)) (hv : 0 ≤ v ∧ v ≤ 4294967295) (hm : m = 1)
    (hK : ∀ a' cap' w', Own 54 w' base a' (n + 1) cap' (upd o n v) → ((a' = a ∧ cap' = cap ∧ w.grownBy w' (a.map (·.block))) ∨ ((∃ g, a' = some ⟨g, 0, none⟩ ∧ w.heap.size ≤ g) ∧ w.grownBy w' none ∧ cap < n + 1)) →
      wpList Tryz.prog ops Q rest (ac.put oo.dst (.slice a' (n + 1) cap')) w') : wpList Tryz.prog ops Q (oo :: rest) ac w := by
  refine wpList_plain hgd fun K hK' => ?_
  obtain ⟨a', cap', w', hr, h2, h3⟩ := push_any h hn hb hc hv oo.type m c hm
  unfold Oper.wp execOp
  simp only [ho, resolve, invoke, builtin, Sem.run_bind, Sem.run_pure, Result.andThen_ok, List.map_toArray, List.map_cons, List.map_nil, hs, hx, hr]
  exact hK' _ _ (hK _ _ _ h2 h3)
def mk (j : Nat) : Int := 1001 + j
end Go.Proofs.YtefjjhfahebmeaaGreatDoor.Book
namespace Go.Proofs.YtefjjhfahebmeaaGreatDoor.Limb
open Go.RowKit Go.Sort Go.Fresh
end Go.Proofs.YtefjjhfahebmeaaGreatDoor.Limb
namespace Go.Proofs.YtefjjhfahebmeaaGreatDoor.Book
open Go.RowKit Go.Sort Go.Fresh Go.Proofs.YtefjjhfahebmeaaGreatDoor.Limb
def bkf (k : Nat) (v : Value) (i : Nat) : Value := if i = 0 then .int .i64 k else if i = 2 then v else .slice none 0 0
def Arr (w : World) (vb k : Nat) (A : Nat → Option Addr) (N C : Nat → Nat) (X : Nat → Value) : Prop :=
  ∃ m f, w.rowIs vb 121 m f ∧ ∀ j, j < k → 3 * j + 2 < m ∧ f (3 * j) = .slice (A j) (N j) (C j) ∧ f (3 * j + 1) = X j ∧ f (3 * j + 2) = .int .i64 ((j : Int) + 1)
theorem Arr.cells {w : World} {vb k : Nat} {A : Nat → Option Addr} {N C : Nat → Nat} {X : Nat → Value} (h : Arr w vb k A N C X) {j : Nat} (hj : j < k) :
    w.cell? ⟨vb, j * 3, none⟩ = some (.slice (A j) (N j) (C j)) ∧ w.cell? ⟨vb, j * 3 + 1, none⟩ = some (X j) ∧ w.cell? ⟨vb, j * 3 + 2, none⟩ = some (.int .i64 ((j : Int) + 1)) ∧ (∀ i, w.frozen? ⟨vb, i, none⟩ = false) ∧ vb < w.heap.size := by
  obtain ⟨m, f, hR, hE⟩ := h
  obtain ⟨h1, h2, h3, h4⟩ := hE j hj
  rw [Nat.mul_comm j 3]
  exact ⟨by rw [← h2]; exact hR.cell (by omega), by rw [← h3]; exact hR.cell (by omega), by rw [← h4]; exact hR.cell (by omega), hR.frozen, hR.lt⟩
theorem Arr.keep {w w' : World} {vb k : Nat} {A : Nat → Option Addr} {N C : Nat → Nat} {X : Nat → Value} (h : Arr w vb k A N C X) (e : w'.heap[vb]? = w.heap[vb]?) : Arr w' vb k A N C X := by
  obtain ⟨m, f, hR, hE⟩ := h
  exact ⟨m, f, hR.of_block e, hE⟩
theorem Arr.lt {w : World} {vb k : Nat} {A : Nat → Option Addr} {N C : Nat → Nat} {X : Nat → Value} (h : Arr w vb k A N C X) : vb < w.heap.size := by
  obtain ⟨m, f, hR, hE⟩ := h
  exact hR.lt
def UA (k : Nat) (A : Nat → Option Addr) (g : Nat) : Prop := ∃ j, j < k ∧ ∃ p, A j = some p ∧ p.block = g
def Part (k : Nat) (A : Nat → Option Addr) : Prop := ∀ i, i < k → ∀ j, j < k → i ≠ j → ∀ p q, A i = some p → A j = some q → p.block ≠ q.block
def hcell (a : Option Addr) (n c : Nat) (x : Value) (q : Int) (i : Nat) : Value := if i = 0 then .slice a n c else if i = 1 then x else .int .i64 q
end Go.Proofs.YtefjjhfahebmeaaGreatDoor.Book
namespace Go.Proofs.YtefjjhfahebmeaaGreatDoor.Limb
open Go.RowKit Go.Sort Go.Fresh
theorem pw_div_succ (M k : Nat) : M / pw k / 1000000000 = M / pw (k + 1) := by rw [pw_succ, Nat.div_div_eq_div_mul]
theorem pw_div_pos {M k : Nat} : 0 < M / pw k ↔ k < lenB M := by
  constructor
  · intro h
    refine lenB_ge ?_
    rcases Nat.lt_or_ge M (pw k) with h1 | h1
    · rw [Nat.div_eq_of_lt h1] at h; omega
    · exact h1
  · intro h
    exact Nat.div_pos (pw_le_of_lenB h) (pw_pos k)
theorem u64_of_neg {M : Nat} (h0 : 0 < M) (h1 : M ≤ 9223372036854775808) : ∃ U, IntKind.u64.wrap (-(M : Int)) = U ∧ IntKind.u64.wrap (-U) = (M : Int) := by
  refine ⟨18446744073709551616 - (M : Int), ?_, ?_⟩
  · show (-(M : Int)) % 18446744073709551616 = _
    omega
  · show (-(18446744073709551616 - (M : Int))) % 18446744073709551616 = _
    omega
theorem len3 {M : Nat} (h : M ≤ 9223372036854775808) : lenB M ≤ 3 := lenB_le (Nat.lt_of_le_of_lt h (by decide))
theorem neg_canon (M : Nat) (h0 : 0 < M) : (true && decide (0 < lenB M)) = decide (-(M : Int) < 0) := by
  have h1 : 0 < lenB M := by
    have := lenB_pos (m := M) (by omega); omega
  rw [decide_eq_true h1, decide_eq_true (show -(M : Int) < 0 by omega)]; rfl
theorem pos_canon (M : Nat) : (false && decide (0 < lenB M)) = decide ((M : Int) < 0) := by
  rw [decide_eq_false (show ¬ (M : Int) < 0 by omega)]; rfl
set_option maxRecDepth 100000 in
set_option maxHeartbeats 2000000 in
theorem of64_pos (M : Nat) (w : World) (h : M ≤ 9223372036854775807) : Calls Tryz.prog 13 #[.int .i64 (M : Int)] w (ResN w (M : Int)) := by
  obtain ⟨i0, hi, hz0, hz1, hz2⟩ := info_parts info32
  have e1 := IntWalk.u64_in (M : Int) (by omega)
  have hlt : ¬ (M : Int) < 0 := by omega
  have hge : (0 : Int) ≤ (M : Int) := by omega
  have HM := Lib.hid (show M ≤ 9223372036854775808 by omega)
  clear h
  go_enter Tryz.func13, Tryz.ntmps13
  have HLN := Lib.hid (len3 HM.out)
  go_wp2_with fail
  go_loopw [3, 4] (fun x v wr => ∃ k : Nat, k ≤ lenB M ∧ x = .int .u64 ((M / pw k : Nat) : Int) ∧ wr.ownsRow (w.heap.size + 1) 54 1 v k (ucs (dgi M) k) ∧ Below w.heap.size w wr ∧ Bx wr w.heap.size 24 (.bool false) (.slice none 0 0)) (fun x _ _ => (intOf x).toNat)
  case atStart => exact ⟨0, Nat.zero_le _, by rw [pw_zero, Nat.div_one], Own.row_nil _ _ _, by (repeat' (first | (with_reducible exact Below.refl _ _) | (with_reducible assumption) | (with_reducible refine Below.alloc ?_ ?_ _) | (with_reducible refine Below.drew ?_) | (with_reducible refine bdrewN ?_ _) | (with_reducible refine Below.setCell ?_ ?_ _) | (with_reducible refine Below.frame ?_ _) | go_size)), Bx.new _ _ _ _⟩
  case round =>
    obtain ⟨k, hk, rfl, hO, hG, hB⟩ := hrel
    obtain ⟨X, hX⟩ : ∃ X, X = M / pw k := ⟨_, rfl⟩
    have HXM := Lib.hid hX
    have HXle := Lib.hid (show X ≤ 9223372036854775808 by rw [hX]; exact Nat.le_trans (Nat.div_le_self _ _) HM.out)
    have HP := Lib.hid (pw_div_pos (M := M) (k := k))
    have HD := Lib.hid (pw_div_succ M k)
    rw [← hX] at HP HD ⊢
    have HO := Lib.hid hO; have HG := Lib.hid hG; have HB := Lib.hid hB; have HK := Lib.hid hk
    clear hO hG hB hX hk
    by_cases h0 : 0 < X
    · have hk2 : k < lenB M := HP.out.1 h0
      have t1 : (X : Int).tmod 1000000000 = dgi M k := by
        rw [Int.tmod_eq_emod_of_nonneg (by omega)]
        have hdg : X % 1000000000 = dg M k := by rw [HXM.out]; rfl
        show _ = ((dg M k : Nat) : Int); omega
      obtain ⟨Y, hY⟩ : ∃ Y, Y = M / pw (k + 1) := ⟨_, rfl⟩
      rw [← hY] at HD
      have HY := Lib.hid hY
      clear hY
      have t2 : (X : Int).tdiv 1000000000 = (Y : Int) := by rw [Int.tdiv_eq_ediv_of_nonneg (by omega), ← HD.out]; omega
      have hdb : 0 ≤ dgi M k ∧ dgi M k ≤ 999999999 := by have := dgi_Dig M (k + 1) k (by omega); omega
      have u1 := IntWalk.u32_in (dgi M k) (by omega)
      have u2 := IntWalk.u64_in (dgi M k) (by omega)
      have u3 := IntWalk.u64_in (Y : Int) (by have h9 := HD.out; have := HXle.out; omega)
      have hx0 : 0 < (X : Int) := by omega
      have hL3 := HLN.out
      have HLE := Lib.hid (show Y < X by have h9 := HD.out; omega)
      go_wp2_with (first | (at_builtin; refine wpList_append_own _ rfl _ _ 22 rfl (w.heap.size + 1) 54 i0 (.int .u32 0) 1 4 Tryz.underlying22 hi hz0 hz1 hz2 rfl (by decide) _ _ _ rfl (HO.out.alloc _) ⟨wr.heap.size, 0, none⟩ 1 1 [.int .u32 (dgi M k)] rfl rfl ?c1 ?c2 ?c3 ?c4 ?c5 ?_))
      case c1 =>
        intro t u ht
        match t, ht with
        | 0, ht => simp at ht; subst ht; simp [Addr.add]
      case c2 => intro u hu; simp at hu; subst hu; rfl
      case c3 => unfold maxLen; omega
      case c4 => omega
      case c5 => have := HB.out.lt; simp; omega
      intro v' w1 hown' hgrow _
      have O2 := Lib.hid (show w1.ownsRow (w.heap.size + 1) 54 1 v' (k + 1) (ucs (dgi M) (k + 1)) by rw [ucs_succ]; exact hown')
      have G2 := Lib.hid ((HG.out.alloc HG.out.size _).grown hgrow (by have := HG.out.size; simp; omega) (fun g hg => Nat.le_of_succ_le (ownBlock_ge HO.out hg)))
      have B2 := Lib.hid ((HB.out.alloc (.cells #[.int .u32 (dgi M k)] 54)).of (hgrow.block w.heap.size (HB.out.alloc _).lt (fun e => by have := ownBlock_ge HO.out e.symm; omega)))
      clear hown' hgrow
      go_wp2_with fail
      go_roundw
      case rel => exact ⟨k + 1, by omega, by rw [HY.out], O2.out, G2.out, B2.out⟩
      case measure => simp [intOf]; have h9 := HLE.out; omega
    · obtain rfl : X = 0 := by omega
      obtain rfl : k = lenB M := by have := HK.out; have := mt HP.out.2 (by omega); omega
      obtain ⟨a, cap, rfl, hOw, hcap⟩ := Own.of_row HO.out (fun i hi => by have := dgi_Dig M (lenB M) i hi; omega)
      have HOW := Lib.hid hOw
      have HCP := Lib.hid hcap
      clear h0 hOw hcap
      have hL3 := HLN.out
      have CUT := Lib.hid (cut_any false a (lenB M) cap (dgi M) wr HOW.out.rd (dgi_Dig _ _) (by omega) HOW.out.le HCP.out)
      rw [sumB_dgi, Int.toNat_natCast, pos_canon M] at CUT
      go_wp2_with fail
      refine CUT.out.mono ?_
      rintro e w2 ⟨rfl, hb2⟩
      have B3 := HB.out.below hb2 HB.out.lt
      have HB3 := Lib.hid B3
      have HO3 := Lib.hid (HOW.out.below hb2)
      have HG3 := Lib.hid (HG.out.trans (hb2.mono HG.out.size))
      obtain ⟨b30, b31, b32, b33⟩ := B3.all
      clear B3 hb2 CUT
      go_wp2_with fail
      refine bodyPost_ret (results_cell rfl _ _ _ _ _ _ _ rfl (HB3.out.set _ _) Tryz.underlying24 rfl (by kernel_rfl)) rfl ⟨a, by first | (rw [show ((M : Int)).natAbs = M by omega]; done) | (rw [show ((M : Int)).natAbs = M by omega, decide_eq_true (show -(M : Int) < 0 by omega)]), ?_, ?_, ?_⟩
      · rw [show ((M : Int)).natAbs = M by omega]; exact (((HO3.out.cut (Nat.le_refl _) (fun i _ => rfl)).other (by dsimp only; omega) _).other (by dsimp only; omega) _).mono (by omega)
      · rw [show ((M : Int)).natAbs = M by omega]; intro h; have h1 := HO3.out.le; have h2 := HCP.out h; omega
      · exact (HG3.out.setCell (by dsimp only; omega) _).setCell (by dsimp only; omega) _
set_option maxRecDepth 100000 in
set_option maxHeartbeats 2000000 in
theorem of64_neg (M : Nat) (w : World) (h0 : 0 < M) (h : M ≤ 9223372036854775808) : Calls Tryz.prog 13 #[.int .i64 (-(M : Int))] w (ResN w (-(M : Int))) := by
  obtain ⟨i0, hi, hz0, hz1, hz2⟩ := info_parts info32
  obtain ⟨U, e1, e2⟩ := u64_of_neg h0 h
  have hlt : -(M : Int) < 0 := by omega
  have H0 := Lib.hid h0
  have hp0 : (0 : Int) < (M : Int) := by omega
  have HM := Lib.hid (show M ≤ 9223372036854775808 by omega)
  clear h
  go_enter Tryz.func13, Tryz.ntmps13
  have HLN := Lib.hid (len3 HM.out)
  go_wp2_with fail
  go_loopw [3, 4] (fun x v wr => ∃ k : Nat, k ≤ lenB M ∧ x = .int .u64 ((M / pw k : Nat) : Int) ∧ wr.ownsRow (w.heap.size + 1) 54 1 v k (ucs (dgi M) k) ∧ Below w.heap.size w wr ∧ Bx wr w.heap.size 24 (.bool false) (.slice none 0 0)) (fun x _ _ => (intOf x).toNat)
  case atStart => exact ⟨0, Nat.zero_le _, by rw [pw_zero, Nat.div_one], Own.row_nil _ _ _, by (repeat' (first | (with_reducible exact Below.refl _ _) | (with_reducible assumption) | (with_reducible refine Below.alloc ?_ ?_ _) | (with_reducible refine Below.drew ?_) | (with_reducible refine bdrewN ?_ _) | (with_reducible refine Below.setCell ?_ ?_ _) | (with_reducible refine Below.frame ?_ _) | go_size)), Bx.new _ _ _ _⟩
  case round =>
    obtain ⟨k, hk, rfl, hO, hG, hB⟩ := hrel
    obtain ⟨X, hX⟩ : ∃ X, X = M / pw k := ⟨_, rfl⟩
    have HXM := Lib.hid hX
    have HXle := Lib.hid (show X ≤ 9223372036854775808 by rw [hX]; exact Nat.le_trans (Nat.div_le_self _ _) HM.out)
    have HP := Lib.hid (pw_div_pos (M := M) (k := k))
    have HD := Lib.hid (pw_div_succ M k)
    rw [← hX] at HP HD ⊢
    have HO := Lib.hid hO; have HG := Lib.hid hG; have HB := Lib.hid hB; have HK := Lib.hid hk
    clear hO hG hB hX hk
    by_cases h0 : 0 < X
    · have hk2 : k < lenB M := HP.out.1 h0
      have t1 : (X : Int).tmod 1000000000 = dgi M k := by
        rw [Int.tmod_eq_emod_of_nonneg (by omega)]
        have hdg : X % 1000000000 = dg M k := by rw [HXM.out]; rfl
        show _ = ((dg M k : Nat) : Int); omega
      obtain ⟨Y, hY⟩ : ∃ Y, Y = M / pw (k + 1) := ⟨_, rfl⟩
      rw [← hY] at HD
      have HY := Lib.hid hY
      clear hY
      have t2 : (X : Int).tdiv 1000000000 = (Y : Int) := by rw [Int.tdiv_eq_ediv_of_nonneg (by omega), ← HD.out]; omega
      have hdb : 0 ≤ dgi M k ∧ dgi M k ≤ 999999999 := by have := dgi_Dig M (k + 1) k (by omega); omega
      have u1 := IntWalk.u32_in (dgi M k) (by omega)
      have u2 := IntWalk.u64_in (dgi M k) (by omega)
      have u3 := IntWalk.u64_in (Y : Int) (by have h9 := HD.out; have := HXle.out; omega)
      have hx0 : 0 < (X : Int) := by omega
      have hL3 := HLN.out
      have HLE := Lib.hid (show Y < X by have h9 := HD.out; omega)
      go_wp2_with (first | (at_builtin; refine wpList_append_own _ rfl _ _ 22 rfl (w.heap.size + 1) 54 i0 (.int .u32 0) 1 4 Tryz.underlying22 hi hz0 hz1 hz2 rfl (by decide) _ _ _ rfl (HO.out.alloc _) ⟨wr.heap.size, 0, none⟩ 1 1 [.int .u32 (dgi M k)] rfl rfl ?c1 ?c2 ?c3 ?c4 ?c5 ?_))
      case c1 =>
        intro t u ht
        match t, ht with
        | 0, ht => simp at ht; subst ht; simp [Addr.add]
      case c2 => intro u hu; simp at hu; subst hu; rfl
      case c3 => unfold maxLen; omega
      case c4 => omega
      case c5 => have := HB.out.lt; simp; omega
      intro v' w1 hown' hgrow _
      have O2 := Lib.hid (show w1.ownsRow (w.heap.size + 1) 54 1 v' (k + 1) (ucs (dgi M) (k + 1)) by rw [ucs_succ]; exact hown')
      have G2 := Lib.hid ((HG.out.alloc HG.out.size _).grown hgrow (by have := HG.out.size; simp; omega) (fun g hg => Nat.le_of_succ_le (ownBlock_ge HO.out hg)))
      have B2 := Lib.hid ((HB.out.alloc (.cells #[.int .u32 (dgi M k)] 54)).of (hgrow.block w.heap.size (HB.out.alloc _).lt (fun e => by have := ownBlock_ge HO.out e.symm; omega)))
      clear hown' hgrow
      go_wp2_with fail
      go_roundw
      case rel => exact ⟨k + 1, by omega, by rw [HY.out], O2.out, G2.out, B2.out⟩
      case measure => simp [intOf]; have h9 := HLE.out; omega
    · obtain rfl : X = 0 := by omega
      obtain rfl : k = lenB M := by have := HK.out; have := mt HP.out.2 (by omega); omega
      obtain ⟨a, cap, rfl, hOw, hcap⟩ := Own.of_row HO.out (fun i hi => by have := dgi_Dig M (lenB M) i hi; omega)
      have HOW := Lib.hid hOw
      have HCP := Lib.hid hcap
      clear h0 hOw hcap
      have hL3 := HLN.out
      have CUT := Lib.hid (cut_any true a (lenB M) cap (dgi M) wr HOW.out.rd (dgi_Dig _ _) (by omega) HOW.out.le HCP.out)
      rw [sumB_dgi, Int.toNat_natCast, neg_canon M H0.out] at CUT
      go_wp2_with fail
      refine CUT.out.mono ?_
      rintro e w2 ⟨rfl, hb2⟩
      have B3 := HB.out.below hb2 HB.out.lt
      have HB3 := Lib.hid B3
      have HO3 := Lib.hid (HOW.out.below hb2)
      have HG3 := Lib.hid (HG.out.trans (hb2.mono HG.out.size))
      obtain ⟨b30, b31, b32, b33⟩ := B3.all
      clear B3 hb2 CUT
      go_wp2_with fail
      refine bodyPost_ret (results_cell rfl _ _ _ _ _ _ _ rfl (HB3.out.set _ _) Tryz.underlying24 rfl (by kernel_rfl)) rfl ⟨a, by first | (rw [show (-(M : Int)).natAbs = M by omega]; done) | (rw [show (-(M : Int)).natAbs = M by omega, decide_eq_true (show -(M : Int) < 0 by omega)]), ?_, ?_, ?_⟩
      · rw [show (-(M : Int)).natAbs = M by omega]; exact (((HO3.out.cut (Nat.le_refl _) (fun i _ => rfl)).other (by dsimp only; omega) _).other (by dsimp only; omega) _).mono (by omega)
      · rw [show (-(M : Int)).natAbs = M by omega]; intro h; have h1 := HO3.out.le; have h2 := HCP.out h; omega
      · exact (HG3.out.setCell (by dsimp only; omega) _).setCell (by dsimp only; omega) _
theorem of64_any (n : Int) (w : World) (h1 : -9223372036854775808 ≤ n) (h2 : n ≤ 9223372036854775807) : Calls Tryz.prog 13 #[.int .i64 n] w (ResN w n) := by
  rcases Int.lt_or_le n 0 with h | h
  · obtain ⟨M, rfl⟩ : ∃ M : Nat, n = -(M : Int) := ⟨n.natAbs, by omega⟩
    exact of64_neg M w (by omega) (by omega)
  · obtain ⟨M, rfl⟩ : ∃ M : Nat, n = (M : Int) := ⟨n.natAbs, by omega⟩
    exact of64_pos M w (by omega)
end Go.Proofs.YtefjjhfahebmeaaGreatDoor.Limb
namespace Go.Proofs.YtefjjhfahebmeaaGreatDoor.Book
open Go.RowKit Go.Sort Go.Fresh Go.Proofs.YtefjjhfahebmeaaGreatDoor.Limb
theorem Arr.congr {w : World} {vb k : Nat} {A : Nat → Option Addr} {N C : Nat → Nat} {X Y : Nat → Value} (h : Arr w vb k A N C X) (e : ∀ j, j < k → X j = Y j) : Arr w vb k A N C Y := by
  obtain ⟨m, f, hR, hE⟩ := h
  exact ⟨m, f, hR, fun j hj => by rw [← e j hj]; exact hE j hj⟩
end Go.Proofs.YtefjjhfahebmeaaGreatDoor.Book
namespace Go.Proofs.YtefjjhfahebmeaaGreatDoor.Limb
open Go.RowKit
theorem Own.allocd {T : Nat} {w : World} {base : Nat} {a : Option Addr} {n cap : Nat} {o : Nat → Int} (h : Own T w base a n cap o) (x : Obj) : Own T (w.alloc x) base a n cap o := h.below ((Below.refl _ _).alloc (Nat.le_refl _) x)
end Go.Proofs.YtefjjhfahebmeaaGreatDoor.Limb
namespace Go.Proofs.YtefjjhfahebmeaaGreatDoor.Book
open Go.RowKit Go.Sort Go.Fresh Go.Proofs.YtefjjhfahebmeaaGreatDoor.Limb
structure GrowI (w1 wr : World) (i n : Nat) (ai : Option Addr) (ci t : Nat) (a : Option Addr) (c : Nat) (hv : Nat → Value) : Prop where
  own : Own 54 wr 0 a (n + t) c (fun _ => mk i)
  old : Own 54 wr 0 ai n ci (fun _ => mk i)
  plc : (a = ai ∧ c = ci) ∨ ∃ g, a = some ⟨g, 0, none⟩ ∧ w1.heap.size < g
  box : wr.rowIs w1.heap.size 121 3 hv
  tch : Touch (fun g => ∃ p, ai = some p ∧ p.block = g) w1 wr
  olt : ∀ p, ai = some p → p.block < w1.heap.size
structure GrowO (w wr : World) (vb k : Nat) (A : Nat → Option Addr) (N C : Nat → Nat) (i : Nat) (LA : Nat → Option Addr) (LC : Nat → Nat) : Prop where
  tch : Touch (fun g => UA k A g ∨ g = vb) w wr
  arr : Arr wr vb k A N C (fun j => if j < i then .slice (LA j) (N j + 40) (LC j) else .slice none 0 0)
  own : ∀ j, j < k → Own 54 wr 0 (A j) (N j) (C j) (fun _ => mk j)
  lng : ∀ j, j < i → Own 54 wr 0 (LA j) (N j + 40) (LC j) (fun _ => mk j) ∧ (LA j = A j ∨ ∃ g, LA j = some ⟨g, 0, none⟩ ∧ w.heap.size ≤ g)
end Go.Proofs.YtefjjhfahebmeaaGreatDoor.Book
namespace Go.Proofs.YtefjjhfahebmeaaGreatDoor.Limb
open Go.RowKit Go.Sort Go.Fresh
set_option maxHeartbeats 1000000 in
theorem sameLimbs_any (a b : Option Addr) (n ca cb : Nat) (o : Nat → Int) (w : World) (ha : Rd w a n o) (hb : Rd w b n o) (hn : n ≤ 1000000000) :
    Calls Tryz.prog 26 #[.slice a n ca, .slice b n cb] w fun e w' => e = .returned (.bool true) ∧ ∃ m, w' = w.drewN m := by
  have HA := Lib.hid ha; have HB := Lib.hid hb
  clear ha hb
  go_enter Tryz.func26, Tryz.ntmps26
  go_wp2_with fail
  go_loopw [5] (fun i wr => ∃ t : Nat, t ≤ n ∧ i = .int .i64 t ∧ ∃ m, wr = w.drewN m) (fun i _ => n - (intOf i).toNat)
  case atStart => exact ⟨0, by omega, rfl, 0, rfl⟩
  case round =>
    obtain ⟨t, htn, rfl, hm⟩ := hrel
    have HM := Lib.hid hm
    have cw : ∀ p, wr.cell? p = w.cell? p := by obtain ⟨m, rfl⟩ := hm; intro p; rfl
    clear hm
    by_cases ht : t < n
    · obtain ⟨b1, o1, rfl, hc1⟩ := HA.out.cells (by omega)
      obtain ⟨b2, o2, rfl, hc2⟩ := HB.out.cells (by omega)
      have c1 : wr.cell? ⟨b1, o1 + t, none⟩ = some (.int .u32 (o t)) := (cw _).trans (hc1 t ht)
      have c2 : wr.cell? ⟨b2, o2 + t, none⟩ = some (.int .u32 (o t)) := (cw _).trans (hc2 t ht)
      clear hc1 hc2 cw
      go_wp2_with fail
      go_quiet (fail)
      go_wp2_with fail
      go_roundw
      case rel => exact ⟨t + 1, by omega, by go_num, by obtain ⟨m, e⟩ := HM.out; exact ⟨_, by rw [e, World.drewN_drewN]⟩⟩
      case measure => simp [intOf]; omega
    · obtain rfl : t = n := by omega
      go_wp2_with fail
      go_ret
      exact ⟨rfl, HM.out⟩
def tw (o : Nat → Int) (n i : Nat) : Int := if i < n then o i else 77
end Go.Proofs.YtefjjhfahebmeaaGreatDoor.Limb
namespace Go.Proofs.YtefjjhfahebmeaaGreatDoor.Book
open Go.RowKit Go.Sort Go.Fresh Go.Proofs.YtefjjhfahebmeaaGreatDoor.Limb
end Go.Proofs.YtefjjhfahebmeaaGreatDoor.Book
namespace Go.Proofs.YtefjjhfahebmeaaGreatDoor.Limb
open Go.RowKit Go.Sort Go.Fresh
theorem field_num (s : Bool) (a : Option Addr) (n c : Nat) (w : World) : (Instr.field 24 (numV s a n c) 1).run Tryz.prog w = .ok (.slice a n c) w := by kernel_rfl
theorem nat_sum {o : Nat → Int} {n : Nat} (h : Dig o n) : (((sumB o n).toNat : Nat) : Int) = sumB o n := by have := (sumB_bd h).1; omega
set_option maxRecDepth 100000 in
set_option maxHeartbeats 2000000 in
theorem below_any (a b : Option Addr) (na ca nb cb : Nat) (oa ob : Nat → Int) (often : Int) (w : World) (ha : Rd w a na oa) (hb : Rd w b nb ob) (da : Dig oa na) (db : Dig ob nb) (hna : na ≤ 200000000) (hnb : nb ≤ 200000000) (ho : 0 ≤ often ∧ often ≤ 999999999) :
    Calls Tryz.prog 146 #[.slice a na ca, .slice b nb cb, .int .u64 often] w fun e w' => e = .returned (.bool (decide (sumB oa na < sumB ob nb * often))) ∧ Below w.heap.size w w' := by
  obtain ⟨X, hX⟩ : ∃ X, X = (sumB oa na).toNat := ⟨_, rfl⟩
  obtain ⟨Y, hY⟩ : ∃ Y, Y = (sumB ob nb * often).toNat := ⟨_, rfl⟩
  have eX : (X : Int) = sumB oa na := by rw [hX]; exact nat_sum da
  have eY : (Y : Int) = sumB ob nb * often := by
    have := Int.mul_nonneg (sumB_bd db).1 ho.1
    omega
  rw [← eX, ← eY]
  have u1 := IntWalk.u32_in often (by omega)
  have CL := Lib.hid (clone_any a na ca oa w ha (by omega))
  have WD := Lib.hid (fun (w' : World) (h : Below w.heap.size w w') => wide_any b nb cb ob often w' (hb.below h) db hnb ho)
  rw [← eY] at WD
  have DA := Lib.hid da
  have HE := Lib.hid eX.symm
  have lX := Lib.hid (show lenB X ≤ na by rw [hX]; exact lenB_le_of da)
  obtain ⟨LX, hLX⟩ : ∃ LX, LX = lenB X := ⟨_, rfl⟩
  have HLX := Lib.hid hLX
  clear ha hb da db hX hY eX eY hLX
  have hfld := field_num
  go_enter Tryz.func146, Tryz.ntmps146
  go_wp2_with fail
  refine CL.out.mono ?_
  rintro e w1 ⟨a1, c1, rfl, hO, hn, hb1⟩
  have HO := Lib.hid hO
  have G1 := Lib.hid hb1
  have CU := Lib.hid (cut_any false a1 na c1 oa w1 hO.rd DA.out (by omega) hO.le hn)
  rw [show (sumB oa na).toNat = X by have := HE.out; omega, Bool.false_and, ← HLX.out] at CU
  clear hO hb1 hn CL
  go_wp2_with fail
  refine CU.out.mono ?_
  rintro e w2 ⟨rfl, hb2⟩
  have RX := Lib.hid (own_fit (HO.out.below hb2) DA.out HE.out).rd
  have G2 := Lib.hid (G1.out.trans (hb2.mono G1.out.size))
  clear hb2 CU G1
  go_wp2_with fail
  refine (WD.out _ G2.out).mono ?_
  rintro e w3 ⟨g, p, rfl, hd, hs, hO, hb3⟩
  have HP := Lib.hid hO
  have HD := Lib.hid (And.intro hd hs)
  have G3 := Lib.hid (G2.out.trans (hb3.mono G2.out.size))
  have RX := Lib.hid (RX.out.below hb3)
  have CU := Lib.hid (cut_any false (some ⟨g, 0, none⟩) (nb + 1) (nb + 1) p w3 hO.rd hd (by omega) (Nat.le_refl _) (fun h => by cases h))
  obtain ⟨LY, hLY⟩ : ∃ LY, LY = lenB Y := ⟨_, rfl⟩
  rw [show (sumB p (nb + 1)).toNat = Y by omega, Bool.false_and, ← hLY] at CU
  have lY := Lib.hid (show lenB Y ≤ nb + 1 by
    have := lenB_le_of hd
    rwa [show (sumB p (nb + 1)).toNat = Y by omega] at this)
  have HLY := Lib.hid hLY
  clear hO hb3 WD G2 hd hs hLY
  go_wp2_with fail
  refine CU.out.mono ?_
  rintro e w4 ⟨rfl, hb4⟩
  have AM := Lib.hid (amounts_any X Y a1 (some ⟨g, 0, none⟩) (lenB X) (lenB Y) w4 (RX.out.below hb4) (own_fit (HP.out.below hb4) HD.out.1 HD.out.2).rd (by have := lX.out; omega) (by have := lY.out; omega))
  rw [← HLX.out, ← HLY.out] at AM
  have G4 := Lib.hid (G3.out.trans (hb4.mono G3.out.size))
  clear hb4 CU G3
  go_wp2_with fail
  refine AM.out.mono ?_
  rintro e w5 ⟨rfl, m, rfl⟩
  have E : decide (cmpZ (X : Int) (Y : Int) < 0) = decide ((X : Int) < (Y : Int)) := by
    refine decide_eq_decide.2 ?_
    rcases Int.lt_trichotomy (X : Int) (Y : Int) with h | h | h
    · rw [cmpZ_lt h]; omega
    · rw [cmpZ_eq h]; omega
    · rw [cmpZ_gt h]; omega
  have HEq := Lib.hid E
  clear E AM
  go_wp2
  go_ret
  exact ⟨by rw [← HEq.out]; rfl, bdrewN G4.out m⟩
end Go.Proofs.YtefjjhfahebmeaaGreatDoor.Limb
namespace Go.Proofs.YtefjjhfahebmeaaGreatDoor.Book
open Go.RowKit Go.Sort Go.Fresh Go.Proofs.YtefjjhfahebmeaaGreatDoor.Limb
end Go.Proofs.YtefjjhfahebmeaaGreatDoor.Book
namespace Go.Proofs.YtefjjhfahebmeaaGreatDoor.Book
open Go.RowKit Go.Sort Go.FreshG Go.Proofs.YtefjjhfahebmeaaGreatDoor.Limb
def held (a : Option Addr) (n c k : Nat) : List Value := [.slice a n c, .slice none 0 0, .int .i64 ((k : Int) + 1)]
structure Bk (w : World) (b base k : Nat) (v : Value) (xs : List Value) : Prop where
  box : w.rowIs b 50 13 (bkf k v)
  row : w.ownsRow base 121 3 v k xs
  ne : v.ownBlock ≠ some b
def Row1 (w : World) (base k : Nat) (xs : List Value) (a : Option Addr) (n c : Nat) (x : Value) : Prop := w.ownsRow base 121 3 x (k + 1) (xs ++ held a n c k)
def Gr (base k : Nat) (v : Value) (xs : List Value) (a : Option Addr) (n c : Nat) (w w' : World) : Prop :=
  Touch (fun g => v.ownBlock = some g) w w' ∧ (w.ownsRow base 121 3 v k xs → w'.ownsRow base 121 3 v k xs) ∧ ∀ x, Row1 w base k xs a n c x → Row1 w' base k xs a n c x
theorem Gr.refl (base k : Nat) (v : Value) (xs : List Value) (a : Option Addr) (n c : Nat) (w : World) : Gr base k v xs a n c w w := ⟨Touch.refl _ _, fun h => h, fun _ h => h⟩
theorem Gr.grown {base k : Nat} {v : Value} {xs : List Value} {a : Option Addr} {n c : Nat} {w w' : World} (h : w.grownBy w' none) : Gr base k v xs a n c w w' := by
  refine ⟨(Touch.refl _ _).grown h (fun _ h => by cases h), fun hr => hr.kept h ?_, fun x hr => World.ownsRow.kept hr h ?_⟩
  · cases hv : v.ownBlock
    · exact .inl rfl
    · exact .inr (by simp)
  · cases hv : x.ownBlock
    · exact .inl rfl
    · exact .inr (by simp)
theorem Gr.alloc {base k : Nat} {v : Value} {xs : List Value} {a : Option Addr} {n c : Nat} (w : World) (o : Obj) : Gr base k v xs a n c w (w.alloc o) := Gr.grown (World.grownBy_alloc w o none)
def Kept (w : World) (b base k : Nat) (v : Value) (xs : List Value) (a : Option Addr) (n c : Nat) (e : Ending) (w' : World) : Prop :=
  (∃ u, e = .returned u) ∧ ∃ v', Bk w' b base (k + 1) v' (xs ++ held a n c k) ∧ (v.ownBlock = v'.ownBlock ∨ ∃ g, v'.ownBlock = some g ∧ w.heap.size ≤ g) ∧ Touch (fun g => g = b ∨ v.ownBlock = some g) w w'
theorem Bk.alloc {w : World} {b base k : Nat} {v : Value} {xs : List Value} (h : Bk w b base k v xs) (o : Obj) : Bk (w.alloc o) b base k v xs := ⟨h.box.alloc o, h.row.alloc o, h.ne⟩
end Go.Proofs.YtefjjhfahebmeaaGreatDoor.Book
namespace Go.Proofs.YtefjjhfahebmeaaGreatDoor.Limb
open Go.RowKit Go.Sort Go.Fresh
theorem infoPart1 : (Tryz.prog.info? 54).map (·.size) = some 1 := by kernel_rfl
theorem copy_own {w : World} {base gu L L' i m : Nat} {up r : Nat → Int} {a : Option Addr} (h : Own 54 w base (some ⟨gu, 0, none⟩) L L' up) (hi : i + m ≤ L) (hm : 0 < m) (hr : Rd w a m r) (ty dcap scap : Nat) :
    ∃ v w', (Builtin.copy_ #[22, 22] ty #[.slice (some ⟨gu, i, none⟩) m dcap, .slice a m scap]).run Tryz.prog w = .ok v w' ∧ Own 54 w' base (some ⟨gu, 0, none⟩) L L' (splice up i m r) ∧ w.grownBy w' (some gu) := by
  obtain ⟨b, off, rfl, hc⟩ := hr.cells hm
  rcases h.place with h0 | ⟨g, cur, ha, hbg, hg, hcap, hcc⟩
  · cases h0.1
  cases ha
  have hle := h.le
  have hrun := run_copy_row (P := Tryz.prog) w 22 22 ty 54 gu i m dcap ⟨b, off, none⟩ m scap cur 54 (ucs r m) Tryz.underlying22 infoPart1 hg (by rw [ucs_len]; exact (Nat.min_self m).symm)
    (by
      intro j u hj
      obtain ⟨hj1, rfl⟩ := ucs_get' hj
      rw [Addr.add_lit]
      exact hc j hj1) (by rw [ucs_len]; omega) ucs_one
  refine ⟨_, _, hrun, ⟨hle, Or.inr ⟨gu, _, rfl, hbg, setRow_heap w gu cur _ _ _ hg, ?_, fun k hk => ?_⟩, fun k hk => ?_⟩, ⟨rfl, rfl, rfl, by simp, fun k _ hk => setRow_other w gu k _ (fun e => hk (by simp [e]))⟩⟩
  · simp only [List.size_toArray, List.length_append, List.length_take, List.length_drop, Array.length_toList, ucs_len]
    omega
  · rw [List.getElem?_toArray, ucs_len]
    have h1 : (cur.toList.take i).length = i := by simp; omega
    have h2 : (cur.toList.take i ++ ucs r m).length = i + m := by rw [List.length_append, h1, ucs_len]
    by_cases e1 : k < i
    · rw [List.getElem?_append_left (by omega), List.getElem?_append_left (by omega), List.getElem?_take, if_pos e1, Array.getElem?_toList, hcc k hk]
      show some (Value.int .u32 (up k)) = some (Value.int .u32 (splice up i m r k))
      rw [splice_out (Or.inl e1)]
    · by_cases e2 : k < i + m
      · obtain ⟨j, rfl⟩ : ∃ j, k = i + j := ⟨k - i, by omega⟩
        rw [List.getElem?_append_left (by omega), List.getElem?_append_right (by omega), h1, Nat.add_sub_cancel_left, ucs_get _ _ _ (by omega)]
        show some (Value.int .u32 (r j)) = some (Value.int .u32 (splice up i m r (i + j)))
        rw [splice_in (by omega)]
      · rw [List.getElem?_append_right (by omega), h2, List.getElem?_drop, show i + m + (k - (i + m)) = k by omega, Array.getElem?_toList, hcc k hk]
        show some (Value.int .u32 (up k)) = some (Value.int .u32 (splice up i m r k))
        rw [splice_out (Or.inr (by omega))]
  · by_cases e : i ≤ k ∧ k < i + m
    · obtain ⟨j, rfl⟩ : ∃ j, k = i + j := ⟨k - i, by omega⟩
      rw [splice_in (by omega)]; exact hr.rng j (by omega)
    · rw [splice_out (by omega)]; exact h.rng k hk
theorem cf_div (args : Array Value) (w : World) : (callFunc 145 args).run Tryz.prog w = .ok (.enter 145 args) w := by kernel_rfl
set_option maxHeartbeats 1000000 in
theorem divFn (w : World) (bh bg bv gu i n cu cv : Nat) (q : Option Addr) (up vp : Nat → Int) (g : Int) (k : Nat) (c1 : w.cell? ⟨bh, 0, none⟩ = some (.slice (some ⟨gu, i, none⟩) (n + 1) cu)) (c2 : w.cell? ⟨bg, 0, none⟩ = some (.int .u64 g))
    (c3 : w.cell? ⟨bv, 0, none⟩ = some (.slice q n cv)) (c4 : w.cell? ⟨gu, i + k, none⟩ = some (.int .u32 (up (i + k)))) (hk : k < n + 1) (hp : Rd w q n vp) (hn : n ≤ 200000000) (hg : 0 ≤ g ∧ g ≤ 999999999) (hu : 0 ≤ up (i + k) ∧ up (i + k) ≤ 999999999) (r1 : 0 ≤ part vp n k ∧ part vp n k ≤ 999999999) :
    Calls Tryz.prog 145 #[.int .i64 k, .pointer (some ⟨bh, 0, none⟩), .pointer (some ⟨bg, 0, none⟩), .pointer (some ⟨bv, 0, none⟩)] w fun e w' => e = .returned (.int .i64 (up (i + k) - g * part vp n k)) ∧ Below w.heap.size w w' := by
  have P := Lib.hid (fun (w1 : World) (h : ∃ m, w1 = w.drewN m) => part_any q n cv vp k w1 (by obtain ⟨m, rfl⟩ := h; exact hp.drewN m) (by omega) (by omega))
  have m1 : g * part vp n k ≤ 999999999 * 999999999 := Int.mul_le_mul hg.2 r1.2 r1.1 (by omega)
  have m2 : 0 ≤ g * part vp n k := Int.mul_nonneg hg.1 r1.1
  have e1 := IntWalk.i64_in (up (i + k)) (by omega)
  have e2 := IntWalk.u64_in (part vp n k) (by omega)
  have e3 := IntWalk.u64_in (g * part vp n k) (by omega)
  have e4 := IntWalk.i64_in (g * part vp n k) (by omega)
  have e5 := IntWalk.i64_in (up (i + k) - g * part vp n k) (by omega)
  have x1 : (k : Int) < ((n + 1 : Nat) : Int) := by omega
  have x2 : (k : Int) < (n : Int) + 1 := by omega
  generalize part vp n k = u at *
  generalize up (i + k) = t at *
  clear hp m1 m2 hu r1
  go_enter Tryz.func145, Tryz.ntmps145
  go_wp2_with fail
  go_quiet (first | with_reducible exact quietOf (P.out _ ⟨_, rfl⟩))
  go_wp2
  go_ret
  exact ⟨rfl, bdrewN (Below.refl _ _) _⟩
def lessF (up vp : Nat → Int) (j N : Nat) (g : Int) (k : Nat) : Int := up (j + k) - g * part vp N k
theorem lessF_sum (up vp : Nat → Int) (j N : Nat) (g : Int) : sumB (lessF up vp j N g) (N + 1) = headV up N j - sumB vp N * g := by
  have e : lessF up vp j N g = fun k => (fun k => up (j + k)) k + part vp N k * (-g) := by
    funext k; unfold lessF; rw [Int.mul_neg, Int.mul_comm]; show _ = up (j + k) + _; omega
  rw [e, sumB_plus, sumB_times, sumB_part _ (by omega), Int.mul_neg]
  unfold headV
  omega
theorem Rd.at_own {w : World} {base gu L L' j m : Nat} {up : Nat → Int} (h : Own 54 w base (some ⟨gu, 0, none⟩) L L' up) (hj : j + m ≤ L) : Rd w (some ⟨gu, j, none⟩) m (fun k => up (j + k)) :=
  ⟨fun _ => ⟨gu, j, rfl, fun i hi => h.cell (by omega)⟩, fun i hi => h.rng _ (by omega)⟩
theorem scale_plain {ob : Nat → Int} {m : Nat} (hd : Dig ob (m + 1)) (ht : ob m ≠ 0) : 1 ≤ 1000000000 / (ob m + 1) ∧ 1000000000 / (ob m + 1) ≤ 500000000 ∧ sumB ob (m + 1) * (1000000000 / (ob m + 1)) < (pw (m + 1) : Int) ∧ (pw m : Int) ≤ sumB ob (m + 1) := by
  have h := hd m (by omega)
  have b := sumB_bd (o := ob) (n := m) fun k hk => hd k (by omega)
  have hp : (0 : Int) < (pw m : Int) := by have := pw_pos m; omega
  have h1 : 1 ≤ 1000000000 / (ob m + 1) := (Int.le_ediv_iff_mul_le (by omega)).2 (by omega)
  have h2 : 1000000000 / (ob m + 1) ≤ 500000000 := by
    have : 1000000000 / (ob m + 1) < 500000001 := Int.ediv_lt_of_lt_mul (by omega) (by omega)
    omega
  have h3 : 1000000000 / (ob m + 1) * (ob m + 1) ≤ 1000000000 := Int.ediv_mul_le _ (by omega)
  generalize 1000000000 / (ob m + 1) = s at *
  have e : sumB ob (m + 1) = sumB ob m + ob m * (pw m : Int) := rfl
  refine ⟨h1, h2, ?_, ?_⟩
  · have a1 : sumB ob (m + 1) < (ob m + 1) * (pw m : Int) := by rw [e, Int.add_mul]; omega
    have a2 : sumB ob (m + 1) * s < (ob m + 1) * (pw m : Int) * s := Int.mul_lt_mul_of_pos_right a1 (by omega)
    have a3 : (ob m + 1) * (pw m : Int) * s = s * (ob m + 1) * (pw m : Int) := by rw [Int.mul_comm, ← Int.mul_assoc]
    have a4 : s * (ob m + 1) * (pw m : Int) ≤ 1000000000 * (pw m : Int) := Int.mul_le_mul_of_nonneg_right h3 (by omega)
    rw [pw_succ, Int.natCast_mul]
    omega
  · have a1 : 1 * (pw m : Int) ≤ ob m * (pw m : Int) := Int.mul_le_mul_of_nonneg_right (by omega) (by omega)
    rw [e]; omega
theorem scaled_top {p : Nat → Int} {m : Nat} {V : Int} (hd : Dig p (m + 1 + 1)) (hs : sumB p (m + 1 + 1) = V) (hlt : V < (pw (m + 1) : Int)) (hge : (pw m : Int) ≤ V) : sumB p (m + 1) = V ∧ 0 < p m := by
  have b := sumB_bd (o := p) (n := m + 1) fun k hk => hd k (by omega)
  have b2 := sumB_bd (o := p) (n := m) fun k hk => hd k (by omega)
  have hp : (0 : Int) < (pw (m + 1) : Int) := by have := pw_pos (m + 1); omega
  have e : sumB p (m + 1 + 1) = sumB p (m + 1) + p (m + 1) * (pw (m + 1) : Int) := rfl
  have e2 : sumB p (m + 1) = sumB p m + p m * (pw m : Int) := rfl
  have h0 : p (m + 1) = 0 := by
    have h := hd (m + 1) (by omega)
    rcases Int.lt_or_le 0 (p (m + 1)) with h1 | h1
    · have : 1 * (pw (m + 1) : Int) ≤ p (m + 1) * (pw (m + 1) : Int) := Int.mul_le_mul_of_nonneg_right (by omega) (by omega)
      omega
    · omega
  rw [h0, Int.zero_mul, Int.add_zero] at e
  refine ⟨by omega, ?_⟩
  have h := hd m (by omega)
  rcases Int.lt_or_le 0 (p m) with h1 | h1
  · exact h1
  · have : p m = 0 := by omega
    rw [this, Int.zero_mul] at e2
    omega
structure DivW (w wr : World) (gu gq gv bv n L M cv : Nat) (up qp vp : Nat → Int) : Prop where
  u : Own 54 wr w.heap.size (some ⟨gu, 0, none⟩) L L up
  q : Own 54 wr w.heap.size (some ⟨gq, 0, none⟩) M M qp
  v : Own 54 wr w.heap.size (some ⟨gv, 0, none⟩) n cv vp
  vb : wr.rowIs bv 22 1 (fun _ => .slice (some ⟨gv, 0, none⟩) n cv)
  bel : Below w.heap.size w wr
def Scaled (w : World) (L N : Nat) (A V : Int) (gu gv bv : Nat) (up vp : Nat → Int) (wx : World) : Prop :=
  Dig up L ∧ sumB up L = A ∧ Dig vp (N + 1) ∧ sumB vp (N + 1) = V ∧ Own 54 wx w.heap.size (some ⟨gu, 0, none⟩) L L up ∧ Own 54 wx w.heap.size (some ⟨gv, 0, none⟩) (N + 1) (N + 1) vp ∧
    wx.rowIs bv 22 1 (fun _ => .slice (some ⟨gv, 0, none⟩) N (N + 1)) ∧ (gu ≠ gv ∧ gu ≠ bv ∧ gv ≠ bv) ∧ w.heap.size ≤ bv ∧ Below w.heap.size w wx
theorem row_one (w : World) (v : Value) (t : TypeId) : (w.alloc (.cells #[v] t)).rowIs w.heap.size t 1 (fun _ => v) := World.rowIs_alloc w #[v] t (fun _ => v) (fun i hi => by
  match i, hi with
  | 0, _ => rfl)
theorem scaled_1 {w wa wb : World} {L N : Nat} {A V : Int} {gu gv : Nat} {up vp : Nat → Int} (du : Dig up L) (su : sumB up L = A) (dv : Dig vp (N + 1)) (sv : sumB vp (N + 1) = V) (ou : Own 54 wa w.heap.size (some ⟨gu, 0, none⟩) L L up) (ov : Own 54 wb wa.heap.size (some ⟨gv, 0, none⟩) (N + 1) (N + 1) vp)
    (hA1 : Below w.heap.size w wa) (hbb : Below wa.heap.size wa wb) : Scaled w L N A V gu gv wb.heap.size up vp (wb.alloc (.cells #[.slice (some ⟨gv, 0, none⟩) N (N + 1)] 22)) := by
  have h1 := (ou.blk rfl).2
  have h2 := (ov.blk rfl).2
  dsimp only at h1 h2
  have hB1 := hA1.trans (hbb.mono hA1.size)
  exact ⟨du, su, dv, sv, (ou.below hbb).allocd _, (ov.mono hA1.size).allocd _, row_one wb _ _, ⟨by omega, by have := hbb.size; omega, by omega⟩, hB1.size, hB1.alloc hB1.size _⟩
theorem scaled_2 {w wa wb : World} {L N : Nat} {A V : Int} {gu gv : Nat} {up vp : Nat → Int} (du : Dig up L) (su : sumB up L = A) (dv : Dig vp (N + 1)) (sv : sumB vp (N + 1) = V) (ou : Own 54 wa w.heap.size (some ⟨gu, 0, none⟩) L L up)
    (ov : Own 54 wb (wa.alloc (.cells #[.slice none 0 0] 22)).heap.size (some ⟨gv, 0, none⟩) (N + 1) (N + 1) vp)
    (hA1 : Below w.heap.size w wa) (hbb : Below (wa.alloc (.cells #[.slice none 0 0] 22)).heap.size (wa.alloc (.cells #[.slice none 0 0] 22)) wb) :
    Scaled w L N A V gu gv wa.heap.size up vp (wb.setCell ⟨wa.heap.size, 0, none⟩ (.slice (some ⟨gv, 0, none⟩) N (N + 1))) := by
  have h1 := (ou.blk rfl).2
  have h2 := (ov.blk rfl).2
  dsimp only at h1 h2
  rw [World.size_alloc] at h2
  have hB0 : Below w.heap.size w (wa.alloc (.cells #[.slice none 0 0] 22)) := hA1.alloc hA1.size _
  have hB1 := hB0.trans (hbb.mono hB0.size)
  have hs := hA1.size
  refine ⟨du, su, dv, sv, ((ou.allocd _).below hbb).keep (fun p hp => Below.heap_setCell _ _ _ _ (by cases hp; dsimp only; omega)), (ov.mono (by simp; omega)).keep (fun p hp => Below.heap_setCell _ _ _ _ (by cases hp; dsimp only; omega)),
    (((row_one wa _ _).of_block (hbb.block _ (by simp))).set 0 _).congr (fun i hi => by rw [if_pos (by omega)]), ⟨by omega, by omega, by omega⟩, hs, hB1.setCell hs _⟩
theorem scaled_3 {w w0 wa wb : World} {L N : Nat} {A V : Int} {gu gv : Nat} {up vp : Nat → Int} (hw0 : w0 = (w.alloc (.cells #[.slice none 0 0] 22)).drew) (du : Dig up L) (su : sumB up L = A) (dv : Dig vp (N + 1)) (sv : sumB vp (N + 1) = V)
    (ou : Own 54 wa w0.heap.size (some ⟨gu, 0, none⟩) L L up) (ov : Own 54 wb wa.heap.size (some ⟨gv, 0, none⟩) (N + 1) (N + 1) vp) (hba : Below w0.heap.size w0 wa) (hbb : Below wa.heap.size wa wb) :
    Scaled w L N A V gu gv w.heap.size up vp (wb.setCell ⟨w.heap.size, 0, none⟩ (.slice (some ⟨gv, 0, none⟩) N (N + 1))) := by
  have h1 := (ou.blk rfl).2
  have h2 := (ov.blk rfl).2
  dsimp only at h1 h2
  have hs0 : w0.heap.size = w.heap.size + 1 := by rw [hw0]; show (w.alloc _).heap.size = _; simp
  have hB0 : Below w.heap.size w w0 := by rw [hw0]; exact ((Below.refl _ _).alloc (Nat.le_refl _) _).drew
  have hB1 := (hB0.trans (hba.mono hB0.size)).trans (hbb.mono (Nat.le_trans hB0.size hba.size))
  have hz := hba.size
  have r0 : w0.rowIs w.heap.size 22 1 (fun _ => .slice none 0 0) := by rw [hw0]; exact (row_one w _ _)
  refine ⟨du, su, dv, sv, ((ou.mono (by omega)).below hbb).keep (fun p hp => Below.heap_setCell _ _ _ _ (by cases hp; dsimp only; omega)), (ov.mono (by omega)).keep (fun p hp => Below.heap_setCell _ _ _ _ (by cases hp; dsimp only; omega)),
    (((r0.of_block (hba.block _ (by omega))).of_block (hbb.block _ (by omega))).set 0 _).congr (fun i hi => by rw [if_pos (by omega)]), ⟨by omega, by omega, by omega⟩, Nat.le_refl _, hB1.setCell (Nat.le_refl _) _⟩
theorem wide_grown (a : Option Addr) (n c : Nat) (o : Nat → Int) (by' : Int) (w : World) (hx : Rd w a n o) (dx : Dig o n) (hn : n ≤ 200000000) (hb : 0 ≤ by' ∧ by' ≤ 999999999) (w' : World) (h : Below w.heap.size w w') :
    Calls Tryz.prog 144 #[.slice a n c, .int .u32 by'] w' fun e w'' => ∃ g p, e = .returned (.slice (some ⟨g, 0, none⟩) (n + 1) (n + 1)) ∧ Dig p (n + 1) ∧ sumB p (n + 1) = sumB o n * by' ∧ Own 54 w'' w'.heap.size (some ⟨g, 0, none⟩) (n + 1) (n + 1) p ∧ Below w'.heap.size w' w'' ∧ Below w.heap.size w w'' ∧ w'.heap.size ≤ g ∧ g < w''.heap.size := by
  refine (wide_any a n c o by' w' (hx.below h) dx hn hb).mono ?_
  rintro e w'' ⟨g, p, rfl, h1, h2, h3, h4⟩
  exact ⟨g, p, rfl, h1, h2, h3, h4, h.trans (h4.mono h.size), (h3.blk rfl).2.1, (h3.blk rfl).2.2⟩
theorem DivW.drewN {w wr : World} {gu gq gv bv n L M cv : Nat} {up qp vp : Nat → Int} (h : DivW w wr gu gq gv bv n L M cv up qp vp) (k : Nat) : DivW w (wr.drewN k) gu gq gv bv n L M cv up qp vp := by
  have hb : Below wr.heap.size wr (wr.drewN k) := bdrewN (Below.refl _ _) k
  exact ⟨h.u.below hb, h.q.below hb, h.v.below hb, h.vb.of_block (hb.block _ h.vb.lt), h.bel.trans (hb.mono h.bel.size)⟩
theorem DivW.setBox {w wr : World} {gu gq gv bv n L M cv bg : Nat} {up qp vp : Nat → Int} (h : DivW w wr gu gq gv bv n L M cv up qp vp) (hne : gu ≠ bg ∧ gq ≠ bg ∧ gv ≠ bg ∧ bv ≠ bg) (hb : w.heap.size ≤ bg) (x : Value) : DivW w (wr.setCell ⟨bg, 0, none⟩ x) gu gq gv bv n L M cv up qp vp :=
  ⟨h.u.keep fun p hp => Below.heap_setCell _ _ _ _ (by cases hp; exact hne.1), h.q.keep fun p hp => Below.heap_setCell _ _ _ _ (by cases hp; exact hne.2.1), h.v.keep fun p hp => Below.heap_setCell _ _ _ _ (by cases hp; exact hne.2.2.1), h.vb.setOther hne.2.2.2 _, h.bel.setCell hb _⟩
def boxN (w : World) (b : Nat) : Nat := match w.cell? ⟨b, 0, none⟩ with | some (.int _ g) => g.toNat | _ => 0
theorem boxN_row {w : World} {b : Nat} {t : TypeId} {k : IntKind} {g : Int} (h : w.rowIs b t 1 (fun _ => .int k g)) : boxN w b = g.toNat := by
  unfold boxN
  rw [h.cell (i := 0) (by omega)]
set_option maxRecDepth 100000 in
set_option maxHeartbeats 4000000 in
theorem divide_any (a b : Option Addr) (la ca N n m cb L M : Nat) (oa ob : Nat → Int) (w : World) (ha : Rd w a la oa) (hb : Rd w b N ob) (da : Dig oa la) (db : Dig ob N) (hla : la ≤ 100000000) (hN : N = n + 1) (hn : n = m + 1) (hL : L = la + 1) (hM : M + N = L) (hNa : N ≤ la) (ht : ob n ≠ 0) :
    Calls Tryz.prog 94 #[.slice a la ca, .slice b N cb] w fun e w' => ∃ gq gr qp rp, e = .returned (.tuple #[.slice (some ⟨gq, 0, none⟩) M M, .slice (some ⟨gr, 0, none⟩) N N]) ∧ gq ≠ gr ∧
      Dig qp M ∧ sumB qp M = sumB oa la / sumB ob N ∧ Dig rp N ∧ sumB rp N = sumB oa la % sumB ob N ∧
      Own 54 w' w.heap.size (some ⟨gq, 0, none⟩) M M qp ∧ Own 54 w' w.heap.size (some ⟨gr, 0, none⟩) N N rp ∧ Below w.heap.size w w' := by
  obtain ⟨sc, hsc⟩ : ∃ sc, sc = 1000000000 / (ob n + 1) := ⟨_, rfl⟩
  have SP := scale_plain (ob := ob) (m := n) (by rw [← hN]; exact db) ht
  rw [← hsc, ← hN] at SP
  obtain ⟨p1, p2, p3, p4⟩ := SP
  have HP := Lib.hid (And.intro p3 p4)
  have htop := db n (by omega)
  obtain ⟨bb, bo, rfl, hc⟩ := hb.cells (by omega)
  have c1 : w.cell? ⟨bb, bo + n, none⟩ = some (.int .u32 (ob n)) := hc n (by omega)
  have t1 : (1000000000 : Int).tdiv (ob n + 1) = sc := by rw [hsc]; exact Int.tdiv_eq_ediv_of_nonneg (by omega)
  have WA := Lib.hid (fun (w' : World) (h : Below w.heap.size w w') => wide_grown a la ca oa sc w ha da (by omega) (by omega) w' h)
  have WB := Lib.hid (fun (w' : World) (h : Below w.heap.size w w') => wide_grown (some ⟨bb, bo, none⟩) N cb ob sc w hb db (by omega) (by omega) w' h)
  rw [← hL] at WA
  have DA := Lib.hid (And.intro da db)
  obtain ⟨tp, htp⟩ : ∃ tp, tp = ob n := ⟨_, rfl⟩
  rw [← htp] at c1 t1 htop
  have e1 := IntWalk.u32_in (tp + 1) (by omega)
  have e2 := IntWalk.u32_in sc (by omega)
  have x1 : ¬ (tp + 1 = 0) := by omega
  have xn : (N : Int) - 1 = (n : Int) := by omega
  have xn2 := IntWalk.i64_in ((N : Int) - 1) (by omega)
  have hnN : n < N := by omega
  have HT := Lib.hid htp
  have HEQ := Lib.hid (And.intro (And.intro hN hn) (And.intro hL hM))
  clear ha hb da db hc htop p3 p4 hsc ht htp hN hn hL
  go_enter Tryz.func94, Tryz.ntmps94
  go_wp2_with fail
  go_step3
  go_upto_region 3 with (fail)
  go_cut [8, 9] (fun v8 v9 wx => ∃ gu gv bv up vp, v8 = .slice (some ⟨gu, 0, none⟩) L L ∧ v9 = .pointer (some ⟨bv, 0, none⟩) ∧ Scaled w L N (sumB oa la * sc) (sumB ob N * sc) gu gv bv up vp wx)
  case first =>
    have xs1 : (N : Int) ≤ (N : Int) + 1 := by omega
    have xs2 : (0 : Int) ≤ (N : Int) := by omega
    have HBB := Lib.hid (Below.refl w.heap.size w)
    go_region_held3 (fun w' => Below w.heap.size w w')
      (repeat (first
        | (with_reducible assumption)
        | (with_reducible exact Below.refl _ _)
        | (with_reducible refine Below.setCell ?_ ?_ _)
        | (with_reducible refine Below.alloc ?_ ?_ _)
        | (with_reducible refine Below.drew ?_)
        | (simp only [World.size_alloc, World.size_drew, World.size_setCell]; omega) | omega))
      (first
        | (go_at_call 144; refine (WA.out _ (by first | with_reducible assumption | exact Below.drew (Below.refl _ _) | exact (by with_reducible assumption : Below _ _ _).alloc (by with_reducible assumption) _ | exact (Below.drew (Below.refl _ _)).alloc (Nat.le_refl _) _)).mono ?_; rintro e wa ⟨gu, up, rfl, du, su, ou, hba, hA1, ga1, ga2⟩; have hsa := hA1.size; obtain ⟨hca, hfa⟩ := bcell hba; have hza := hba.size; (try simp only [World.size_alloc, World.size_drew] at hza hca hfa); (try rw [Nat.add_one_le_iff] at hza))
        | (go_at_call 144; refine (WB.out _ (by first | with_reducible assumption | exact Below.drew (Below.refl _ _) | exact (by with_reducible assumption : Below _ _ _).alloc (by with_reducible assumption) _ | exact (Below.drew (Below.refl _ _)).alloc (Nat.le_refl _) _)).mono ?_; rintro e wb ⟨gv, vp, rfl, dv, sv, ov, hbb, hB1, gb1, gb2⟩; have hsb := hB1.size; obtain ⟨hcb, hfb⟩ := bcell hbb; have hzb := hbb.size; (try simp only [World.size_alloc, World.size_drew] at hzb hcb hfb); (try rw [Nat.add_one_le_iff] at hzb)))
    · go_wp2_with fail
      go_meet
      case rel => exact ⟨gu, gv, _, up, vp, rfl, rfl, scaled_1 du su dv sv ou ov hA1 hbb⟩
    · go_wp2_with fail
      go_meet
      case rel => exact ⟨gu, gv, _, up, vp, rfl, rfl, scaled_2 du su dv sv ou ov hA1 hbb⟩
    · go_wp2_with fail
      go_meet
      case rel => exact ⟨gu, gv, _, up, vp, rfl, rfl, scaled_3 rfl du su dv sv ou ov hba hbb⟩
  case rest =>
    obtain ⟨gu, gv, bv, up, vp, rfl, rfl, hsc⟩ := hcut
    obtain ⟨w1, rfl⟩ : ∃ w1, w1 = wc := ⟨_, rfl⟩
    obtain ⟨V, hV⟩ : ∃ V, V = sumB ob N * sc := ⟨_, rfl⟩
    obtain ⟨X, hX⟩ : ∃ X, X = sumB oa la * sc := ⟨_, rfl⟩
    rw [← hV, ← hX] at hsc
    obtain ⟨du, su, dv, sv, ou, ov, rv, hdis, hbv, hbel⟩ := hsc
    have HSC := Lib.hid (And.intro (And.intro du su) (And.intro ou ov))
    have HD := Lib.hid hdis
    have hbe := HEQ.out.1.1
    have hLe := HEQ.out.2.1
    have hVlt : V < (pw N : Int) := by rw [hV]; exact HP.out.1
    have hVge : (pw n : Int) ≤ V := by
      have h1 := HP.out.2
      have h2 : sumB ob N * 1 ≤ sumB ob N * sc := Int.mul_le_mul_of_nonneg_left p1 (by have := (sumB_bd DA.out.2).1; omega)
      rw [hV]; omega
    have hpn : (0 : Int) < (pw n : Int) := by have := pw_pos n; omega
    have hV0 : 0 < V := by omega
    have HT2 := scaled_top (p := vp) (m := n) (V := V) (by rw [← hbe]; exact dv) (by rw [← hbe]; exact sv) (by rw [← hbe]; exact hVlt) hVge
    rw [← hbe] at HT2
    have HVT := Lib.hid HT2
    have HVV := Lib.hid (And.intro (And.intro hV hX) (And.intro hVlt (And.intro hVge hV0)))
    have hX0 : X < V * (pw M : Int) := by
      have b := sumB_bd DA.out.1
      have e1 : sumB oa la * sc < (pw la : Int) * sc := Int.mul_lt_mul_of_pos_right b.2 (by omega)
      have e2 : (pw la : Int) * sc ≤ V * (pw M : Int) := by
        have h3 : (pw la : Int) = (pw n : Int) * (pw M : Int) := by rw [← Int.natCast_mul, ← pw_add]; congr 1; congr 1; have := HEQ.out; omega
        rw [h3, hV, Int.mul_assoc, Int.mul_assoc]
        have h4 := HP.out.2
        have h5 : (pw n : Int) * ((pw M : Int) * sc) ≤ sumB ob N * ((pw M : Int) * sc) := Int.mul_le_mul_of_nonneg_right h4 (Int.mul_nonneg (by omega) (by omega))
        rwa [Int.mul_comm (pw M : Int) sc] at h5 ⊢
      rw [hX]; omega
    have hmk := run_make_row' (P := Tryz.prog) 22 54 (.int .u32 0) 4 Tryz.underlying22 info32 rfl .i64 .i64 M (by omega) (by omega)
    have xl : (L : Int) - (N : Int) = (M : Int) := by omega
    have xl2 := IntWalk.i64_in ((L : Int) - (N : Int)) (by omega)
    have xw := IntWalk.i64_in (M : Int) (by omega)
    have xM1 := IntWalk.i64_in ((M : Int) - 1) (by omega)
    have xm0 : (0 : Int) < (M : Int) := by omega
    have xm1 : (0 : Int) ≤ (M : Int) := by omega
    have xm2 : max (0 : Int) (M : Int) = (M : Int) := by omega
    have hdv : Dig vp N := fun k hk => dv k (by omega)
    have W0 := Lib.hid (show DivW w (w1.alloc (.cells (madeCells #[Value.int .u32 0] M) 54)) gu w1.heap.size gv bv N L M (N + 1) up (fun _ => 0) vp from
      ⟨ou.allocd _, Own.of_rowIs (World.rowIs_made w1 (.int .u32 0) M 54) hbel.size (fun i hi => by omega), (ov.less (by omega)).allocd _, rv.alloc _, hbel.alloc hbel.size _⟩)
    have D0 := Lib.hid (show DivI X V N L M M up (fun _ => 0) from ⟨du, fun k _ => ⟨by omega, by omega⟩, fun _ _ => rfl, by rw [Nat.sub_self, sumB, su]; simp, by rw [su]; exact hX0⟩)
    have HDIS := Lib.hid (show (gu ≠ gv ∧ gu ≠ bv ∧ gv ≠ bv) ∧ (gu < w1.heap.size ∧ gv < w1.heap.size ∧ bv < w1.heap.size) from ⟨hdis, (ou.blk rfl).2.2, (ov.blk rfl).2.2, rv.lt⟩)
    have HDV := Lib.hid hdv
    clear du su dv sv ou ov rv hdis hbv hbel hbe hLe hVlt hVge hpn hV0 HT2 hX0 hdv hV hX
    go_wp2_with fail
    go_step3
    go_wp2_with fail
    go_loopw [10] (fun iv wr => ∃ i : Nat, i ≤ M ∧ iv = .int .i64 ((i : Int) - 1) ∧ ∃ up qp, DivI X V N L M i up qp ∧ DivW w wr gu w1.heap.size gv bv N L M (N + 1) up qp vp) (fun iv _ => (1 + intOf iv).toNat)
    case atStart => exact ⟨M, Nat.le_refl _, rfl, up, _, D0.out, W0.out⟩
    case round =>
      obtain ⟨wo, rfl⟩ : ∃ wo, wo = wr := ⟨_, rfl⟩
      obtain ⟨i, hi, rfl, up2, qp2, hD, hW⟩ := hrel
      have KD := Lib.hid hD
      have KW := Lib.hid hW
      clear hD hW hmk
      by_cases hi0 : i = 0
      · subst hi0
        rw [show (((0 : Nat) : Int) - 1) = -1 from rfl]
        have hlow := sum_low (o := up2) (n := N) (L := L) KD.out.udig (by omega) (by have := KD.out.lt; rw [pw_zero] at this; have := HVV.out.2.1; omega)
        have hb := KD.out.bal
        have hlt := KD.out.lt
        rw [pw_zero, show (fun k => qp2 (0 + k)) = qp2 from by funext k; rw [Nat.zero_add], Nat.sub_zero] at hb
        rw [pw_zero] at hlt
        have hu0 := (sumB_bd KD.out.udig).1
        have hE := div_end (A := sumB oa la) (Bv := sumB ob N) (sc := sc) (Q := sumB qp2 M) (R := sumB up2 L) (by omega) (by rw [← HVV.out.1.2, ← HVV.out.1.1]; rw [hb]; simp) hu0 (by rw [← HVV.out.1.1]; simpa using hlt)
        have SH := Lib.hid (short_any (some ⟨gu, 0, none⟩) N L up2 sc wo (KW.out.u.less (by omega)).rd (fun k hk => KD.out.udig k (by omega)) (by omega) (by omega) (by omega))
        rw [hlow] at SH
        have HE := Lib.hid hE
        have xs1 : (N : Int) ≤ (L : Int) := by omega
        have xs2 : (0 : Int) ≤ (N : Int) := by omega
        clear hlow hb hlt hu0 hE
        go_wp2_with fail
        refine SH.out.mono ?_
        rintro e w2 ⟨rp, rfl, dr, sr, orr, hb2⟩
        have HRR := Lib.hid (And.intro (And.intro dr sr) (And.intro orr hb2))
        clear dr sr orr hb2 SH
        go_wp2_with fail
        rw [Exit.noGoto_ret]
        go_ret2
        exact ⟨w1.heap.size, wo.heap.size, qp2, rp, rfl, by have := (KW.out.q.blk rfl).2.2; dsimp only at this; omega, KD.out.qdig, HE.out.1, HRR.out.1.1, HRR.out.1.2.trans HE.out.2, KW.out.q.below HRR.out.2.2, HRR.out.2.1.mono KW.out.bel.size, KW.out.bel.trans (HRR.out.2.2.mono KW.out.bel.size)⟩
      · obtain ⟨j, rfl⟩ : ∃ j, i = j + 1 := ⟨i - 1, by omega⟩
        rw [show (((j + 1 : Nat) : Int) - 1) = (j : Int) by omega]
        have hH := KD.out.head (by omega) (by omega) HVV.out.2.1 HVV.out.2.2.2
        have HH := Lib.hid hH
        have hLe := HEQ.out.2.1
        have xj1 := IntWalk.i64_in ((j : Int) + (N : Int)) (by omega)
        have xj2 := IntWalk.i64_in ((j : Int) + (N : Int) + 1) (by omega)
        have xj6 := IntWalk.i64_in ((j : Int) - 1) (by omega)
        have xj3 : (j : Int) ≤ (j : Int) + (N : Int) + 1 := by omega
        have xj4 : (j : Int) + (N : Int) + 1 ≤ (L : Int) := by omega
        have xj5 : (0 : Int) ≤ (j : Int) := by omega
        have xlen : j + N + 1 - j = N + 1 := by omega
        clear hH hLe
        go_upto_region 9 with (fail)
        obtain ⟨Wh, hWh⟩ : ∃ Wh, Wh = wo.alloc (.cells #[.slice (some ⟨gu, j, none⟩) (N + 1) (L - j)] 22) := ⟨_, rfl⟩
        have LW := Lib.hid (show DivW w Wh gu w1.heap.size gv bv N L M (N + 1) up2 qp2 vp by rw [hWh]; exact ⟨KW.out.u.allocd _, KW.out.q.allocd _, KW.out.v.allocd _, KW.out.vb.alloc _, KW.out.bel.alloc KW.out.bel.size _⟩)
        have LH := Lib.hid (show Wh.rowIs wo.heap.size 22 1 (fun _ => .slice (some ⟨gu, j, none⟩) (N + 1) (L - j)) by rw [hWh]; exact row_one wo _ _)
        have HSZ := Lib.hid (show gu < wo.heap.size ∧ w1.heap.size < wo.heap.size ∧ gv < wo.heap.size ∧ bv < wo.heap.size ∧ Wh.heap.size = wo.heap.size + 1 from ⟨(KW.out.u.blk rfl).2.2, (KW.out.q.blk rfl).2.2, (KW.out.v.blk rfl).2.2, KW.out.vb.lt, by rw [hWh]; simp⟩)
        rw [show wo.alloc (.cells #[.slice (some ⟨gu, j, none⟩) (N + 1) (L - j)] 22) = Wh from hWh.symm]
        clear hWh
        have hnn := HEQ.out.1.1
        have hb0 : Wh.cell? ⟨wo.heap.size, 0, none⟩ = some (.slice (some ⟨gu, j, none⟩) (N + 1) (L - j)) := LH.out.cell (i := 0) (by omega)
        have hu1 : Wh.cell? ⟨gu, j + N, none⟩ = some (.int .u32 (up2 (j + N))) := LW.out.u.cell (by omega)
        have hu2 : Wh.cell? ⟨gu, j + n, none⟩ = some (.int .u32 (up2 (j + n))) := LW.out.u.cell (by omega)
        have hv0 : Wh.cell? ⟨bv, 0, none⟩ = some (.slice (some ⟨gv, 0, none⟩) N (N + 1)) := LW.out.vb.cell (i := 0) (by omega)
        have hv1 : Wh.cell? ⟨gv, n, none⟩ = some (.int .u32 (vp n)) := LW.out.v.cell (by omega)
        have d1 := KD.out.udig (j + N) (by omega)
        have d2 := KD.out.udig (j + n) (by omega)
        have d3 := HDV.out n (by omega)
        have d4 := HVT.out.2
        obtain ⟨two, htwo⟩ : ∃ two, two = up2 (j + N) * 1000000000 + up2 (j + n) := ⟨_, rfl⟩
        have y1 := IntWalk.u64_in (up2 (j + N)) (by omega)
        have y2 := IntWalk.u64_in (up2 (j + n)) (by omega)
        have y3 := IntWalk.u64_in (up2 (j + N) * 1000000000) (by omega)
        have y4 := IntWalk.u64_in (up2 (j + N) * 1000000000 + up2 (j + n)) (by omega)
        have y5 := IntWalk.u64_in (vp n) (by omega)
        have y6 : two.tdiv (vp n) = two / vp n := Int.tdiv_eq_ediv_of_nonneg (by omega)
        have y7 : ¬ vp n = 0 := by omega
        have y8 : 0 ≤ two / vp n ∧ two / vp n ≤ two := ⟨Int.ediv_nonneg (by omega) (by omega), Int.ediv_le_self _ (by omega)⟩
        have y9 := IntWalk.u64_in (two / vp n) (by omega)
        have z1 : (N : Int) < ((N + 1 : Nat) : Int) := by omega
        have z2 : (n : Int) < ((N + 1 : Nat) : Int) := by omega
        have z3 : (N : Int) < (N : Int) + 1 := by omega
        have z4 : (n : Int) < (N : Int) + 1 := by omega
        have z5 : n < N + 1 := by omega
        have HTWO := Lib.hid htwo
        have htb : 0 ≤ two ∧ two ≤ 999999999999999999 := by omega
        clear hnn
        go_wp2_with fail
        go_quiet (fail)
        obtain ⟨Wd, hWd⟩ : ∃ Wd, Wd = Wh.drewN nq := ⟨_, rfl⟩
        have cw : ∀ p, Wd.cell? p = Wh.cell? p := by rw [hWd]; intro p; rfl
        have LD := Lib.hid (show DivW w Wd gu w1.heap.size gv bv N L M (N + 1) up2 qp2 vp from
          have hbD : Below Wh.heap.size Wh Wd := by rw [hWd]; exact bdrewN (Below.refl _ _) nq
          ⟨LW.out.u.below hbD, LW.out.q.below hbD, LW.out.v.below hbD, LW.out.vb.of_block (hbD.block _ LW.out.vb.lt), LW.out.bel.trans (hbD.mono LW.out.bel.size)⟩)
        have LHD := Lib.hid (show Wd.rowIs wo.heap.size 22 1 (fun _ => .slice (some ⟨gu, j, none⟩) (N + 1) (L - j)) by rw [hWd]; exact LH.out)
        have HSD := Lib.hid (show Wd.heap.size = wo.heap.size + 1 by rw [hWd]; exact HSZ.out.2.2.2.2)
        rw [← hWd, ← HTWO.out]
        have hb0 := (cw _).trans hb0
        have hv0 := (cw _).trans hv0
        have hv1 := (cw _).trans hv1
        clear htwo y1 y2 y3 y4 hu1 hu2 hWd cw LW LH
        go_upto_region 11 with (fail)
        obtain ⟨g0, hg0⟩ : ∃ g0, g0 = (if 999999999 < two / vp n then 999999999 else two / vp n) := ⟨_, rfl⟩
        rw [← hg0]
        have hgm : g0 = min (two / vp n) 999999999 := by rw [hg0]; split <;> omega
        obtain ⟨bg, hbg⟩ : ∃ bg, bg = Wd.heap.size := ⟨_, rfl⟩
        obtain ⟨Wg, hWg⟩ : ∃ Wg, Wg = Wd.alloc (.cells #[.int .u64 g0] 69) := ⟨_, rfl⟩
        have MW := Lib.hid (show DivW w Wg gu w1.heap.size gv bv N L M (N + 1) up2 qp2 vp by rw [hWg]; exact ⟨LD.out.u.allocd _, LD.out.q.allocd _, LD.out.v.allocd _, LD.out.vb.alloc _, LD.out.bel.alloc LD.out.bel.size _⟩)
        have MH := Lib.hid (show Wg.rowIs wo.heap.size 22 1 (fun _ => .slice (some ⟨gu, j, none⟩) (N + 1) (L - j)) by rw [hWg]; exact LHD.out.alloc _)
        have MG := Lib.hid (show Wg.rowIs bg 69 1 (fun _ => .int .u64 g0) by rw [hWg, hbg]; exact row_one Wd _ _)
        have hbg2 : bg = wo.heap.size + 1 := hbg.trans HSD.out
        rw [show Wd.alloc (.cells #[.int .u64 g0] 69) = Wg from hWg.symm, ← hbg]
        clear hWg hbg LD LHD hb0 hv0 hv1
        have hnn := HEQ.out.1
        have hq0 : headV up2 N j / V ≤ g0 := by
          have hd := HH.out
          rw [hgm]
          have tt := (top_two (f := fun k => up2 (j + k)) (m := n) (fun k hk => KD.out.udig (j + k) (by omega))).1
          have tv := (top_two (f := vp) (m := m) (fun k hk => HDV.out k (by omega))).2
          rw [← hnn.1, ← HTWO.out] at tt
          rw [← hnn.2, ← hnn.1, HVT.out.1] at tv
          have hpm : 0 ≤ vp m * (pw m : Int) := Int.mul_nonneg (HDV.out m (by omega)).1 (by omega)
          have hpn : (0 : Int) < (pw n : Int) := by have := pw_pos n; omega
          refine guess_ge (B1 := (pw n : Int)) d4 hpn ?_ hd.1 (by simpa [headV, hnn.1] using tt) hd.2.1 HVV.out.2.2.2
          rw [Int.add_mul] at tv
          have e : vp n * (pw n : Int) = vp n * 1000000000 * (pw m : Int) := by rw [hnn.2, pw_succ, Int.natCast_mul, Int.mul_comm (pw m : Int), ← Int.mul_assoc]; rfl
          omega
        have hgv : g0 * vp n ≤ two := by
          have h1 : g0 ≤ two / vp n := by omega
          exact (Int.le_ediv_iff_mul_le d4).1 h1
        have hgb : 0 ≤ g0 ∧ g0 ≤ 999999999 := by omega
        have HG0 := Lib.hid (And.intro (And.intro hgb hq0) hgv)
        have hgn : 0 ≤ g0 * vp n := Int.mul_nonneg hgb.1 (by omega)
        have r0 : Wg.cell? ⟨bg, 0, none⟩ = some (.int .u64 g0) := MG.out.cell (i := 0) (by omega)
        have r1 : Wg.cell? ⟨bv, 0, none⟩ = some (.slice (some ⟨gv, 0, none⟩) N (N + 1)) := MW.out.vb.cell (i := 0) (by omega)
        have r2 : Wg.cell? ⟨gv, n, none⟩ = some (.int .u32 (vp n)) := MW.out.v.cell (by omega)
        have hnN := hnN
        have y10 := IntWalk.u64_in (g0 * vp n) (by omega)
        have y11 := IntWalk.u64_in (two - g0 * vp n) (by omega)
        have HB2 := Lib.hid hbg2
        clear hgm hq0 hgv hgb hgn hg0 hnn hbg2
        go_wp2_with fail
        go_quiet (fail)
        obtain ⟨Wv, hWv⟩ : ∃ Wv, Wv = Wg.drewN nq := ⟨_, rfl⟩
        have hbD : Below Wg.heap.size Wg Wv := by rw [hWv]; exact bdrewN (Below.refl _ _) nq
        have NW := Lib.hid (show DivW w Wv gu w1.heap.size gv bv N L M (N + 1) up2 qp2 vp from ⟨MW.out.u.below hbD, MW.out.q.below hbD, MW.out.v.below hbD, MW.out.vb.of_block (hbD.block _ MW.out.vb.lt), MW.out.bel.trans (hbD.mono MW.out.bel.size)⟩)
        have NH := Lib.hid (MH.out.of_block (hbD.block _ MH.out.lt))
        have NG := Lib.hid (MG.out.of_block (hbD.block _ MG.out.lt))
        rw [← hWv]
        clear hWv hbD r0 r1 r2 MW MH MG y10 y11
        go_wp2_with fail
        go_loopw [14] (fun ov wx => ∃ g : Int, ((0 ≤ g ∧ g ≤ 999999999) ∧ headV up2 N j / V ≤ g) ∧ g * vp n ≤ two ∧ ov = .int .u64 (two - g * vp n) ∧ DivW w wx gu w1.heap.size gv bv N L M (N + 1) up2 qp2 vp ∧
          wx.rowIs wo.heap.size 22 1 (fun _ => .slice (some ⟨gu, j, none⟩) (N + 1) (L - j)) ∧ wx.rowIs bg 69 1 (fun _ => .int .u64 g)) (fun ov _ => (1000000000 - intOf ov).toNat)
        case atStart => exact ⟨g0, HG0.out.1, HG0.out.2, rfl, NW.out, NH.out, NG.out⟩
        case round =>
          obtain ⟨g, hg, hgt, rfl, hW, hH, hG⟩ := hrel
          have OW := Lib.hid hW; have OH := Lib.hid hH; have OG := Lib.hid hG; have OB := Lib.hid hg
          have hv1 := HDV.out n (by have := HEQ.out.1; omega)
          have hgn : 0 ≤ g * vp n := Int.mul_nonneg hg.1.1 hv1.1
          obtain ⟨ov, hov⟩ : ∃ ov, ov = two - g * vp n := ⟨_, rfl⟩
          have hob : 0 ≤ ov ∧ ov ≤ 999999999999999999 := by omega
          have HOV := Lib.hid hov
          rw [← hov]
          have hv2 := HDV.out m (by have := HEQ.out.1; omega)
          have hu3 := KD.out.udig (j + m) (by have := HEQ.out; omega)
          have hgm : 0 ≤ g * vp m ∧ g * vp m ≤ 999999999 * 999999999 := ⟨Int.mul_nonneg hg.1.1 hv2.1, Int.mul_le_mul hg.1.2 (by omega) hv2.1 (by omega)⟩
          obtain ⟨gm, hgm2⟩ : ∃ gm, gm = g * vp m := ⟨_, rfl⟩
          rw [← hgm2] at hgm
          have HGM := Lib.hid hgm2
          have r0 : wr.cell? ⟨bg, 0, none⟩ = some (.int .u64 g) := hG.cell (i := 0) (by omega)
          have r1 : wr.cell? ⟨bv, 0, none⟩ = some (.slice (some ⟨gv, 0, none⟩) N (N + 1)) := hW.vb.cell (i := 0) (by omega)
          have r2 : wr.cell? ⟨wo.heap.size, 0, none⟩ = some (.slice (some ⟨gu, j, none⟩) (N + 1) (L - j)) := hH.cell (i := 0) (by omega)
          have r3 : wr.cell? ⟨gv, n, none⟩ = some (.int .u32 (vp n)) := hW.v.cell (by have := HEQ.out.1; omega)
          have r4 : wr.cell? ⟨gv, m, none⟩ = some (.int .u32 (vp m)) := hW.v.cell (by have := HEQ.out.1; omega)
          have r5 : wr.cell? ⟨gu, j + m, none⟩ = some (.int .u32 (up2 (j + m))) := hW.u.cell (by have := HEQ.out; omega)
          have fz := hG.frozen
          have ne1 : ¬ bv = bg := by have := HSZ.out; have := HB2.out; omega
          have ne2 : ¬ gv = bg := by have := HSZ.out; have := HB2.out; omega
          have ne3 : ¬ bg = bv := fun h => ne1 h.symm
          have ne4 : ¬ bg = gv := fun h => ne2 h.symm
          have xm : (N : Int) - 2 = (m : Int) := by have := HEQ.out.1; omega
          have xm3 := IntWalk.i64_in ((N : Int) - 2) (by omega)
          have xm4 : (m : Int) < (N : Int) := by have := HEQ.out.1; omega
          have xm5 : (m : Int) < (N : Int) + 1 := by omega
          have xm6 : m < N := by omega
          have w1' := IntWalk.u64_in (vp m) (by omega)
          have w2' := IntWalk.u64_in (vp n) (by omega)
          have w3' := IntWalk.u64_in gm (by omega)
          have w4' := IntWalk.u64_in (up2 (j + m)) (by omega)
          have w5' := IntWalk.u64_in g (by omega)
          clear hW hH hG hg hgt hgn hv2 hu3 hov hgm2
          by_cases hlt : ov < 1000000000
          · have w6' := IntWalk.u64_in (ov * 1000000000) (by omega)
            have w7' := IntWalk.u64_in (ov * 1000000000 + up2 (j + m)) (by have := KD.out.udig (j + m) (by have := HEQ.out; omega); omega)
            have egm : g * vp m = gm := HGM.out.symm
            by_cases hgr : gm > ov * 1000000000 + up2 (j + m)
            · have w8' := IntWalk.u64_in (g - 1) (by have := OB.out; have : g ≠ 0 := (fun h => by rw [HGM.out, h, Int.zero_mul] at hgr; have := KD.out.udig (j + m) (by have := HEQ.out; omega); omega); omega)
              have w9' := IntWalk.u64_in (ov + vp n) (by omega)
              have hnn := HEQ.out.1
              have HGD := Lib.hid (show headV up2 N j / V ≤ g - 1 from by
                have tt := top_three (f := fun k => up2 (j + k)) (m := m) (fun k hk => KD.out.udig (j + k) (by have := HEQ.out; omega))
                have tv := (top_two (f := vp) (m := m) (fun k hk => HDV.out k (by omega))).2
                have hpm : (0 : Int) < (pw m : Int) := by have := pw_pos m; omega
                rw [← hnn.2, ← hnn.1, HVT.out.1] at tv
                refine guess_down (v1 := vp n) (v2 := vp m) (two := two) (h2 := up2 (j + m)) hpm tv ?_ OB.out.1.1 (by rw [← HOV.out, ← HGM.out]; omega) OB.out.2 HVV.out.2.2.2
                have e : two = up2 (j + (m + 1 + 1)) * 1000000000 + up2 (j + (m + 1)) := by rw [HTWO.out, hnn.1, hnn.2]
                rw [e]
                simpa [headV, hnn.1, hnn.2] using tt)
              have HG1 := Lib.hid (show 0 ≤ g - 1 ∧ g - 1 ≤ 999999999 ∧ (g - 1) * vp n ≤ two ∧ ov + vp n = two - (g - 1) * vp n from by
                have h1 := OB.out
                have h2 : g ≠ 0 := (fun h => by rw [HGM.out, h, Int.zero_mul] at hgr; have := KD.out.udig (j + m) (by have := HEQ.out; omega); omega)
                have h3 : (g - 1) * vp n = g * vp n - vp n := by rw [Int.sub_mul, Int.one_mul]
                have h4 := HOV.out
                omega)
              have HNE := Lib.hid (show (gu ≠ bg ∧ w1.heap.size ≠ bg ∧ gv ≠ bg ∧ bv ≠ bg) ∧ w.heap.size ≤ bg ∧ wo.heap.size ≠ bg by have := HSZ.out; have := HB2.out; have := KW.out.bel.size; omega)
              clear hnn
              go_wp2_with fail
              go_quiet (fail)
              go_wp2_with fail
              go_roundw
              case rel => exact ⟨g - 1, ⟨⟨HG1.out.1, HG1.out.2.1⟩, HGD.out⟩, HG1.out.2.2.1, by rw [HG1.out.2.2.2], (OW.out.drewN nq).setBox HNE.out.1 HNE.out.2.1 _, World.rowIs.setOther (w := wr.drewN nq) OH.out HNE.out.2.2 _, (World.rowIs.set (w := wr.drewN nq) OG.out 0 _).congr (fun i hi => by rw [if_pos (by omega)])⟩
              case measure => simp [intOf]; omega
            · go_wp2_with fail
              go_quiet (fail)
              obtain ⟨wy, hwy⟩ : ∃ wy, wy = wr.drewN nq := ⟨_, rfl⟩
              rw [← hwy]
              have hbD : Below wr.heap.size wr wy := by rw [hwy]; exact bdrewN (Below.refl _ _) nq
              have PW := Lib.hid (show DivW w wy gu w1.heap.size gv bv N L M (N + 1) up2 qp2 vp from ⟨OW.out.u.below hbD, OW.out.q.below hbD, OW.out.v.below hbD, OW.out.vb.of_block (hbD.block _ OW.out.vb.lt), OW.out.bel.trans (hbD.mono OW.out.bel.size)⟩)
              have PH := Lib.hid (OH.out.of_block (hbD.block _ OH.out.lt))
              have PG := Lib.hid (OG.out.of_block (hbD.block _ OG.out.lt))
              have r0 : wy.cell? ⟨bg, 0, none⟩ = some (.int .u64 g) := PG.out.cell (i := 0) (by omega)
              clear hwy hbD r1 r2 r3 r4 r5 fz w1' w2' w3' w4' w5' OW OH OG
              by_cases hz : g = 0
              · have KS := Lib.hid (KD.out.skip (by omega) (by omega) HVV.out.2.1 HVV.out.2.2.2 (by have := OB.out.2; omega))
                subst hz
                go_wp2_with fail
                go_roundw
                case rel => exact ⟨j, by omega, rfl, up2, qp2, KS.out, PW.out⟩
                case measure => simp [intOf]; omega
              · have hgz : (g == 0) = false := by simpa using hz
                go_wp2_with fail
                clear r0 hgz
                go_loopw [15] (fun lv wx => (∃ v : Value, lv = v) ∧ ∃ g : Int, ((0 ≤ g ∧ g ≤ 999999999) ∧ headV up2 N j / V ≤ g) ∧ DivW w wx gu w1.heap.size gv bv N L M (N + 1) up2 qp2 vp ∧
                  wx.rowIs wo.heap.size 22 1 (fun _ => .slice (some ⟨gu, j, none⟩) (N + 1) (L - j)) ∧ wx.rowIs bg 69 1 (fun _ => .int .u64 g)) (fun _ wx => boxN wx bg)
                case atStart => exact ⟨⟨_, rfl⟩, g, OB.out, PW.out, PH.out, PG.out⟩
                case round =>
                  obtain ⟨⟨lv, rfl⟩, g3, hg3, hW, hH, hG⟩ := hrel
                  have QW := Lib.hid hW; have QH := Lib.hid hH; have QG := Lib.hid hG; have QB := Lib.hid hg3
                  have HQ0 := Lib.hid (boxN_row hG)
                  have r0 : wr.cell? ⟨bg, 0, none⟩ = some (.int .u64 g3) := hG.cell (i := 0) (by omega)
                  have r1 : wr.cell? ⟨bv, 0, none⟩ = some (.slice (some ⟨gv, 0, none⟩) N (N + 1)) := hW.vb.cell (i := 0) (by omega)
                  have r2 : wr.cell? ⟨wo.heap.size, 0, none⟩ = some (.slice (some ⟨gu, j, none⟩) (N + 1) (L - j)) := hH.cell (i := 0) (by omega)
                  have hLe := HEQ.out.2.1
                  have hpart : ∀ k, 0 ≤ part vp N k ∧ part vp N k ≤ 999999999 := by
                    intro k
                    unfold part
                    split
                    · have := HDV.out k (by omega); omega
                    · omega
                  have QW' := QW
                  have CA := Lib.hid (carry_any 145 #[.pointer (some ⟨wo.heap.size, 0, none⟩), .pointer (some ⟨bg, 0, none⟩), .pointer (some ⟨bv, 0, none⟩)] (N + 1) (lessF up2 vp j N g3) (-999999999) 1 wr (by omega) cf_div
                    (fun k hk v1 hb1 => divFn v1 wo.heap.size bg bv gu j N (L - j) (N + 1) (some ⟨gv, 0, none⟩) up2 vp g3 k ((hb1.cell (p := ⟨wo.heap.size, 0, none⟩) QH.out.lt).trans r2) ((hb1.cell (p := ⟨bg, 0, none⟩) QG.out.lt).trans r0) ((hb1.cell (p := ⟨bv, 0, none⟩) QW.out.vb.lt).trans r1)
                      ((QW.out.u.below hb1).cell (by omega)) (by omega) ((QW.out.v.less (by omega)).below hb1).rd (by omega) QB.out.1 (by have := KD.out.udig (j + k) (by omega); omega) (hpart k))
                    (fun k hk => by
                      have h1 := KD.out.udig (j + k) (by omega)
                      have h2 := hpart k
                      have h3 : g3 * part vp N k ≤ 999999999 * 999999999 := Int.mul_le_mul QB.out.1.2 h2.2 h2.1 (by omega)
                      have h4 : 0 ≤ g3 * part vp N k := Int.mul_nonneg QB.out.1.1 h2.1
                      unfold lessF
                      omega) (by omega) (by omega) (by omega) (by omega))
                  rw [show ((N + 1 : Nat) : Int) = (N : Int) + 1 from rfl] at CA
                  have xK := IntWalk.i64_in ((N : Int) + 1) (by omega)
                  clear hg3 hW hH hG hLe hpart
                  go_wp2_with fail
                  refine CA.out.mono ?_
                  rintro e w4 ⟨rfl, hO4, hb4⟩
                  have RW := Lib.hid (show DivW w w4 gu w1.heap.size gv bv N L M (N + 1) up2 qp2 vp from ⟨QW.out.u.below hb4, QW.out.q.below hb4, QW.out.v.below hb4, QW.out.vb.of_block (hb4.block _ QW.out.vb.lt), QW.out.bel.trans (hb4.mono QW.out.bel.size)⟩)
                  have RH := Lib.hid (QH.out.of_block (hb4.block _ QH.out.lt))
                  have RG := Lib.hid (QG.out.of_block (hb4.block _ QG.out.lt))
                  have RO := Lib.hid hO4
                  clear hO4 hb4 CA r0 r1 r2 QW QH QG
                  have r0 : w4.cell? ⟨bg, 0, none⟩ = some (.int .u64 g3) := RG.out.cell (i := 0) (by omega)
                  have r1 : w4.cell? ⟨bv, 0, none⟩ = some (.slice (some ⟨gv, 0, none⟩) N (N + 1)) := RW.out.vb.cell (i := 0) (by omega)
                  have r2 : w4.cell? ⟨wo.heap.size, 0, none⟩ = some (.slice (some ⟨gu, j, none⟩) (N + 1) (L - j)) := RH.out.cell (i := 0) (by omega)
                  have BL := Lib.hid (below_any (some ⟨gu, j, none⟩) (some ⟨gv, 0, none⟩) (N + 1) (L - j) N (N + 1) (fun k => up2 (j + k)) vp g3 w4 (Rd.at_own RW.out.u (by omega)) (RW.out.v.less (by omega)).rd (fun k hk => KD.out.udig (j + k) (by omega)) HDV.out (by have := HEQ.out.2.1; omega) (by have := HEQ.out.2.1; omega) QB.out.1)
                  rw [show sumB (fun k => up2 (j + k)) (N + 1) = headV up2 N j from rfl, HVT.out.1] at BL
                  go_wp2_with fail
                  refine BL.out.mono ?_
                  rintro e w5 ⟨rfl, hb5⟩
                  have SW := Lib.hid (show DivW w w5 gu w1.heap.size gv bv N L M (N + 1) up2 qp2 vp from ⟨RW.out.u.below hb5, RW.out.q.below hb5, RW.out.v.below hb5, RW.out.vb.of_block (hb5.block _ RW.out.vb.lt), RW.out.bel.trans (hb5.mono RW.out.bel.size)⟩)
                  have SH := Lib.hid (RH.out.of_block (hb5.block _ RH.out.lt))
                  have SG := Lib.hid (RG.out.of_block (hb5.block _ RG.out.lt))
                  have SO := Lib.hid (RO.out.below hb5)
                  clear hb5 BL r0 r1 r2 RW RH RG RO
                  have r0 : w5.cell? ⟨bg, 0, none⟩ = some (.int .u64 g3) := SG.out.cell (i := 0) (by omega)
                  have r2 : w5.cell? ⟨wo.heap.size, 0, none⟩ = some (.slice (some ⟨gu, j, none⟩) (N + 1) (L - j)) := SH.out.cell (i := 0) (by omega)
                  have fz := SG.out.frozen
                  have HNE := Lib.hid (show (gu ≠ bg ∧ w1.heap.size ≠ bg ∧ gv ≠ bg ∧ bv ≠ bg) ∧ w.heap.size ≤ bg ∧ wo.heap.size ≠ bg ∧ gu < wr.heap.size by have := HSZ.out; have := HB2.out; have := KW.out.bel.size; have := HDIS.out; have := (QW'.out.u.blk rfl).2.2; dsimp only at this; omega)
                  by_cases hlt3 : headV up2 N j < V * g3
                  · have hh0 := HH.out.1
                    have hgp : 1 ≤ g3 := by
                      rcases Int.lt_or_le 0 g3 with h | h
                      · omega
                      · have := QB.out.1.1
                        rw [show g3 = 0 by omega, Int.mul_zero] at hlt3
                        omega
                    have w8' := IntWalk.u64_in (g3 - 1) (by have := QB.out.1; omega)
                    have HGL := Lib.hid (And.intro (guess_less HVV.out.2.2.2 QB.out.2 hlt3) hgp)
                    clear hh0 hgp
                    go_wp2_with fail
                    go_roundw
                    case rel => exact ⟨⟨_, rfl⟩, g3 - 1, ⟨⟨by have := HGL.out.2; omega, by have := QB.out.1; omega⟩, HGL.out.1⟩, SW.out.setBox HNE.out.1 HNE.out.2.1 _, World.rowIs.setOther (a := ⟨bg, 0, none⟩) SH.out HNE.out.2.2.1 _, (SG.out.set 0 _).congr (fun i hi => by rw [if_pos (by omega)])⟩
                    case measure =>
                      have e1 := boxN_row ((SG.out.set 0 (.int .u64 (g3 - 1))).congr (g := fun _ => .int .u64 (g3 - 1)) (fun i hi => by rw [if_pos (by omega)]))
                      rw [e1, HQ0.out]
                      have := HGL.out.2
                      omega
                  · obtain ⟨gr1, gr2, gr3⟩ := guess_right HVV.out.2.2.2 QB.out.2 hlt3
                    have hLe := HEQ.out.2.1
                    have hsum : sumB (cD (lessF up2 vp j N g3)) (N + 1) = headV up2 N j - V * g3 := by
                      have h1 := lessF_sum up2 vp j N g3
                      rw [HVT.out.1] at h1
                      rw [(cS_fits (by rw [h1]; exact gr2) (by rw [h1, pw_succ, Int.natCast_mul]; have := HVV.out.2.1; omega)).2, h1]
                    have ST := Lib.hid (KD.out.step (g := g3) (r := cD (lessF up2 vp j N g3)) (by omega) (by omega) HVV.out.2.1 HVV.out.2.2.2 (by have := QB.out.1; omega) (cD_Dig _ _) hsum gr3)
                    obtain ⟨vc, w6, hrun, hown6, hgrow⟩ := copy_own (r := cD (lessF up2 vp j N g3)) SW.out.u (i := j) (m := N + 1) (by omega) (by omega) SO.out.rd 3 (L - j) (N + 1)
                    have HO6 := Lib.hid hown6
                    have HG6 := Lib.hid hgrow
                    have w7' := IntWalk.u32_in g3 (by have := QB.out.1; omega)
                    have hsz6 := SW.out.bel.size
                    have TG := Lib.hid (SG.out.of_block (hgrow.block bg SG.out.lt (fun e => by have := HNE.out.1.1; cases e; contradiction)))
                    have TQ := Lib.hid (SW.out.q.keep fun p hp => hgrow.block _ (SW.out.q.blk hp).2.2 (fun e => by have := HDIS.out; have := (KW.out.u.blk rfl).2.2; cases hp; cases e; have h9 := HDIS.out.2.1; dsimp only at *; omega))
                    have r5 : w6.cell? ⟨bg, 0, none⟩ = some (.int .u64 g3) := TG.out.cell (i := 0) (by omega)
                    obtain ⟨vo, r6⟩ : ∃ vo, w6.cell? ⟨w1.heap.size, j, none⟩ = some vo := ⟨_, TQ.out.cell (by omega)⟩
                    have fq := TQ.out.fz
                    clear hown6 hgrow gr1 gr2 gr3 hsum hLe
                    have HF := Lib.hid (show DivW w (w6.setCell ⟨w1.heap.size, j, none⟩ (.int .u32 g3)) gu w1.heap.size gv bv N L M (N + 1) (splice up2 j (N + 1) (cD (lessF up2 vp j N g3))) (upd qp2 j g3) vp from by
                      have hd := HDIS.out
                      have hv6 := SW.out.v.keep (w' := w6) fun p hp => HG6.out.block _ (SW.out.v.blk hp).2.2 (fun e => by cases hp; cases e; exact hd.1.1 rfl)
                      have hb6 := SW.out.vb.of_block (w' := w6) (HG6.out.block _ SW.out.vb.lt (fun e => by cases e; exact hd.1.2.1 rfl))
                      have hl6 : Below w.heap.size w w6 := SW.out.bel.grown HG6.out SW.out.bel.size (fun k hk => by cases hk; exact (SW.out.u.blk rfl).2.1)
                      refine ⟨HO6.out.keep fun p hp => Below.heap_setCell _ _ _ _ (by cases hp; dsimp only; omega), TQ.out.put (by omega) (by have := QB.out.1; omega), hv6.keep fun p hp => Below.heap_setCell _ _ _ _ (by cases hp; dsimp only; omega), hb6.setOther (by dsimp only; omega) _, hl6.setCell (p := ⟨w1.heap.size, j, none⟩) (TQ.out.blk rfl).2.1 _⟩)
                    go_wp2_with fail
                    go_roundw
                    case rel => exact ⟨j, by omega, rfl, _, _, ST.out, HF.out⟩
                    case measure => simp [intOf]; omega
          · have hge : ¬ ov < 1000000000 := hlt
            have hdb : decide (ov < 1000000000) = false := decide_eq_false hlt
            go_wp2_with fail
            go_quiet (fail)
            obtain ⟨wy, hwy⟩ : ∃ wy, wy = wr.drewN nq := ⟨_, rfl⟩
            rw [← hwy]
            have hbD : Below wr.heap.size wr wy := by rw [hwy]; exact bdrewN (Below.refl _ _) nq
            have PW := Lib.hid (show DivW w wy gu w1.heap.size gv bv N L M (N + 1) up2 qp2 vp from ⟨OW.out.u.below hbD, OW.out.q.below hbD, OW.out.v.below hbD, OW.out.vb.of_block (hbD.block _ OW.out.vb.lt), OW.out.bel.trans (hbD.mono OW.out.bel.size)⟩)
            have PH := Lib.hid (OH.out.of_block (hbD.block _ OH.out.lt))
            have PG := Lib.hid (OG.out.of_block (hbD.block _ OG.out.lt))
            have r0 : wy.cell? ⟨bg, 0, none⟩ = some (.int .u64 g) := PG.out.cell (i := 0) (by omega)
            clear hwy hbD r1 r2 r3 r4 r5 fz w1' w2' w3' w4' w5' OW OH OG
            by_cases hz : g = 0
            · have KS := Lib.hid (KD.out.skip (by omega) (by omega) HVV.out.2.1 HVV.out.2.2.2 (by have := OB.out.2; omega))
              subst hz
              go_wp2_with fail
              go_roundw
              case rel => exact ⟨j, by omega, rfl, up2, qp2, KS.out, PW.out⟩
              case measure => simp [intOf]; omega
            · have hgz : (g == 0) = false := by simpa using hz
              go_wp2_with fail
              clear r0 hgz
              go_loopw [15] (fun lv wx => (∃ v : Value, lv = v) ∧ ∃ g : Int, ((0 ≤ g ∧ g ≤ 999999999) ∧ headV up2 N j / V ≤ g) ∧ DivW w wx gu w1.heap.size gv bv N L M (N + 1) up2 qp2 vp ∧
                wx.rowIs wo.heap.size 22 1 (fun _ => .slice (some ⟨gu, j, none⟩) (N + 1) (L - j)) ∧ wx.rowIs bg 69 1 (fun _ => .int .u64 g)) (fun _ wx => boxN wx bg)
              case atStart => exact ⟨⟨_, rfl⟩, g, OB.out, PW.out, PH.out, PG.out⟩
              case round =>
                obtain ⟨⟨lv, rfl⟩, g3, hg3, hW, hH, hG⟩ := hrel
                have QW := Lib.hid hW; have QH := Lib.hid hH; have QG := Lib.hid hG; have QB := Lib.hid hg3
                have HQ0 := Lib.hid (boxN_row hG)
                have r0 : wr.cell? ⟨bg, 0, none⟩ = some (.int .u64 g3) := hG.cell (i := 0) (by omega)
                have r1 : wr.cell? ⟨bv, 0, none⟩ = some (.slice (some ⟨gv, 0, none⟩) N (N + 1)) := hW.vb.cell (i := 0) (by omega)
                have r2 : wr.cell? ⟨wo.heap.size, 0, none⟩ = some (.slice (some ⟨gu, j, none⟩) (N + 1) (L - j)) := hH.cell (i := 0) (by omega)
                have hLe := HEQ.out.2.1
                have hpart : ∀ k, 0 ≤ part vp N k ∧ part vp N k ≤ 999999999 := by
                  intro k
                  unfold part
                  split
                  · have := HDV.out k (by omega); omega
                  · omega
                have QW' := QW
                have CA := Lib.hid (carry_any 145 #[.pointer (some ⟨wo.heap.size, 0, none⟩), .pointer (some ⟨bg, 0, none⟩), .pointer (some ⟨bv, 0, none⟩)] (N + 1) (lessF up2 vp j N g3) (-999999999) 1 wr (by omega) cf_div
                  (fun k hk v1 hb1 => divFn v1 wo.heap.size bg bv gu j N (L - j) (N + 1) (some ⟨gv, 0, none⟩) up2 vp g3 k ((hb1.cell (p := ⟨wo.heap.size, 0, none⟩) QH.out.lt).trans r2) ((hb1.cell (p := ⟨bg, 0, none⟩) QG.out.lt).trans r0) ((hb1.cell (p := ⟨bv, 0, none⟩) QW.out.vb.lt).trans r1)
                    ((QW.out.u.below hb1).cell (by omega)) (by omega) ((QW.out.v.less (by omega)).below hb1).rd (by omega) QB.out.1 (by have := KD.out.udig (j + k) (by omega); omega) (hpart k))
                  (fun k hk => by
                    have h1 := KD.out.udig (j + k) (by omega)
                    have h2 := hpart k
                    have h3 : g3 * part vp N k ≤ 999999999 * 999999999 := Int.mul_le_mul QB.out.1.2 h2.2 h2.1 (by omega)
                    have h4 : 0 ≤ g3 * part vp N k := Int.mul_nonneg QB.out.1.1 h2.1
                    unfold lessF
                    omega) (by omega) (by omega) (by omega) (by omega))
                rw [show ((N + 1 : Nat) : Int) = (N : Int) + 1 from rfl] at CA
                have xK := IntWalk.i64_in ((N : Int) + 1) (by omega)
                clear hg3 hW hH hG hLe hpart
                go_wp2_with fail
                refine CA.out.mono ?_
                rintro e w4 ⟨rfl, hO4, hb4⟩
                have RW := Lib.hid (show DivW w w4 gu w1.heap.size gv bv N L M (N + 1) up2 qp2 vp from ⟨QW.out.u.below hb4, QW.out.q.below hb4, QW.out.v.below hb4, QW.out.vb.of_block (hb4.block _ QW.out.vb.lt), QW.out.bel.trans (hb4.mono QW.out.bel.size)⟩)
                have RH := Lib.hid (QH.out.of_block (hb4.block _ QH.out.lt))
                have RG := Lib.hid (QG.out.of_block (hb4.block _ QG.out.lt))
                have RO := Lib.hid hO4
                clear hO4 hb4 CA r0 r1 r2 QW QH QG
                have r0 : w4.cell? ⟨bg, 0, none⟩ = some (.int .u64 g3) := RG.out.cell (i := 0) (by omega)
                have r1 : w4.cell? ⟨bv, 0, none⟩ = some (.slice (some ⟨gv, 0, none⟩) N (N + 1)) := RW.out.vb.cell (i := 0) (by omega)
                have r2 : w4.cell? ⟨wo.heap.size, 0, none⟩ = some (.slice (some ⟨gu, j, none⟩) (N + 1) (L - j)) := RH.out.cell (i := 0) (by omega)
                have BL := Lib.hid (below_any (some ⟨gu, j, none⟩) (some ⟨gv, 0, none⟩) (N + 1) (L - j) N (N + 1) (fun k => up2 (j + k)) vp g3 w4 (Rd.at_own RW.out.u (by omega)) (RW.out.v.less (by omega)).rd (fun k hk => KD.out.udig (j + k) (by omega)) HDV.out (by have := HEQ.out.2.1; omega) (by have := HEQ.out.2.1; omega) QB.out.1)
                rw [show sumB (fun k => up2 (j + k)) (N + 1) = headV up2 N j from rfl, HVT.out.1] at BL
                go_wp2_with fail
                refine BL.out.mono ?_
                rintro e w5 ⟨rfl, hb5⟩
                have SW := Lib.hid (show DivW w w5 gu w1.heap.size gv bv N L M (N + 1) up2 qp2 vp from ⟨RW.out.u.below hb5, RW.out.q.below hb5, RW.out.v.below hb5, RW.out.vb.of_block (hb5.block _ RW.out.vb.lt), RW.out.bel.trans (hb5.mono RW.out.bel.size)⟩)
                have SH := Lib.hid (RH.out.of_block (hb5.block _ RH.out.lt))
                have SG := Lib.hid (RG.out.of_block (hb5.block _ RG.out.lt))
                have SO := Lib.hid (RO.out.below hb5)
                clear hb5 BL r0 r1 r2 RW RH RG RO
                have r0 : w5.cell? ⟨bg, 0, none⟩ = some (.int .u64 g3) := SG.out.cell (i := 0) (by omega)
                have r2 : w5.cell? ⟨wo.heap.size, 0, none⟩ = some (.slice (some ⟨gu, j, none⟩) (N + 1) (L - j)) := SH.out.cell (i := 0) (by omega)
                have fz := SG.out.frozen
                have HNE := Lib.hid (show (gu ≠ bg ∧ w1.heap.size ≠ bg ∧ gv ≠ bg ∧ bv ≠ bg) ∧ w.heap.size ≤ bg ∧ wo.heap.size ≠ bg ∧ gu < wr.heap.size by have := HSZ.out; have := HB2.out; have := KW.out.bel.size; have := HDIS.out; have := (QW'.out.u.blk rfl).2.2; dsimp only at this; omega)
                by_cases hlt3 : headV up2 N j < V * g3
                · have hh0 := HH.out.1
                  have hgp : 1 ≤ g3 := by
                    rcases Int.lt_or_le 0 g3 with h | h
                    · omega
                    · have := QB.out.1.1
                      rw [show g3 = 0 by omega, Int.mul_zero] at hlt3
                      omega
                  have w8' := IntWalk.u64_in (g3 - 1) (by have := QB.out.1; omega)
                  have HGL := Lib.hid (And.intro (guess_less HVV.out.2.2.2 QB.out.2 hlt3) hgp)
                  clear hh0 hgp
                  go_wp2_with fail
                  go_roundw
                  case rel => exact ⟨⟨_, rfl⟩, g3 - 1, ⟨⟨by have := HGL.out.2; omega, by have := QB.out.1; omega⟩, HGL.out.1⟩, SW.out.setBox HNE.out.1 HNE.out.2.1 _, World.rowIs.setOther (a := ⟨bg, 0, none⟩) SH.out HNE.out.2.2.1 _, (SG.out.set 0 _).congr (fun i hi => by rw [if_pos (by omega)])⟩
                  case measure =>
                    have e1 := boxN_row ((SG.out.set 0 (.int .u64 (g3 - 1))).congr (g := fun _ => .int .u64 (g3 - 1)) (fun i hi => by rw [if_pos (by omega)]))
                    rw [e1, HQ0.out]
                    have := HGL.out.2
                    omega
                · obtain ⟨gr1, gr2, gr3⟩ := guess_right HVV.out.2.2.2 QB.out.2 hlt3
                  have hLe := HEQ.out.2.1
                  have hsum : sumB (cD (lessF up2 vp j N g3)) (N + 1) = headV up2 N j - V * g3 := by
                    have h1 := lessF_sum up2 vp j N g3
                    rw [HVT.out.1] at h1
                    rw [(cS_fits (by rw [h1]; exact gr2) (by rw [h1, pw_succ, Int.natCast_mul]; have := HVV.out.2.1; omega)).2, h1]
                  have ST := Lib.hid (KD.out.step (g := g3) (r := cD (lessF up2 vp j N g3)) (by omega) (by omega) HVV.out.2.1 HVV.out.2.2.2 (by have := QB.out.1; omega) (cD_Dig _ _) hsum gr3)
                  obtain ⟨vc, w6, hrun, hown6, hgrow⟩ := copy_own (r := cD (lessF up2 vp j N g3)) SW.out.u (i := j) (m := N + 1) (by omega) (by omega) SO.out.rd 3 (L - j) (N + 1)
                  have HO6 := Lib.hid hown6
                  have HG6 := Lib.hid hgrow
                  have w7' := IntWalk.u32_in g3 (by have := QB.out.1; omega)
                  have hsz6 := SW.out.bel.size
                  have TG := Lib.hid (SG.out.of_block (hgrow.block bg SG.out.lt (fun e => by have := HNE.out.1.1; cases e; contradiction)))
                  have TQ := Lib.hid (SW.out.q.keep fun p hp => hgrow.block _ (SW.out.q.blk hp).2.2 (fun e => by have := HDIS.out; have := (KW.out.u.blk rfl).2.2; cases hp; cases e; have h9 := HDIS.out.2.1; dsimp only at *; omega))
                  have r5 : w6.cell? ⟨bg, 0, none⟩ = some (.int .u64 g3) := TG.out.cell (i := 0) (by omega)
                  obtain ⟨vo, r6⟩ : ∃ vo, w6.cell? ⟨w1.heap.size, j, none⟩ = some vo := ⟨_, TQ.out.cell (by omega)⟩
                  have fq := TQ.out.fz
                  clear hown6 hgrow gr1 gr2 gr3 hsum hLe
                  have HF := Lib.hid (show DivW w (w6.setCell ⟨w1.heap.size, j, none⟩ (.int .u32 g3)) gu w1.heap.size gv bv N L M (N + 1) (splice up2 j (N + 1) (cD (lessF up2 vp j N g3))) (upd qp2 j g3) vp from by
                    have hd := HDIS.out
                    have hv6 := SW.out.v.keep (w' := w6) fun p hp => HG6.out.block _ (SW.out.v.blk hp).2.2 (fun e => by cases hp; cases e; exact hd.1.1 rfl)
                    have hb6 := SW.out.vb.of_block (w' := w6) (HG6.out.block _ SW.out.vb.lt (fun e => by cases e; exact hd.1.2.1 rfl))
                    have hl6 : Below w.heap.size w w6 := SW.out.bel.grown HG6.out SW.out.bel.size (fun k hk => by cases hk; exact (SW.out.u.blk rfl).2.1)
                    refine ⟨HO6.out.keep fun p hp => Below.heap_setCell _ _ _ _ (by cases hp; dsimp only; omega), TQ.out.put (by omega) (by have := QB.out.1; omega), hv6.keep fun p hp => Below.heap_setCell _ _ _ _ (by cases hp; dsimp only; omega), hb6.setOther (by dsimp only; omega) _, hl6.setCell (p := ⟨w1.heap.size, j, none⟩) (TQ.out.blk rfl).2.1 _⟩)
                  go_wp2_with fail
                  go_roundw
                  case rel => exact ⟨j, by omega, rfl, _, _, ST.out, HF.out⟩
                  case measure => simp [intOf]; omega
theorem Own.made (w : World) (n : Nat) (o : Nat → Int) : Own 54 (w.alloc (.cells (madeCells #[Value.int .u32 0] n) 54)) w.heap.size (some ⟨w.heap.size, 0, none⟩) 0 n o :=
  ⟨Nat.zero_le _, Or.inr ⟨_, _, rfl, Nat.le_refl _, heap_alloc_new w _, by rw [size_madeCells]; exact Nat.le_refl _, fun i hi => by omega⟩, fun i hi => by omega⟩
end Go.Proofs.YtefjjhfahebmeaaGreatDoor.Limb
namespace Go.Fresh
open Go.RowKit
variable {P : Program} {ops : Array Oper} {md : Region.Mode} {C : World → Prop}
theorem wpF_specG {sp : Nat → Spec} {Q : Act → Facts → Prop} {o : Oper} {rest : List Oper} {k : Nat} {a : Act} {F : Facts} (hg : Region.wanted o (yielded ops a.tmps) = true) {V : Value → Prop} {Ψ : Value → World → Prop} (hs : sp k = some (V, Ψ))
    (hr : ∀ w, Has md ops C k F w → givesUpon P w (fun v w' => V v ∧ Ψ v w') ((execOp a.eval o).run P w)) (hK : ∀ v, V v → wpF P md ops C sp Q rest (k + 1) (a.put o.dst v) (F.set k (Ψ v))) : wpF P md ops C sp Q (o :: rest) k a F :=
  ⟨V, Ψ, .inl ⟨hg, .inr ⟨hs, hr⟩⟩, hK⟩
end Go.Fresh
namespace Go.Proofs.YtefjjhfahebmeaaGreatDoor.Limb
open Go.RowKit Go.Sort Go.Fresh
structure Num1 where
  b : Nat
  s : Bool
  a : Option Addr
  n : Nat
  c : Nat
  o : Nat → Int
def Good (lo : Nat) (w : World) (x : Num1) : Prop := Bx w x.b 24 (.bool x.s) (.slice x.a x.n x.c) ∧ Own 54 w lo x.a x.n x.c x.o
def Asunder (x y : Num1) : Prop := ∀ p q, x.a = some p → y.a = some q → p.block ≠ q.block
def All (lo : Nat) (w : World) (L : List Num1) : Prop := (∀ x ∈ L, Good lo w x) ∧ L.Pairwise Asunder
theorem All.nil (lo : Nat) (w : World) : All lo w [] := ⟨fun x h => (by cases h), List.Pairwise.nil⟩
theorem All.below {lo : Nat} {w w' : World} {L : List Num1} (h : All lo w L) (hb : Below w.heap.size w w') : All lo w' L :=
  ⟨fun x hx => ⟨(h.1 x hx).1.below hb (h.1 x hx).1.lt, (h.1 x hx).2.below hb⟩, h.2⟩
theorem All.step {lo : Nat} {w w1 : World} {L : List Num1} (h : All lo w L) (hlo : lo ≤ w.heap.size) (hb : Below w.heap.size w w1) {s : Bool} {a : Option Addr} {n c : Nat} {o : Nat → Int} (ho : Own 54 w1 w.heap.size a n c o) :
    All lo (w1.alloc (.cells #[.bool s, .slice a n c] 24)) (L ++ [⟨w1.heap.size, s, a, n, c, o⟩]) := by
  have hb2 : Below w.heap.size w (w1.alloc (.cells #[.bool s, .slice a n c] 24)) := hb.alloc hb.size _
  have h2 := h.below hb2
  refine ⟨fun x hx => ?_, List.pairwise_append.2 ⟨h.2, List.pairwise_singleton _ _, fun x hx y hy => ?_⟩⟩
  · rcases List.mem_append.1 hx with hx | hx
    · exact h2.1 x hx
    · obtain rfl := List.mem_singleton.1 hx
      exact ⟨Bx.new w1 _ _ _, (ho.mono hlo).allocd _⟩
  · obtain rfl := List.mem_singleton.1 hy
    intro p q hp hq e
    have h3 := ((h.1 x hx).2.blk hp).2.2
    have h4 := (ho.blk hq).2.1
    omega
def heldL : List Num1 → Nat → List Value
  | [], _ => []
  | x :: l, k => Book.held x.a x.n x.c k ++ heldL l (k + 1)
end Go.Proofs.YtefjjhfahebmeaaGreatDoor.Limb
