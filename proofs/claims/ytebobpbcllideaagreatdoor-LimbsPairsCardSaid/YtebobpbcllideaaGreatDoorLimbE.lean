/-
  The walks of Clone, carry of package limbs.
-/
import Derived.Test.YtebobpbcllideaaGreatDoorLimbD
import Derived.Lib.SliceRun
namespace Go.Proofs.YtebobpbcllideaaGreatDoor.Limb
open Go.RowKit Go.Sort

abbrev T32 : TypeId := 57
theorem info32 : (Tryz.prog.info? 57).map (fun i => (i.zero, i.size, i.bytes)) = some (some (.int .u32 0), 1, 4) := by kernel_rfl
/-- The cells of a list. -/
def ucs (o : Nat → Int) (n : Nat) : List Value := (List.range n).map (uc o)
theorem ucs_len (o : Nat → Int) (n : Nat) : (ucs o n).length = n := by simp [ucs]
theorem ucs_get (o : Nat → Int) (n i : Nat) (h : i < n) : (ucs o n)[i]? = some (uc o i) := by simp [ucs, h]
theorem ucs_get' {o : Nat → Int} {n j : Nat} {u : Value} (h : (ucs o n)[j]? = some u) : j < n ∧ u = uc o j := by
  have hj : j < n := by
    rcases Nat.lt_or_ge j n with h1 | h1
    · exact h1
    · rw [List.getElem?_eq_none (by rw [ucs_len]; exact h1)] at h; cases h
  rw [ucs_get o n j hj] at h
  exact ⟨hj, by cases h; rfl⟩
theorem ucs_succ (o : Nat → Int) (n : Nat) : ucs o (n + 1) = ucs o n ++ [uc o n] := by simp [ucs, List.range_succ]
theorem ucs_one {o : Nat → Int} {n : Nat} : ∀ u ∈ ucs o n, u.oneCell' = true := by
  intro u hu
  obtain ⟨i, _, rfl⟩ := List.mem_map.1 hu
  rfl
/-- What the laws of append leave. -/
theorem Own.of_row {w : World} {base : Nat} {v : Value} {n : Nat} {o : Nat → Int} (h : w.ownsRow base 57 1 v n (ucs o n)) (hr : ∀ i, i < n → 0 ≤ o i ∧ o i ≤ 4294967295) :
    ∃ a cap, v = .slice a n cap ∧ Own 57 w base a n cap o ∧ (a = none → cap = 0) := by
  rcases h.2 with ⟨rfl, rfl⟩ | ⟨g, cap, cur, rfl, hb, hg, hnc, _, hsz, hx⟩
  · exact ⟨none, 0, rfl, ⟨Nat.le_refl _, Or.inl ⟨rfl, rfl, rfl⟩, hr⟩, fun _ => rfl⟩
  · refine ⟨_, cap, rfl, ⟨hnc, Or.inr ⟨g, cur, rfl, hb, hg, by omega, fun i hi => ?_⟩, hr⟩, fun h => by cases h⟩
    have h1 := ucs_get o n i hi
    rw [← hx, List.getElem?_take, if_pos (by omega), Array.getElem?_toList] at h1
    exact h1
theorem Own.row_nil (w : World) (base : Nat) (o : Nat → Int) : w.ownsRow base 57 1 (.slice none 0 0) 0 (ucs o 0) := ⟨rfl, Or.inl ⟨rfl, rfl⟩⟩

theorem q22 (w : World) (a : Option Addr) (n c n' c' : Nat) : (binOp .eql 22 (.slice a n c) (.slice none n' c')).run Tryz.prog w = .ok (.bool a.isNone) w := Lib.run_eql_slice_nil w _ _ a n c n' c' Tryz.underlying22
set_option maxRecDepth 100000 in
set_option maxHeartbeats 1000000 in
theorem clone_any (a : Option Addr) (n cap : Nat) (o : Nat → Int) (w : World) (h : Rd w a n o) (hn : n ≤ 1000000000) :
    Calls Tryz.prog 34 #[.slice a n cap] w fun e w' => ∃ a' cap', e = .returned (.slice a' n cap') ∧ Own 57 w' w.heap.size a' n cap' o ∧ (a' = none → cap' = 0) ∧ Below w.heap.size w w' := by
  have q := q22
  cases a with
  | none =>
    obtain rfl : n = 0 := by
      rcases Nat.eq_zero_or_pos n with h0 | h0
      · exact h0
      · obtain ⟨b, off, e, _⟩ := h.cells h0; cases e
    clear h
    go_enter Tryz.func34, Tryz.ntmps34
    go_wp2
    go_ret
    exact ⟨none, 0, rfl, ⟨Nat.le_refl _, Or.inl ⟨rfl, rfl, rfl⟩, fun i hi => by omega⟩, fun _ => rfl, Below.refl _ _⟩
  | some p =>
    obtain ⟨b, off, pt⟩ := p
    obtain ⟨i0, hi, hz0, hz1, hz2⟩ := info_parts info32
    have u22 : ∀ w, Sem.run Tryz.prog (underlying 22) w = .ok (TypeDesc.slice 57) w := run_underlying Tryz.underlying22
    have HC := Lib.hid h; clear h
    go_enter Tryz.func34, Tryz.ntmps34
    go_wp2_with (at_builtin; refine wpList_append_own _ rfl _ _ 22 rfl w.heap.size 57 i0 (.int .u32 0) 1 4 Tryz.underlying22 hi hz0 hz1 hz2 rfl (by decide) _ _ _ rfl (World.ownsRow_made w #[] 0 (Nat.le_refl _) (Nat.zero_le _) rfl) ⟨b, off, pt⟩ n cap (ucs o n) rfl ?qc1 ?qc2 ?qc3 ?qc4 ?qc5 ?qc6 ?_)
    case qc1 => rw [ucs_len]; omega
    case qc2 =>
      intro j u hj
      obtain ⟨hjn, rfl⟩ := ucs_get' hj
      obtain ⟨b', off', e, hc⟩ := HC.out.cells (by omega)
      cases e
      rw [Addr.add_lit]
      exact Lib.cell?_alloc_some _ (hc j hjn)
    case qc3 => exact ucs_one
    case qc4 => unfold maxLen; omega
    case qc5 => omega
    case qc6 => simp
    intro v' w1 hown hgrow hnil
    have hown : w1.ownsRow w.heap.size 57 1 v' n (ucs o n) := by simpa using hown
    obtain ⟨a', cap', rfl, hO, hN⟩ := Own.of_row hown HC.out.rng
    have hg2 := ((Below.refl _ w).alloc (Nat.le_refl _) _).grown hgrow (by simp) (by intro k hk; simp [Value.ownBlock] at hk; omega)
    clear hown hgrow hnil
    go_wp2
    go_ret
    exact ⟨a', cap', rfl, hO, hN, hg2⟩
end Go.Proofs.YtebobpbcllideaaGreatDoor.Limb
