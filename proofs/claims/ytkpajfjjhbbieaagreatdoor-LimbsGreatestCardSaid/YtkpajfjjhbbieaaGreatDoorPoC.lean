/-
  The walks of wide and below of package limbs.
  The walk of the document's answer for limbs: more.
  The walk of the document's answer for limbs: Twin.
  The walks of the document's answer for limbs: Cmp, Sign, Add, Mul.
  A Book's lists of parts: what stays as it was; a store, and one part more behind a list of one's own; marks.
  The walks of the document's answer for limbs: Add, Mul.
  The walk of a Book's fillLimb: marks into all lists.
  The walks of Of, of limbs and of the document's answer: a number of 64 bits, as parts.
  The walks of the document's answer for limbs: Neg, Sub.
  The walk of a Book's growLimb: forty marks more behind each list.
  The walks of the law's helpers: SameLimbs, SameNum, LeftLimbs, LeftNum.
  The walk of a Book's lookLimb: all marks are there.
  The walk of below of package limbs.
  The walk of a Book's Apart: no two lists share memory.
  The walks of a Book's keepLimb, Limbs, Num: one list more.
  The walks of a Book's Limbs and Num.
  The walk of divide's closure of package limbs; parts put into an own list by copy.
-/
import Derived.Test.YtkpajfjjhbbieaaGreatDoorPoB
import Derived.Laws.OwnMore
import Derived.Deep.DeepCutAuto
import Derived.Laws.CopyRow
set_option linter.unusedSimpArgs false
set_option linter.unusedVariables false
namespace Go.Proofs.YtkpajfjjhbbieaaGreatDoor.Limb
open Go.RowKit Go.Sort Go.Fresh

theorem cf_wide (args : Array Value) (w : World) : (callFunc 176 args).run Tryz.prog w = .ok (.enter 176 args) w := by kernel_rfl

set_option maxHeartbeats 1000000 in
theorem wideFn (w : World) (b1 b2 : Nat) (p : Option Addr) (f : Nat → Int) (nx d : Nat) (by' : Int) (k : Nat) (c1 : w.cell? ⟨b1, 0, none⟩ = some (.slice p nx d)) (c2 : w.cell? ⟨b2, 0, none⟩ = some (.int .u32 by')) (hp : Rd w p nx f)
    (hx : nx ≤ 1000000000) (hk : k ≤ 1000000000) (hb : 0 ≤ by' ∧ by' ≤ 999999999) (r1 : 0 ≤ part f nx k ∧ part f nx k ≤ 999999999) :
    Calls Tryz.prog 176 #[.int .i64 k, .pointer (some ⟨b1, 0, none⟩), .pointer (some ⟨b2, 0, none⟩)] w fun e w' => e = .returned (.int .i64 (part f nx k * by')) ∧ Below w.heap.size w w' := by
  have P := Lib.hid (fun (w1 : World) (h : ∃ m, w1 = w.drewN m) => part_any p nx d f k w1 (by obtain ⟨m, rfl⟩ := h; exact hp.drewN m) hx hk)
  have m1 : part f nx k * by' ≤ 999999999 * 999999999 := Int.mul_le_mul r1.2 hb.2 hb.1 (by omega)
  have m2 : 0 ≤ part f nx k * by' := Int.mul_nonneg r1.1 hb.1
  have e1 := IntWalk.i64_in (part f nx k * by') (by omega)
  have e2 := IntWalk.i64_in by' (by omega)
  generalize part f nx k = u at *
  clear hp m1 m2
  go_enter Tryz.func176, Tryz.ntmps176
  go_wp2_with fail
  go_quiet (first | with_reducible exact quietOf (P.out _ ⟨_, rfl⟩))
  go_wp2
  go_ret
  exact ⟨rfl, bdrewN (Below.refl _ _) _⟩

set_option maxHeartbeats 1000000 in
theorem wide_any (a : Option Addr) (n c : Nat) (o : Nat → Int) (by' : Int) (w : World) (hx : Rd w a n o) (dx : Dig o n) (hn : n ≤ 200000000) (hb : 0 ≤ by' ∧ by' ≤ 999999999) :
    Calls Tryz.prog 151 #[.slice a n c, .int .u32 by'] w fun e w' => ∃ g p, e = .returned (.slice (some ⟨g, 0, none⟩) (n + 1) (n + 1)) ∧ Dig p (n + 1) ∧ sumB p (n + 1) = sumB o n * by' ∧ Own 56 w' w.heap.size (some ⟨g, 0, none⟩) (n + 1) (n + 1) p ∧ Below w.heap.size w w' := by
  have hp : ∀ k, 0 ≤ part o n k ∧ part o n k ≤ 999999999 := by
    intro k
    unfold part
    split
    · have := dx k (by omega); omega
    · omega
  obtain ⟨N, hN⟩ : ∃ N, N = n + 1 := ⟨_, rfl⟩
  have hs : sumB (fun k => part o n k * by') N = sumB o n * by' := by rw [sumB_times, sumB_part _ (by omega)]
  have hbd := sumB_bd dx
  have hlt : sumB o n * by' < (pw N : Int) := by
    rw [hN, pw_succ]
    have h1 : sumB o n * by' ≤ sumB o n * 999999999 := Int.mul_le_mul_of_nonneg_left hb.2 hbd.1
    omega
  have hfit := (cS_fits (f := fun k => part o n k * by') (n := N) (by rw [hs]; exact Int.mul_nonneg hbd.1 hb.1) (by rw [hs]; exact hlt)).2
  have HS := Lib.hid (hfit.trans hs)
  have HR := Lib.hid hx
  obtain ⟨W, hW⟩ : ∃ W, W = ((w.alloc (.cells #[.slice a n c] 22)).alloc (.cells #[.int .u32 by'] 56)) := ⟨_, rfl⟩
  have hbW : Below w.heap.size w W := by rw [hW]; exact ((Below.refl _ _).alloc (by go_size) _).alloc (by go_size) _
  have k1 : W.cell? ⟨w.heap.size, 0, none⟩ = some (.slice a n c) := by
    have h : W.heap[w.heap.size]? = some (.cells #[.slice a n c] 22 (0, 0)) := by
      rw [hW, Below.heap_alloc _ _ _ (by simp)]; exact heap_alloc_new w _
    rw [cell_of_row _ _ _ _ _ _ h]; rfl
  have k2 : W.cell? ⟨w.heap.size + 1, 0, none⟩ = some (.int .u32 by') := by
    have h := heap_alloc_new (w.alloc (.cells #[.slice a n c] 22)) (.cells #[.int .u32 by'] 56)
    rw [World.size_alloc, ← hW] at h
    rw [cell_of_row _ _ _ _ _ _ h]; rfl
  have hsz : w.heap.size + 1 < W.heap.size := by rw [hW]; simp
  have CA := Lib.hid (carry_any 176 #[.pointer (some ⟨w.heap.size, 0, none⟩), .pointer (some ⟨w.heap.size + 1, 0, none⟩)] N (fun k => part o n k * by') 0 by' W (by omega) cf_wide
    (fun k hk w1 hb1 => wideFn w1 w.heap.size (w.heap.size + 1) a o n c by' k ((hb1.cell (p := ⟨w.heap.size, 0, none⟩) (by dsimp only; omega)).trans k1) ((hb1.cell (p := ⟨w.heap.size + 1, 0, none⟩) (by dsimp only; omega)).trans k2)
      (HR.out.below (hbW.trans (hb1.mono hbW.size))) (by omega) (by omega) hb (hp k))
    (fun k _ => by
      have h1 := hp k
      have h2 : part o n k * by' ≤ 999999999 * by' := Int.mul_le_mul_of_nonneg_right h1.2 hb.1
      have h3 : 0 ≤ part o n k * by' := Int.mul_nonneg h1.1 hb.1
      omega) (by omega) (by omega) (by omega) (by omega))
  have HW := Lib.hid hW
  have HB := Lib.hid hbW
  have ew : IntKind.i64.wrap ((n : Int) + 1) = (N : Int) := by rw [IntWalk.i64_in _ (by omega)]; omega
  have HN := Lib.hid hN
  clear hx dx hp hs hbd hlt hfit hW hbW k1 k2 hsz hN
  go_enter Tryz.func151, Tryz.ntmps151
  go_wp2_with fail
  rw [show ((w.alloc (.cells #[.slice a n c] 22)).alloc (.cells #[.int .u32 by'] 56)) = W from HW.out.symm]
  refine CA.out.mono ?_
  rintro e w1 ⟨rfl, hO, hb1⟩
  have HO := Lib.hid hO
  have HB1 := Lib.hid (HB.out.trans (hb1.mono HB.out.size))
  clear hO hb1 CA
  go_wp2
  go_ret
  refine ⟨_, cD (fun k => part o n k * by'), by rw [← HN.out]; rfl, cD_Dig _ _, by rw [← HN.out]; exact HS.out, ?_, HB1.out⟩
  rw [← HN.out]
  exact HO.out.mono HB.out.size
end Go.Proofs.YtkpajfjjhbbieaaGreatDoor.Limb
namespace Go.Proofs.YtkpajfjjhbbieaaGreatDoor.Limb
open Go.RowKit Go.Sort Go.Fresh
end Go.Proofs.YtkpajfjjhbbieaaGreatDoor.Limb
namespace Go.Proofs.YtkpajfjjhbbieaaGreatDoor.Limb
open Go.RowKit Go.Sort Go.Fresh

/-- append to nothing, as an equation, in whatever world the source may be read. -/
theorem append_nil_run (a : Option Addr) (n cap : Nat) (o : Nat → Int) (w : World) (base ty : Nat) (h : Rd w a n o) (hn : n ≤ 1000000000) (hb : base ≤ w.heap.size) :
    ∃ a' cap' w', (Builtin.append_ #[22, 22] ty #[.slice none 0 0, .slice a n cap]).run Tryz.prog w = .ok (.slice a' n cap') w' ∧ Own 56 w' base a' n cap' o ∧ (a' = none → cap' = 0) ∧ Below w.heap.size w w' := by
  obtain ⟨i0, hi, hz0, hz1, hz2⟩ := info_parts info32
  cases a with
  | none =>
    obtain rfl : n = 0 := by
      rcases Nat.eq_zero_or_pos n with h0 | h0
      · exact h0
      · obtain ⟨b, off, e, _⟩ := h.cells h0; cases e
    refine ⟨none, 0, w, ?_, ⟨Nat.le_refl _, Or.inl ⟨rfl, rfl, rfl⟩, fun i hi => by omega⟩, fun _ => rfl, Below.refl _ _⟩
    simp [Builtin.append_, run_underlying (P := Tryz.prog) Tryz.underlying22, sizeOf, typeInfo, hi, Builtin.lenOf, Builtin.firstCells]
  | some p =>
    obtain ⟨b, off, pt⟩ := p
    obtain ⟨v', w', hrun, hown, hgrow, _⟩ := run_append_own (P := Tryz.prog) w base 22 ty 56 i0 (.int .u32 0) 1 4 Tryz.underlying22 hi hz0 hz1 hz2 rfl (by decide) (.slice none 0 0) 0 [] (Own.row_nil w base o) ⟨b, off, pt⟩ n cap (ucs o n) (by rw [ucs_len]; omega)
      (by
        intro j u hj
        obtain ⟨hjn, rfl⟩ := ucs_get' hj
        obtain ⟨b', off', e, hc⟩ := h.cells (by omega)
        cases e
        rw [Addr.add_lit]
        exact hc j hjn) ucs_one (by unfold maxLen; omega) (by omega) hb
    have hown : w'.ownsRow base 56 1 v' n (ucs o n) := by simpa using hown
    obtain ⟨a', cap', rfl, hO, hN⟩ := Own.of_row hown h.rng
    exact ⟨a', cap', w', hrun, hO, hN, (Below.refl _ w).grown hgrow (Nat.le_refl _) (by intro k hk; simp [Value.ownBlock] at hk)⟩

/-- What an append makes, as a spec's fact. -/
theorem own_num2 {T L b : Nat} {s : Bool} {x : Option Addr × Nat} {o : Nat → Int} {w : World} (h : ∃ y : Option Addr × Nat, numV s x.1 L x.2 = numV s y.1 L y.2 ∧ Own T w b y.1 L y.2 o ∧ (y.1 = none → y.2 = 0)) : Own T w b x.1 L x.2 o ∧ (x.1 = none → x.2 = 0) := by
  obtain ⟨y, e, h⟩ := h
  simp only [Value.agg.injEq, Array.mk.injEq, List.cons.injEq, Value.slice.injEq, true_and, and_true] at e
  rw [e.1, e.2]
  exact h

theorem gives_append {P : Program} {o : Oper} {a : Act} {w w' : World} {Post : Value → World → Prop} {v u r : Value} (s x : Operand) (t : TypeId)
    (ho : o.op = .call { callee := .builtin .append, args := #[s, x], argTypes := #[t, t] }) (hs : a.eval s = v) (hx : a.eval x = u)
    (hr : (Builtin.append_ #[t, t] o.type #[v, u]).run P w = .ok r w') (hP : Post r w' ∧ Below w.heap.size w w') : givesUpon P w Post ((execOp a.eval o).run P w) := by
  unfold execOp
  simp only [ho, resolve, invoke, builtin, Sem.run_bind, Sem.run_pure, Result.andThen_ok, List.map_toArray, List.map_cons, List.map_nil, hs, hx, hr]
  exact hP

end Go.Proofs.YtkpajfjjhbbieaaGreatDoor.Limb
namespace Go.Proofs.YtkpajfjjhbbieaaGreatDoor.Limb
open Go.RowKit Go.Sort Go.Fresh

/-- A number comes back, in a list of the call's own, with whatever room behind. -/
def ResF (w : World) (z : Int) (e : Ending) (w' : World) : Prop :=
  ∃ a cap, e = .returned (numV (decide (z < 0)) a (lenB z.natAbs) cap) ∧ Own 56 w' w.heap.size a (lenB z.natAbs) cap (dgi z.natAbs) ∧ Below w.heap.size w w'
/-- An amount comes back, in a list of the call's own. -/
def AmtR (w : World) (N : Nat) (e : Ending) (w' : World) : Prop :=
  ∃ a K cap o, e = .returned (.slice a K cap) ∧ Dig o K ∧ sumB o K = (N : Int) ∧ K ≤ 1000000000 ∧ Own 56 w' w.heap.size a K cap o ∧ Below w.heap.size w w'

theorem Own.short {T : Nat} {w : World} {base : Nat} {a : Option Addr} {n cap L : Nat} {o o' : Nat → Int} (h : Own T w base a n cap o) (hL : L ≤ n) (e : ∀ i, i < L → o i = o' i) : Own T w base a L cap o' := by
  refine ⟨Nat.le_trans hL h.le, ?_, fun i hi => by rw [← e i hi]; exact h.rng i (by omega)⟩
  rcases h.place with ⟨e0, h0, h1⟩ | ⟨g, cur, ha, hbg, hg, hcap, hc⟩
  · exact Or.inl ⟨e0, by omega, by omega⟩
  · exact Or.inr ⟨g, cur, ha, hbg, hg, hcap, fun i hi => by rw [hc i (by omega)]; show some (Value.int .u32 (o i)) = _; rw [e i hi]⟩
/-- What num makes of it. -/
theorem own_fit {T : Nat} {w : World} {base : Nat} {a : Option Addr} {n cap N : Nat} {o : Nat → Int} (h : Own T w base a n cap o) (hd : Dig o n) (hs : sumB o n = (N : Int)) : Own T w base a (lenB N) cap (dgi N) := by
  have e : (sumB o n).toNat = N := by omega
  have h1 := lenB_le_of hd
  rw [e] at h1
  refine h.short h1 fun i hi => ?_
  have h2 := dg_sumB hd i (by omega)
  rw [e] at h2
  exact h2.symm
theorem num_own (s sB : Bool) (a : Option Addr) (n cap N b : Nat) (o : Nat → Int) (w : World) (h : Own 56 w b a n cap o) (hd : Dig o n) (hn : n ≤ 1000000000) (hs : sumB o n = (N : Int)) (hB : (s && decide (0 < lenB N)) = sB) :
    Calls Tryz.prog 49 #[.bool s, .slice a n cap] w fun e w' => e = .returned (numV sB a (lenB N) cap) ∧ Below w.heap.size w w' := by
  have h1 := num_any s a n cap o w h.rd hd hn h.le
  rw [show (sumB o n).toNat = N by omega, hB] at h1
  exact h1
/-- An amount, as a spec's fact. -/
def AmtF (b N : Nat) (x : Option Addr × Nat × Nat) (w : World) : Prop := ∃ o, Dig o x.2.1 ∧ sumB o x.2.1 = (N : Int) ∧ x.2.1 ≤ 1000000000 ∧ Own 56 w b x.1 x.2.1 x.2.2 o
theorem AmtF.keeps {b N : Nat} (x : Option Addr × Nat × Nat) (w w' : World) (h : AmtF b N x w) (hb : Below w.heap.size w w') : AmtF b N x w' := by
  obtain ⟨o, h1, h2, h3, h4⟩ := h
  exact ⟨o, h1, h2, h3, h4.below hb⟩
theorem amt_of {b N : Nat} {x : Option Addr × Nat × Nat} {w : World} (h : ∃ y : Option Addr × Nat × Nat, Value.slice x.1 x.2.1 x.2.2 = .slice y.1 y.2.1 y.2.2 ∧ AmtF b N y w) : AmtF b N x w := by
  obtain ⟨⟨y1, y2, y3⟩, e, h⟩ := h
  obtain ⟨x1, x2, x3⟩ := x
  simp only [Value.slice.injEq] at e
  obtain ⟨rfl, rfl, rfl⟩ := e
  exact h
theorem own_numc {T L b : Nat} {s : Bool} {x : Option Addr × Nat} {o : Nat → Int} {w : World} (h : ∃ y : Option Addr × Nat, numV s x.1 L x.2 = numV s y.1 L y.2 ∧ Own T w b y.1 L y.2 o) : Own T w b x.1 L x.2 o := by
  obtain ⟨y, e, h⟩ := h
  simp only [Value.agg.injEq, Array.mk.injEq, List.cons.injEq, Value.slice.injEq, true_and, and_true] at e
  rw [e.1, e.2]
  exact h

theorem plus_plain (z1 z2 : Int) (h : decide (z1 < 0) = decide (z2 < 0)) : z1.natAbs + z2.natAbs = (z1 + z2).natAbs ∧ (decide (z1 < 0) && decide (0 < lenB (z1 + z2).natAbs)) = decide (z1 + z2 < 0) := by
  have e0 := pos_len (z := z1 + z2)
  by_cases h1 : z1 < 0 <;> by_cases h2 : z2 < 0 <;> simp only [h1, h2, decide_true, decide_false, reduceCtorEq] at h <;> refine ⟨by omega, ?_⟩ <;> simp only [h1, decide_true, decide_false, Bool.true_and, Bool.false_and]
  · exact decide_eq_decide.2 (e0.trans (by omega))
  · exact (decide_eq_false (by omega)).symm
theorem minus_plain (zp zq : Int) (h : zq.natAbs ≤ zp.natAbs) (hs : ¬ decide (zp < 0) = decide (zq < 0)) : zp.natAbs - zq.natAbs = (zp + zq).natAbs ∧ (decide (zp < 0) && decide (0 < lenB (zp + zq).natAbs)) = decide (zp + zq < 0) := by
  have h3 := add_plain zp zq (-1) h (by rw [if_neg hs])
  exact ⟨by omega, h3.2.2⟩


set_option maxHeartbeats 1000000 in
theorem rcmp_any (s1 : Bool) (a1 : Option Addr) (n1 c1 : Nat) (o1 : Nat → Int) (s2 : Bool) (a2 : Option Addr) (n2 c2 : Nat) (o2 : Nat → Int) (w : World)
    (h1 : Rd w a1 n1 o1) (hn1 : n1 ≤ 100000000) (hc1 : n1 ≤ c1) (h2 : Rd w a2 n2 o2) (hn2 : n2 ≤ 100000000) (hc2 : n2 ≤ c2) :
    Calls Tryz.prog 43 #[numV s1 a1 n1 c1, numV s2 a2 n2 c2] w fun e w' => e = .returned (.int .i64 (cmpZ (valN s1 n1 o1) (valN s2 n2 o2))) ∧ Below w.heap.size w w' := by
  obtain ⟨x1, d1, r1, l1, m1, O1⟩ := fit_any s1 a1 n1 c1 o1 w h1 (by omega) hc1
  obtain ⟨x2, d2, r2, l2, m2, O2⟩ := fit_any s2 a2 n2 c2 o2 w h2 (by omega) hc2
  generalize valN s1 n1 o1 = z1 at r1 l1 m1 O1 ⊢
  have HO1 := Lib.hid O1; clear O1
  generalize valN s2 n2 o2 = z2 at r2 l2 m2 O2 ⊢
  have HO2 := Lib.hid O2; clear O2
  have HR := Lib.hid (And.intro r1 r2)
  clear h1 h2 r1 r2
  have HB1 := Lib.hid ((Bx.new w 24 (.bool s1) (.slice a1 n1 c1)).alloc (.cells #[.bool s2, .slice a2 n2 c2] 24))
  have HB2 := Lib.hid (Bx.new2 w (.cells #[.bool s1, .slice a1 n1 c1] 24) 24 (.bool s2) (.slice a2 n2 c2))
  go_enter Tryz.func43, Tryz.ntmps43
  go_wp2_with fail
  refine (HO1.out _ ?_).mono ?_
  · (repeat' (first | (with_reducible exact Below.refl _ _) | (with_reducible assumption) | (with_reducible refine Below.alloc ?_ ?_ _) | (with_reducible refine Below.drew ?_) | (with_reducible refine bdrewN ?_ _) | (with_reducible refine Below.setCell ?_ ?_ _) | (with_reducible refine Below.frame ?_ _) | go_size))
  rintro e w1 ⟨rfl, hb1⟩
  have B1 := HB1.out.below hb1 HB1.out.lt
  have B2 := HB2.out.below hb1 HB2.out.lt
  have G1 := Lib.hid (((Below.refl _ _).alloc (by go_size) _ |>.alloc (by go_size) _).trans (hb1.mono (by go_size)) : Below w.heap.size w w1)
  have K1 := Lib.hid B1; have K2 := Lib.hid B2
  obtain ⟨b10, b11, b12, b13⟩ := B1.all
  obtain ⟨b20, b21, b22, b23⟩ := B2.all
  clear HB1 HB2 B1 B2 hb1
  go_wp2_with fail
  refine (HO2.out _ ?_).mono ?_
  · have := G1.out; (repeat' (first | (with_reducible exact Below.refl _ _) | (with_reducible assumption) | (with_reducible refine Below.alloc ?_ ?_ _) | (with_reducible refine Below.drew ?_) | (with_reducible refine bdrewN ?_ _) | (with_reducible refine Below.setCell ?_ ?_ _) | (with_reducible refine Below.frame ?_ _) | go_size))
  rintro e w2 ⟨rfl, hb2⟩
  have B1 := (K1.out.set (.bool (decide (z1 < 0))) (.slice x1 (lenB z1.natAbs) d1)).below hb2 (by simpa using K1.out.lt)
  have B2 := ((K2.out.other (a := ⟨w.heap.size, 0, none⟩) (by dsimp only; omega) (.bool (decide (z1 < 0)))).other (a := ⟨w.heap.size, 1, none⟩) (by dsimp only; omega) (.slice x1 (lenB z1.natAbs) d1)).below hb2 (by simpa using K2.out.lt)
  have G2 := Lib.hid (((G1.out.setCell (by simp) _).setCell (by simp) _).trans (hb2.mono (by simpa using G1.out.size)) : Below w.heap.size w w2)
  have C1 := Lib.hid B1; have C2 := Lib.hid B2
  obtain ⟨b10, b11, b12, b13⟩ := B1.all
  obtain ⟨b20, b21, b22, b23⟩ := B2.all
  clear K1 K2 B1 B2 hb2 G1
  go_upto_region 3 with (fail)
  obtain ⟨W, hW⟩ : ∃ W, W = ((w2.setCell ⟨w.heap.size + 1, 0, none⟩ (.bool (decide (z2 < 0)))).setCell ⟨w.heap.size + 1, 1, none⟩ (.slice x2 (lenB z2.natAbs) d2)) := ⟨_, rfl⟩
  have B1 := (C1.out.other (a := ⟨w.heap.size + 1, 0, none⟩) (by dsimp only; omega) (.bool (decide (z2 < 0)))).other (a := ⟨w.heap.size + 1, 1, none⟩) (by dsimp only; omega) (.slice x2 (lenB z2.natAbs) d2)
  have B2 := C2.out.set (.bool (decide (z2 < 0))) (.slice x2 (lenB z2.natAbs) d2)
  have G3 := (G2.out.setCell (p := ⟨w.heap.size + 1, 0, none⟩) (by simp) (.bool (decide (z2 < 0)))).setCell (p := ⟨w.heap.size + 1, 1, none⟩) (by simp) (.slice x2 (lenB z2.natAbs) d2)
  rw [← hW] at B1 B2 G3
  rw [show ((w2.setCell ⟨w.heap.size + 1, 0, none⟩ (.bool (decide (z2 < 0)))).setCell ⟨w.heap.size + 1, 1, none⟩ (.slice x2 (lenB z2.natAbs) d2)) = W from hW.symm]
  have KG := Lib.hid G3
  have AM := Lib.hid (order_any z1.natAbs z2.natAbs x1 x2 d1 d2 W (HR.out.1.below G3) (HR.out.2.below G3) (by omega) (by omega))
  have AN := Lib.hid (order_any z2.natAbs z1.natAbs x2 x1 d2 d1 W (HR.out.2.below G3) (HR.out.1.below G3) (by omega) (by omega))
  have E := Lib.hid (cmpZ_amounts z1 z2)
  clear b10 b11 b12 b13 b20 b21 b22 b23 C1 C2 hW G2 G3 HO1 HO2
  obtain ⟨b10, b11, b12, b13⟩ := B1.all
  obtain ⟨b20, b21, b22, b23⟩ := B2.all
  clear B1 B2
  by_cases n1 : z1 < 0 <;> by_cases n2 : z2 < 0
  · have E2 := Lib.hid (E.out.trans (by rw [if_pos n1, if_pos n2]))
    rw [decide_eq_true n1] at b10
    rw [decide_eq_true n2] at b20
    clear n1 n2 E
    go_wp2_with fail
    refine AN.out.mono ?_
    rintro e w2 ⟨rfl, m, rfl⟩
    go_wp2
    go_ret
    exact ⟨by rw [E2.out]; rfl, bdrewN KG.out m⟩
  · have E2 := Lib.hid (E.out.trans (by rw [if_pos n1, if_neg n2]))
    rw [decide_eq_true n1] at b10
    rw [decide_eq_false n2] at b20
    clear n1 n2 E
    go_wp2
    go_ret
    exact ⟨by rw [E2.out]; rfl, KG.out⟩
  · have E2 := Lib.hid (E.out.trans (by rw [if_neg n1, if_pos n2]))
    rw [decide_eq_false n1] at b10
    rw [decide_eq_true n2] at b20
    clear n1 n2 E
    go_wp2
    go_ret
    exact ⟨by rw [E2.out]; rfl, KG.out⟩
  · have E2 := Lib.hid (E.out.trans (by rw [if_neg n1, if_neg n2]))
    rw [decide_eq_false n1] at b10
    rw [decide_eq_false n2] at b20
    clear n1 n2 E
    go_wp2_with fail
    refine AM.out.mono ?_
    rintro e w2 ⟨rfl, m, rfl⟩
    go_wp2
    go_ret
    exact ⟨by rw [E2.out]; rfl, bdrewN KG.out m⟩

end Go.Proofs.YtkpajfjjhbbieaaGreatDoor.Limb
namespace Go.Proofs.YtkpajfjjhbbieaaGreatDoor.Book
open Go.RowKit Go.Sort Go.Fresh Go.Proofs.YtkpajfjjhbbieaaGreatDoor.Limb

/-- All is as it was, but for some blocks. -/
structure Touch (U : Nat → Prop) (w w' : World) : Prop where
  os : w'.os = w.os
  tape : w'.tape = w.tape
  output : w'.output = w.output
  size : w.heap.size ≤ w'.heap.size
  block : ∀ k, k < w.heap.size → ¬ U k → w'.heap[k]? = w.heap[k]?
theorem Touch.refl (U : Nat → Prop) (w : World) : Touch U w w := ⟨rfl, rfl, rfl, Nat.le_refl _, fun _ _ _ => rfl⟩
theorem Touch.trans {U : Nat → Prop} {a b c : World} (h : Touch U a b) (k : Touch U b c) : Touch U a c :=
  ⟨k.os.trans h.os, k.tape.trans h.tape, k.output.trans h.output, Nat.le_trans h.size k.size, fun i hi hu => (k.block i (Nat.lt_of_lt_of_le hi h.size) hu).trans (h.block i hi hu)⟩
theorem Touch.mono {U V : Nat → Prop} {a b : World} (h : Touch U a b) (hU : ∀ k, U k → V k) : Touch V a b := ⟨h.os, h.tape, h.output, h.size, fun i hi hu => h.block i hi fun hh => hu (hU i hh)⟩
theorem Touch.weak {U V : Nat → Prop} {a b : World} (h : Touch U a b) (hU : ∀ k, k < a.heap.size → U k → V k) : Touch V a b := ⟨h.os, h.tape, h.output, h.size, fun i hi hu => h.block i hi fun hh => hu (hU i hi hh)⟩
theorem Touch.of_below {U : Nat → Prop} {a b : World} (h : Below a.heap.size a b) : Touch U a b := ⟨h.os, h.tape, h.output, h.size, fun i hi _ => h.block i hi⟩
theorem Touch.of_below' {U : Nat → Prop} {a b : World} {B : Nat} (h : Below B a b) (hU : ∀ k, B ≤ k → U k) : Touch U a b := ⟨h.os, h.tape, h.output, h.size, fun i _ hu => h.block i (by
  rcases Nat.lt_or_ge i B with h1 | h1
  · exact h1
  · exact absurd (hU i h1) hu)⟩
theorem Touch.to_below {U : Nat → Prop} {a b : World} {B : Nat} (h : Touch U a b) (hB : B ≤ a.heap.size) (hU : ∀ k, k < B → ¬ U k) : Below B a b := ⟨h.os, h.tape, h.output, h.size, fun i hi => h.block i (by omega) (hU i hi)⟩
theorem Touch.drewN {U : Nat → Prop} {a b : World} (h : Touch U a b) (m : Nat) : Touch U a (b.drewN m) := ⟨h.os, h.tape, h.output, h.size, h.block⟩
theorem Touch.drew {U : Nat → Prop} {a b : World} (h : Touch U a b) : Touch U a b.drew := ⟨h.os, h.tape, h.output, h.size, h.block⟩
theorem Touch.alloc {U : Nat → Prop} {a b : World} (h : Touch U a b) (o : Obj) : Touch U a (b.alloc o) := h.trans (Touch.of_below ((Below.refl _ _).alloc (Nat.le_refl _) o))
theorem Touch.setCell {U : Nat → Prop} {a b : World} (h : Touch U a b) {p : Addr} (hp : U p.block ∨ a.heap.size ≤ p.block) (v : Value) : Touch U a (b.setCell p v) :=
  ⟨h.os, h.tape, h.output, by simpa using h.size, fun i hi hu => by
    rw [Below.heap_setCell _ _ _ _ (fun e => by subst e; rcases hp with hp | hp; exact hu hp; omega)]
    exact h.block i hi hu⟩
theorem Touch.grown {U : Nat → Prop} {a b c : World} {row : Option Nat} (h : Touch U a b) (hg : b.grownBy c row) (hr : ∀ k, row = some k → U k ∨ a.heap.size ≤ k) : Touch U a c :=
  ⟨hg.os.trans h.os, hg.tape.trans h.tape, hg.output.trans h.output, Nat.le_trans h.size hg.size, fun i hi hu => by
    rw [hg.block i (Nat.lt_of_lt_of_le hi h.size) (fun e => by rcases hr i e.symm with h1 | h1; exact hu h1; omega)]
    exact h.block i hi hu⟩

end Go.Proofs.YtkpajfjjhbbieaaGreatDoor.Book
namespace Go.Proofs.YtkpajfjjhbbieaaGreatDoor.Limb
open Go.RowKit Go.Sort Go.Fresh
/-- A list is as it was, if its block is. -/
theorem Own.keep {T : Nat} {w w' : World} {base : Nat} {a : Option Addr} {n cap : Nat} {o : Nat → Int} (h : Own T w base a n cap o) (hk : ∀ p, a = some p → w'.heap[p.block]? = w.heap[p.block]?) : Own T w' base a n cap o := by
  refine ⟨h.le, ?_, h.rng⟩
  rcases h.place with h0 | ⟨g, cur, ha, hbg, hg, hcap, hc⟩
  · exact Or.inl h0
  · exact Or.inr ⟨g, cur, ha, hbg, (hk _ ha).trans hg, hcap, hc⟩
theorem Own.blk {T : Nat} {w : World} {base : Nat} {a : Option Addr} {n cap : Nat} {o : Nat → Int} (h : Own T w base a n cap o) {p : Addr} (hp : a = some p) : p = ⟨p.block, 0, none⟩ ∧ base ≤ p.block ∧ p.block < w.heap.size := by
  rcases h.place with h0 | ⟨g, cur, ha, hbg, hg, hcap, hc⟩
  · rw [h0.1] at hp; cases hp
  · obtain rfl := Option.some.inj (ha.symm.trans hp)
    exact ⟨rfl, hbg, lt_of_block hg⟩
theorem Own.some_of_pos {T : Nat} {w : World} {base : Nat} {a : Option Addr} {n cap : Nat} {o : Nat → Int} (h : Own T w base a n cap o) (hn : 0 < n) : ∃ g, a = some ⟨g, 0, none⟩ := by
  rcases h.place with h0 | ⟨g, cur, ha, _⟩
  · omega
  · exact ⟨g, ha⟩
theorem Own.fz {T : Nat} {w : World} {base g n cap : Nat} {o : Nat → Int} (h : Own T w base (some ⟨g, 0, none⟩) n cap o) (i : Nat) : w.frozen? ⟨g, i, none⟩ = false := by
  rcases h.place with h0 | ⟨g', cur, ha, hbg, hg, hcap, hc⟩
  · cases h0.1
  · cases ha; exact frozen_of_row w _ i cur T hg
theorem Own.cell {T : Nat} {w : World} {base g n cap : Nat} {o : Nat → Int} (h : Own T w base (some ⟨g, 0, none⟩) n cap o) {i : Nat} (hi : i < n) : w.cell? ⟨g, i, none⟩ = some (.int .u32 (o i)) := by
  rcases h.place with h0 | ⟨g', cur, ha, hbg, hg, hcap, hc⟩
  · cases h0.1
  · cases ha
    rw [cell_of_row _ _ _ _ _ _ hg]
    exact hc i hi
theorem Own.congr {T : Nat} {w : World} {base : Nat} {a : Option Addr} {n cap : Nat} {o o' : Nat → Int} (h : Own T w base a n cap o) (e : ∀ i, i < n → o i = o' i) : Own T w base a n cap o' := by
  refine ⟨h.le, ?_, fun i hi => by rw [← e i hi]; exact h.rng i hi⟩
  rcases h.place with h0 | ⟨g, cur, ha, hbg, hg, hcap, hc⟩
  · exact Or.inl h0
  · exact Or.inr ⟨g, cur, ha, hbg, hg, hcap, fun i hi => by rw [hc i hi]; show some (Value.int .u32 (o i)) = _; rw [e i hi]⟩
theorem Own.less {T : Nat} {w : World} {base : Nat} {a : Option Addr} {n cap L : Nat} {o : Nat → Int} (h : Own T w base a n cap o) (hL : L ≤ n) : Own T w base a L cap o := by
  refine ⟨Nat.le_trans hL h.le, ?_, fun i hi => h.rng i (by omega)⟩
  rcases h.place with ⟨e0, h0, h1⟩ | ⟨g, cur, ha, hbg, hg, hcap, hc⟩
  · exact Or.inl ⟨e0, by omega, by omega⟩
  · exact Or.inr ⟨g, cur, ha, hbg, hg, hcap, fun i hi => hc i (by omega)⟩
/-- A store into it. -/
theorem Own.put {T : Nat} {w : World} {base g n cap : Nat} {o : Nat → Int} (h : Own T w base (some ⟨g, 0, none⟩) n cap o) {t : Nat} (ht : t < n) {v : Int} (hv : 0 ≤ v ∧ v ≤ 4294967295) :
    Own T (w.setCell ⟨g, t, none⟩ (.int .u32 v)) base (some ⟨g, 0, none⟩) n cap (upd o t v) := by
  refine ⟨h.le, ?_, fun i hi => ?_⟩
  · rcases h.place with h0 | ⟨g', cur, ha, hbg, hg, hcap, hc⟩
    · cases h0.1
    · cases ha
      refine Or.inr ⟨g, cur.setIfInBounds t (.int .u32 v), rfl, hbg, heap_setCell_same w g t cur T _ hg, by simpa using hcap, fun i hi => ?_⟩
      rw [Array.getElem?_setIfInBounds]
      by_cases e : t = i
      · subst e
        have := h.le
        rw [if_pos rfl, if_pos (by omega)]
        show _ = some (Value.int .u32 (upd o t v t)); rw [upd_same]
      · rw [if_neg e]
        show _ = some (Value.int .u32 (upd o t v i)); rw [upd_ne _ _ (fun h => e h.symm)]
        exact hc i hi
  · by_cases e : i = t
    · subst e; rw [upd_same]; exact hv
    · rw [upd_ne _ _ e]; exact h.rng i hi

end Go.Proofs.YtkpajfjjhbbieaaGreatDoor.Limb
namespace Go.Proofs.YtkpajfjjhbbieaaGreatDoor.Book
open Go.RowKit Go.Sort Go.Fresh Go.Proofs.YtkpajfjjhbbieaaGreatDoor.Limb

theorem ucs_upd {o : Nat → Int} {n : Nat} {v : Int} : ucs (upd o n v) n = ucs o n := by
  unfold ucs
  refine List.map_congr_left fun i hi => ?_
  rw [List.mem_range] at hi
  show Value.int .u32 (upd o n v i) = .int .u32 (o i)
  rw [upd_ne _ _ (by omega)]
/-- **One part more behind a list of one's own**, in whatever world. -/
theorem push_any {w : World} {base : Nat} {a : Option Addr} {n cap : Nat} {o : Nat → Int} (h : Own 56 w base a n cap o) (hn : n ≤ 1000000000) (hb : base ≤ w.heap.size) {gs : Nat} {v : Int} (hc : w.cell? ⟨gs, 0, none⟩ = some (.int .u32 v)) (hv : 0 ≤ v ∧ v ≤ 4294967295) (ty m c : Nat) (hm : m = 1) :
    ∃ a' cap' w', (Builtin.append_ #[22, 22] ty #[.slice a n cap, .slice (some ⟨gs, 0, none⟩) m c]).run Tryz.prog w = .ok (.slice a' (n + 1) cap') w' ∧ Own 56 w' base a' (n + 1) cap' (upd o n v) ∧
      ((a' = a ∧ cap' = cap ∧ w.grownBy w' (a.map (·.block))) ∨ ((∃ g, a' = some ⟨g, 0, none⟩ ∧ w.heap.size ≤ g) ∧ w.grownBy w' none ∧ cap < n + 1)) := by
  subst hm
  obtain ⟨i0, hi, hz0, hz1, hz2⟩ := info_parts info32
  have hnews : ∀ j u, [Value.int .u32 v][j]? = some u → w.cell? ((⟨gs, 0, none⟩ : Addr).add j) = some u := by
    intro j u hj
    match j, hj with
    | 0, hj =>
      simp at hj; subst hj
      rw [Addr.add_lit]; exact hc
  have h1 : ∀ u ∈ [Value.int .u32 v], u.oneCell' = true := by intro u hu; simp at hu; subst hu; rfl
  have hrng : ∀ i, i < n + 1 → 0 ≤ upd o n v i ∧ upd o n v i ≤ 4294967295 := by
    intro i hi
    by_cases e : i = n
    · subst e; rw [upd_same]; exact hv
    · rw [upd_ne _ _ e]; exact h.rng i (by omega)
  have grownOwn : ∀ old, old < n + 1 → (w.drew.alloc (.cells ((ucs o n).toArray ++ [Value.int .u32 v].toArray ++ Builtin.zeroCells (Value.int .u32 0).cells (grownCap w (n + 1) old 56 - (n + 1))) 56)).heap.size = w.heap.size + 1 ∧
      Own 56 (w.drew.alloc (.cells ((ucs o n).toArray ++ [Value.int .u32 v].toArray ++ Builtin.zeroCells (Value.int .u32 0).cells (grownCap w (n + 1) old 56 - (n + 1))) 56)) base (some ⟨w.heap.size, 0, none⟩) (n + 1) (grownCap w (n + 1) old 56) (upd o n v) ∧
      w.grownBy (w.drew.alloc (.cells ((ucs o n).toArray ++ [Value.int .u32 v].toArray ++ Builtin.zeroCells (Value.int .u32 0).cells (grownCap w (n + 1) old 56 - (n + 1))) 56)) none := by
    intro old ho
    have hge := grownCap_ge w (n + 1) old 56
    refine ⟨by simp, ⟨hge, Or.inr ⟨w.heap.size, _, rfl, hb, heap_alloc_new w.drew _, ?_, fun i hi => ?_⟩, hrng⟩, ⟨rfl, rfl, rfl, by simp, fun k hk _ => heap_alloc_old w.drew _ hk⟩⟩
    · simp only [Array.size_append, List.size_toArray, size_zeroCells, ucs_len, List.length_cons, List.length_nil]
      show _ ≤ n + (0 + 1) + _ * 1
      omega
    · rw [Array.getElem?_append_left (by simp only [Array.size_append, List.size_toArray, ucs_len, List.length_cons, List.length_nil]; omega), ← Array.getElem?_toList, Array.toList_append]
      show (ucs o n ++ [Value.int .u32 v])[i]? = some (uc (upd o n v) i)
      rw [← ucs_get (upd o n v) (n + 1) i hi, ucs_succ, ucs_upd]
      show _ = (ucs o n ++ [Value.int .u32 (upd o n v n)])[i]?
      rw [upd_same]
  rcases h.place with ⟨rfl, rfl, rfl⟩ | ⟨g, cur, rfl, hbg, hg, hcap, hcc⟩
  · have hr := run_append_nil (P := Tryz.prog) w 22 ty 56 i0 (.int .u32 0) Tryz.underlying22 hi hz0 ⟨gs, 0, none⟩ 1 c [.int .u32 v] (by rw [hz1]; rfl) hnews (by omega) (by omega) (by rw [hz2]; omega)
    have hgr := grownOwn 0 (by omega)
    simp only [Nat.zero_add, ucs, List.range_zero, List.map_nil, Array.empty_append] at hgr
    refine ⟨_, _, _, hr, hgr.2.1, Or.inr ⟨⟨_, rfl, Nat.le_refl _⟩, hgr.2.2, by omega⟩⟩
  · by_cases hroom : n + 1 ≤ cap
    · have hr := run_append_room (P := Tryz.prog) w 22 ty 56 i0 Tryz.underlying22 hi g n cap cur hg ⟨gs, 0, none⟩ 1 c [.int .u32 v] (by rw [hz1]; rfl) hnews h1 hroom (by rw [hz1]; simp; omega)
      refine ⟨_, _, _, hr, ⟨hroom, Or.inr ⟨g, _, rfl, hbg, setRow_heap w g cur _ _ _ hg, ?_, fun i hi => ?_⟩, hrng⟩, Or.inl ⟨rfl, rfl, ⟨rfl, rfl, rfl, by simp, fun k _ hk => setRow_other w g k _ (fun e => hk (by simp [e]))⟩⟩⟩
      · simp only [List.size_toArray, List.length_append, List.length_take, List.length_drop, Array.length_toList, List.length_cons, List.length_nil]
        omega
      · rw [hz1, Nat.mul_one]
        rw [List.getElem?_toArray, List.append_assoc]
        have hlt : (cur.toList.take n).length = n := by simp; omega
        by_cases e : i < n
        · rw [List.getElem?_append_left (by rw [hlt]; exact e), List.getElem?_take, if_pos e]
          have := hcc i e
          rw [Array.getElem?_toList, this]
          show some (Value.int .u32 (o i)) = some (Value.int .u32 (upd o n v i))
          rw [upd_ne _ _ (by omega)]
        · obtain rfl : i = n := by omega
          rw [List.getElem?_append_right (by rw [hlt]; exact Nat.le_refl _), hlt, Nat.sub_self]
          show some (Value.int .u32 v) = some (Value.int .u32 (upd o i v i))
          rw [upd_same]
    · have holds : ∀ j u, (ucs o n)[j]? = some u → w.cell? ((⟨g, 0, none⟩ : Addr).add j) = some u := by
        intro j u hj
        obtain ⟨hj1, rfl⟩ := ucs_get' hj
        rw [Addr.add_lit, Nat.zero_add, cell_of_row _ _ _ _ _ _ hg]
        exact hcc j hj1
      have hle := h.le
      have hr := run_append_grow (P := Tryz.prog) w 22 ty 56 i0 (.int .u32 0) Tryz.underlying22 hi hz0 ⟨g, 0, none⟩ n cap (ucs o n) (by rw [ucs_len, hz1]; omega) holds ⟨gs, 0, none⟩ 1 c [.int .u32 v] (by rw [hz1]; rfl) hnews (by omega) (by omega) (growslice_fits (by omega) (by rw [hz2]; omega))
      have hgr := grownOwn cap (by omega)
      exact ⟨_, _, _, hr, hgr.2.1, Or.inr ⟨⟨_, rfl, Nat.le_refl _⟩, hgr.2.2, by omega⟩⟩

/-- .. as a law for the walk of a list of operations. -/
theorem wpList_push {ops : Array Oper} {rest : List Oper} {oo : Oper} {ac : Act} {Q : Exit → Act → World → Prop} (hgd : oo.guard = none) (s x : Operand)
    (ho : oo.op = .call { callee := .builtin .append, args := #[s, x], argTypes := #[22, 22] })
    {w : World} {base : Nat} {a : Option Addr} {n cap : Nat} {o : Nat → Int} (hs : ac.eval s = .slice a n cap) (h : Own 56 w base a n cap o) (hn : n ≤ 1000000000) (hb : base ≤ w.heap.size)
    {gs : Nat} {v : Int} {m c : Nat} (hx : ac.eval x = .slice (some ⟨gs, 0, none⟩) m c) (hc : w.cell? ⟨gs, 0, none⟩ = some (.int .u32 v)) (hv : 0 ≤ v ∧ v ≤ 4294967295) (hm : m = 1)
    (hK : ∀ a' cap' w', Own 56 w' base a' (n + 1) cap' (upd o n v) → ((a' = a ∧ cap' = cap ∧ w.grownBy w' (a.map (·.block))) ∨ ((∃ g, a' = some ⟨g, 0, none⟩ ∧ w.heap.size ≤ g) ∧ w.grownBy w' none ∧ cap < n + 1)) →
      wpList Tryz.prog ops Q rest (ac.put oo.dst (.slice a' (n + 1) cap')) w') : wpList Tryz.prog ops Q (oo :: rest) ac w := by
  refine wpList_plain hgd fun K hK' => ?_
  obtain ⟨a', cap', w', hr, h2, h3⟩ := push_any h hn hb hc hv oo.type m c hm
  unfold Oper.wp execOp
  simp only [ho, resolve, invoke, builtin, Sem.run_bind, Sem.run_pure, Result.andThen_ok, List.map_toArray, List.map_cons, List.map_nil, hs, hx, hr]
  exact hK' _ _ (hK _ _ _ h2 h3)

/-! ### Marks -/
def mk (j : Nat) : Int := 1001 + j
theorem mk_rng {j : Nat} (h : j ≤ 1000) : 0 ≤ mk j ∧ mk j ≤ 4294967295 := by unfold mk; omega
theorem mark_any (j : Nat) (w : World) (h : j ≤ 1000) : Calls Tryz.prog 126 #[.int .i64 ((j : Int) + 1)] w fun e w' => e = .returned (.int .u32 (mk j)) ∧ w' = w := by
  have e1 := IntWalk.i64_in (1000 + ((j : Int) + 1)) (by omega)
  have e2 := IntWalk.u32_in (1000 + ((j : Int) + 1)) (by omega)
  have e3 : 1000 + ((j : Int) + 1) = mk j := by unfold mk; omega
  go_enter Tryz.func126, Tryz.ntmps126
  go_wp2
  go_ret
  exact ⟨rfl, rfl⟩
theorem is_any (x : Int) (j : Nat) (w : World) (h : j ≤ 1000) : Calls Tryz.prog 138 #[.int .u32 x, .int .i64 ((j : Int) + 1)] w fun e w' => e = .returned (.bool (x == mk j)) ∧ w' = w := by
  have e1 := IntWalk.i64_in (1000 + ((j : Int) + 1)) (by omega)
  have e2 := IntWalk.u32_in (1000 + ((j : Int) + 1)) (by omega)
  have e3 : 1000 + ((j : Int) + 1) = mk j := by unfold mk; omega
  go_enter Tryz.func138, Tryz.ntmps138
  go_wp2
  go_ret
  exact ⟨rfl, rfl⟩
end Go.Proofs.YtkpajfjjhbbieaaGreatDoor.Book
namespace Go.Proofs.YtkpajfjjhbbieaaGreatDoor.Limb
open Go.RowKit Go.Sort Go.Fresh
end Go.Proofs.YtkpajfjjhbbieaaGreatDoor.Limb
namespace Go.Proofs.YtkpajfjjhbbieaaGreatDoor.Book
open Go.RowKit Go.Sort Go.Fresh Go.Proofs.YtkpajfjjhbbieaaGreatDoor.Limb

/-- A Book's cells. -/
def bkf (k : Nat) (v : Value) (i : Nat) : Value := if i = 0 then .int .i64 k else if i = 2 then v else .slice none 0 0
/-- The row of what it holds: each list, what it became, its number. -/
def Arr (w : World) (vb k : Nat) (A : Nat → Option Addr) (N C : Nat → Nat) (X : Nat → Value) : Prop :=
  ∃ m f, w.rowIs vb 127 m f ∧ ∀ j, j < k → 3 * j + 2 < m ∧ f (3 * j) = .slice (A j) (N j) (C j) ∧ f (3 * j + 1) = X j ∧ f (3 * j + 2) = .int .i64 ((j : Int) + 1)
theorem Arr.cells {w : World} {vb k : Nat} {A : Nat → Option Addr} {N C : Nat → Nat} {X : Nat → Value} (h : Arr w vb k A N C X) {j : Nat} (hj : j < k) :
    w.cell? ⟨vb, j * 3, none⟩ = some (.slice (A j) (N j) (C j)) ∧ w.cell? ⟨vb, j * 3 + 1, none⟩ = some (X j) ∧ w.cell? ⟨vb, j * 3 + 2, none⟩ = some (.int .i64 ((j : Int) + 1)) ∧ (∀ i, w.frozen? ⟨vb, i, none⟩ = false) ∧ vb < w.heap.size := by
  obtain ⟨m, f, hR, hE⟩ := h
  obtain ⟨h1, h2, h3, h4⟩ := hE j hj
  rw [Nat.mul_comm j 3]
  exact ⟨by rw [← h2]; exact hR.cell (by omega), by rw [← h3]; exact hR.cell (by omega), by rw [← h4]; exact hR.cell (by omega), hR.frozen, hR.lt⟩
theorem Arr.keep {w w' : World} {vb k : Nat} {A : Nat → Option Addr} {N C : Nat → Nat} {X : Nat → Value} (h : Arr w vb k A N C X) (e : w'.heap[vb]? = w.heap[vb]?) : Arr w' vb k A N C X := by
  obtain ⟨m, f, hR, hE⟩ := h
  exact ⟨m, f, hR.of_block e, hE⟩
theorem Arr.lt {w : World} {vb k : Nat} {A : Nat → Option Addr} {N C : Nat → Nat} {X : Nat → Value} (h : Arr w vb k A N C X) : vb < w.heap.size := by
  obtain ⟨m, f, hR, hE⟩ := h
  exact hR.lt
theorem Arr.setLong {w : World} {vb k : Nat} {A : Nat → Option Addr} {N C : Nat → Nat} {X : Nat → Value} (h : Arr w vb k A N C X) (i : Nat) (v : Value) : Arr (w.setCell ⟨vb, i * 3 + 1, none⟩ v) vb k A N C (fun j => if j = i then v else X j) := by
  obtain ⟨m, f, hR, hE⟩ := h
  refine ⟨m, _, hR.set (i * 3 + 1) v, fun j hj => ?_⟩
  obtain ⟨h1, h2, h3, h4⟩ := hE j hj
  refine ⟨h1, ?_, ?_, ?_⟩
  · rw [if_neg (by omega)]; exact h2
  · show (if 3 * j + 1 = i * 3 + 1 then v else f (3 * j + 1)) = if j = i then v else X j
    by_cases e : j = i
    · subst e; rw [if_pos (by omega), if_pos rfl]
    · rw [if_neg (by omega), if_neg e]; exact h3
  · rw [if_neg (by omega)]; exact h4
/-- The blocks of the lists. -/
def UA (k : Nat) (A : Nat → Option Addr) (g : Nat) : Prop := ∃ j, j < k ∧ ∃ p, A j = some p ∧ p.block = g
/-- No two lists lie in one block. -/
def Part (k : Nat) (A : Nat → Option Addr) : Prop := ∀ i, i < k → ∀ j, j < k → i ≠ j → ∀ p q, A i = some p → A j = some q → p.block ≠ q.block

/-- One cell of list i is written. -/
theorem own_step {k i t g : Nat} {A : Nat → Option Addr} {N C : Nat → Nat} {O : Nat → Nat → Int} {w : World} {v : Int} (hD : Part k A) (hO : ∀ j, j < k → Own 56 w 0 (A j) (N j) (C j) (O j)) (hi : i < k) (hg : A i = some ⟨g, 0, none⟩) (ht : t < N i) (hv : 0 ≤ v ∧ v ≤ 4294967295) :
    ∀ j, j < k → Own 56 (w.setCell ⟨g, t, none⟩ (.int .u32 v)) 0 (A j) (N j) (C j) (if j = i then upd (O i) t v else O j) := by
  intro j hj
  by_cases e : j = i
  · subst e
    rw [if_pos rfl, hg]
    have h := hO j hj
    rw [hg] at h
    exact h.put ht hv
  · rw [if_neg e]
    exact (hO j hj).keep fun p hp => Below.heap_setCell _ _ _ _ (fun he => hD j hj i hi e p _ hp hg he)

def hcell (a : Option Addr) (n c : Nat) (x : Value) (q : Int) (i : Nat) : Value := if i = 0 then .slice a n c else if i = 1 then x else .int .i64 q

set_option maxHeartbeats 4000000 in
theorem fill_any (b vb k cap : Nat) (A : Nat → Option Addr) (N C : Nat → Nat) (O : Nat → Nat → Int) (w : World) (hk : k ≤ 1000) (hB : w.rowIs b 50 13 (bkf k (.slice (some ⟨vb, 0, none⟩) k cap)))
    (hA : Arr w vb k A N C (fun _ => .slice none 0 0)) (hO : ∀ j, j < k → Own 56 w 0 (A j) (N j) (C j) (O j)) (hN : ∀ j, j < k → N j ≤ 1000000000) (hS : ¬ UA k A b ∧ ¬ UA k A vb) (hD : Part k A) :
    Calls Tryz.prog 63 #[.pointer (some ⟨b, 0, none⟩)] w fun e w' => (∃ v, e = .returned v) ∧ Touch (UA k A) w w' ∧ ∀ j, j < k → Own 56 w' 0 (A j) (N j) (C j) (fun _ => mk j) := by
  have HB := Lib.hid hB; have HA := Lib.hid hA; have HO := Lib.hid hO; have HS := Lib.hid hS; have HD := Lib.hid hD; have HN := Lib.hid hN
  clear hB hA hO hS hD hN
  go_enter Tryz.func63, Tryz.ntmps63
  go_wp2_with fail
  go_loopw [2] (fun v wr => ∃ i : Nat, i ≤ k ∧ v = .int .i64 i ∧ Touch (UA k A) w wr ∧ ∃ OO : Nat → Nat → Int, (∀ j, j < k → Own 56 wr 0 (A j) (N j) (C j) (OO j)) ∧ ∀ j, j < i → ∀ c, c < N j → OO j c = mk j) (fun v _ => k - (intOf v).toNat)
  case atStart => exact ⟨0, by omega, rfl, Touch.refl _ _, O, HO.out, fun j hj => by omega⟩
  case round =>
    obtain ⟨w1, rfl⟩ : ∃ w1, w1 = wr := ⟨_, rfl⟩
    obtain ⟨i, hik, rfl, hT, OO, hOO, hM⟩ := hrel
    have KT := Lib.hid hT; have KO := Lib.hid hOO; have KM := Lib.hid hM
    have KB := Lib.hid (HB.out.of_block (hT.block _ HB.out.lt HS.out.1))
    have KA := Lib.hid (HA.out.keep (hT.block _ HA.out.lt HS.out.2))
    clear hT hOO hM
    have b2 : w1.cell? ⟨b, 2, none⟩ = some (.slice (some ⟨vb, 0, none⟩) k cap) := KB.out.cell (i := 2) (by omega)
    by_cases hi : i < k
    · obtain ⟨a0, a1, a2, -, hvb⟩ := KA.out.cells hi
      obtain ⟨a, ha⟩ : ∃ a, a = A i := ⟨_, rfl⟩
      obtain ⟨n, hn⟩ : ∃ n, n = N i := ⟨_, rfl⟩
      obtain ⟨c, hc⟩ : ∃ c, c = C i := ⟨_, rfl⟩
      rw [← ha, ← hn, ← hc] at a0
      have EA := Lib.hid ha; have EN := Lib.hid hn; have EC := Lib.hid hc
      have hnb : n ≤ 1000000000 := by rw [hn]; exact HN.out i hi
      clear ha hn hc
      go_wp2_with fail
      go_loopw [4] (fun v wr2 => ∃ t : Nat, t ≤ n ∧ v = .int .i64 t ∧ wr2.rowIs w1.heap.size 127 3 (hcell a n c (.slice none 0 0) ((i : Int) + 1)) ∧ Touch (UA k A) w wr2 ∧
        ∃ OO : Nat → Nat → Int, (∀ j, j < k → Own 56 wr2 0 (A j) (N j) (C j) (OO j)) ∧ (∀ j, j < i → ∀ c, c < N j → OO j c = mk j) ∧ ∀ c, c < t → OO i c = mk i) (fun v _ => n - (intOf v).toNat)
      case atStart =>
        refine ⟨0, by omega, rfl, ?_, KT.out.alloc _, OO, fun j hj => (KO.out j hj).below ((Below.refl _ _).alloc (Nat.le_refl _) _), KM.out, fun c hc => by omega⟩
        have h := World.rowIs_alloc w1 #[Value.slice a n c, Value.slice none 0 0, Value.int IntKind.i64 ((i : Int) + 1)] 127 (hcell a n c (.slice none 0 0) ((i : Int) + 1)) (fun q hq => by
          match q, hq with
          | 0, _ => rfl
          | 1, _ => rfl
          | 2, _ => rfl)
        exact h
      case round =>
        obtain ⟨t, htn, rfl, hH, hT2, OO2, hOO2, hM2, hM3⟩ := hrel
        have LT := Lib.hid hT2; have LO := Lib.hid hOO2; have LM := Lib.hid (And.intro hM2 hM3); have LH := Lib.hid hH
        have hwr : w.heap.size ≤ w1.heap.size := KT.out.size
        have hc0 : wr.cell? ⟨w1.heap.size, 0, none⟩ = some (.slice a n c) := hH.cell (i := 0) (by omega)
        have hc2 : wr.cell? ⟨w1.heap.size, 2, none⟩ = some (.int .i64 ((i : Int) + 1)) := hH.cell (i := 2) (by omega)
        clear hH hT2 hOO2 hM2 hM3
        by_cases ht : t < n
        · obtain ⟨g, hg⟩ := (LO.out i hi).some_of_pos (by rw [← EN.out]; omega)
          obtain rfl := EA.out.trans hg
          have hO := LO.out i hi
          rw [← EA.out, ← EN.out] at hO
          obtain ⟨vo, hco⟩ : ∃ vo, wr.cell? ⟨g, t, none⟩ = some vo := ⟨_, hO.cell ht⟩
          have hfz := hO.fz
          have hglt := (hO.blk rfl).2.2
          have hgw : g < w.heap.size := ((HO.out i hi).blk hg).2.2
          have HS1 := Lib.hid (fun (w' : World) (hb : Below wr.heap.size wr w') => And.intro ((hb.cell (p := ⟨w1.heap.size, 0, none⟩) LH.out.lt).trans hc0) ((hb.cell (p := ⟨w1.heap.size, 2, none⟩) LH.out.lt).trans hc2))
          have hlt : w1.heap.size < wr.heap.size := LH.out.lt
          clear hO
          go_wp2_with fail
          refine wp_region_fresh 7 (spOf [(5, Sp.know (.int .u32 (mk i)))]) (fun w' => Below wr.heap.size wr w') (by kernel_rfl) (by kernel_rfl)
            (spOf_cons (Sp.know_keeps _) spOf_nil) (fun _ _ h hb => h.trans (hb.mono h.size)) ((Below.refl _ _).drew) ?_
          simp only [List.take_succ_cons, List.take_zero, List.drop_succ_cons, List.drop_zero]
          (refine wpF_reads rfl rfl ?_ (fun w' hw' => ?_) ?_; rotate_left; · (have hb' := Has.world hw'; (skip); clear hw'; go_simp; try rfl))
          (refine wpF_reads rfl rfl ?_ (fun w' hw' => ?_) ?_; rotate_left; · (have hb' := Has.world hw'; (have hs := HS1.out _ hb'); clear hw'; go_simp; try rfl))
          (refine wpF_reads rfl rfl ?_ (fun w' hw' => ?_) ?_; rotate_left; · (have hb' := Has.world hw'; (skip); clear hw'; go_simp; try rfl))
          (refine wpF_reads rfl rfl ?_ (fun w' hw' => ?_) ?_; rotate_left; · (have hb' := Has.world hw'; (skip); clear hw'; go_simp; try rfl))
          (refine wpF_reads rfl rfl ?_ (fun w' hw' => ?_) ?_; rotate_left; · (have hb' := Has.world hw'; (have hs := HS1.out _ hb'); clear hw'; go_simp; try rfl))
          (refine wpF_spec rfl rfl (fun w' hw' => ?_) ?_; · (have hb' := Has.world hw'; go_simp; ((refine (mark_any i w' (by omega)).mono ?_; rintro e w'' ⟨rfl, rfl⟩; exact ⟨_, rfl, rfl, Below.refl _ _⟩))))
          rintro _ rfl
          (refine wpF_reads rfl rfl ?_ (fun w' hw' => ?_) ?_; rotate_left; · (have hb' := Has.world hw'; (skip); clear hw'; go_simp; try rfl))
          refine wpF_nil (fun w5 hb5 hF5 => ?_)
          clear hF5 HS1
          have LH := Lib.hid (LH.out.of_block (hb5.block _ LH.out.lt))
          have LT := Lib.hid (LT.out.trans (Touch.of_below (hb5.mono (Nat.le_refl _))))
          have LO := Lib.hid (fun j hj => (LO.out j hj).below hb5)
          have hco := (hb5.cell (p := ⟨g, t, none⟩) hglt).trans hco
          have hfz := fun q => (hb5.frozen (p := ⟨g, q, none⟩) hglt).trans (hfz q)
          have ST := Lib.hid (own_step HD.out LO.out hi hg (by rw [← EN.out]; exact ht) (mk_rng (j := i) (by omega)))
          clear hb5
          go_wp2_with fail
          go_roundw
          case rel =>
            refine ⟨t + 1, by omega, by go_num, LH.out.setOther (by dsimp only; omega) _, LT.out.setCell (p := ⟨g, t, none⟩) (Or.inl ⟨i, hi, _, hg, rfl⟩) _, _, ST.out, ?_, ?_⟩
            · intro j hj c hc
              rw [if_neg (by omega)]
              exact LM.out.1 j hj c hc
            · intro c hc
              rw [if_pos rfl]
              by_cases e : c = t
              · subst e; exact upd_same _ _ _
              · rw [upd_ne _ _ e]; exact LM.out.2 c (by omega)
          case measure => simp [intOf]; omega
        · obtain rfl : t = n := by omega
          go_wp2_with fail
          go_roundw
          case rel =>
            refine ⟨i + 1, by omega, by go_num, LT.out, OO2, LO.out, fun j hj c hc => ?_⟩
            by_cases e : j = i
            · subst e; exact LM.out.2 c (by rw [EN.out]; exact hc)
            · exact LM.out.1 j (by omega) c hc
          case measure => simp [intOf]; omega
    · obtain rfl : i = k := by omega
      go_wp2_with fail
      (try simp only [Exit.inBlock, Exit.then])
      refine bodyPost_end (results_none rfl _ _ _) rfl ?_
      exact ⟨⟨_, rfl⟩, KT.out, fun j hj => (KO.out j hj).congr fun c hc => KM.out j hj c hc⟩
end Go.Proofs.YtkpajfjjhbbieaaGreatDoor.Book
namespace Go.Proofs.YtkpajfjjhbbieaaGreatDoor.Limb
open Go.RowKit Go.Sort Go.Fresh

theorem pw_div_succ (M k : Nat) : M / pw k / 1000000000 = M / pw (k + 1) := by rw [pw_succ, Nat.div_div_eq_div_mul]
theorem pw_div_pos {M k : Nat} : 0 < M / pw k ↔ k < lenB M := by
  constructor
  · intro h
    refine lenB_ge ?_
    rcases Nat.lt_or_ge M (pw k) with h1 | h1
    · rw [Nat.div_eq_of_lt h1] at h; omega
    · exact h1
  · intro h
    exact Nat.div_pos (pw_le_of_lenB h) (pw_pos k)
theorem u64_of_neg {M : Nat} (h0 : 0 < M) (h1 : M ≤ 9223372036854775808) : ∃ U, IntKind.u64.wrap (-(M : Int)) = U ∧ IntKind.u64.wrap (-U) = (M : Int) := by
  refine ⟨18446744073709551616 - (M : Int), ?_, ?_⟩
  · show (-(M : Int)) % 18446744073709551616 = _
    omega
  · show (-(18446744073709551616 - (M : Int))) % 18446744073709551616 = _
    omega
theorem len3 {M : Nat} (h : M ≤ 9223372036854775808) : lenB M ≤ 3 := lenB_le (Nat.lt_of_le_of_lt h (by decide))
theorem neg_canon (M : Nat) (h0 : 0 < M) : (true && decide (0 < lenB M)) = decide (-(M : Int) < 0) := by
  have h1 : 0 < lenB M := by
    have := lenB_pos (m := M) (by omega); omega
  rw [decide_eq_true h1, decide_eq_true (show -(M : Int) < 0 by omega)]; rfl
theorem pos_canon (M : Nat) : (false && decide (0 < lenB M)) = decide ((M : Int) < 0) := by
  rw [decide_eq_false (show ¬ (M : Int) < 0 by omega)]; rfl

set_option maxRecDepth 100000 in
set_option maxHeartbeats 2000000 in
theorem of64_pos (M : Nat) (w : World) (h : M ≤ 9223372036854775807) : Calls Tryz.prog 19 #[.int .i64 (M : Int)] w (ResN w (M : Int)) := by
  obtain ⟨i0, hi, hz0, hz1, hz2⟩ := info_parts info32
  have e1 := IntWalk.u64_in (M : Int) (by omega)
  have hlt : ¬ (M : Int) < 0 := by omega
  have hge : (0 : Int) ≤ (M : Int) := by omega
  have HM := Lib.hid (show M ≤ 9223372036854775808 by omega)
  clear h
  go_enter Tryz.func19, Tryz.ntmps19
  have HLN := Lib.hid (len3 HM.out)
  go_wp2_with fail
  go_loopw [3, 4] (fun x v wr => ∃ k : Nat, k ≤ lenB M ∧ x = .int .u64 ((M / pw k : Nat) : Int) ∧ wr.ownsRow (w.heap.size + 1) 56 1 v k (ucs (dgi M) k) ∧ Below w.heap.size w wr ∧ Bx wr w.heap.size 24 (.bool false) (.slice none 0 0)) (fun x _ _ => (intOf x).toNat)
  case atStart => exact ⟨0, Nat.zero_le _, by rw [pw_zero, Nat.div_one], Own.row_nil _ _ _, by (repeat' (first | (with_reducible exact Below.refl _ _) | (with_reducible assumption) | (with_reducible refine Below.alloc ?_ ?_ _) | (with_reducible refine Below.drew ?_) | (with_reducible refine bdrewN ?_ _) | (with_reducible refine Below.setCell ?_ ?_ _) | (with_reducible refine Below.frame ?_ _) | go_size)), Bx.new _ _ _ _⟩
  case round =>
    obtain ⟨k, hk, rfl, hO, hG, hB⟩ := hrel
    obtain ⟨X, hX⟩ : ∃ X, X = M / pw k := ⟨_, rfl⟩
    have HXM := Lib.hid hX
    have HXle := Lib.hid (show X ≤ 9223372036854775808 by rw [hX]; exact Nat.le_trans (Nat.div_le_self _ _) HM.out)
    have HP := Lib.hid (pw_div_pos (M := M) (k := k))
    have HD := Lib.hid (pw_div_succ M k)
    rw [← hX] at HP HD ⊢
    have HO := Lib.hid hO; have HG := Lib.hid hG; have HB := Lib.hid hB; have HK := Lib.hid hk
    clear hO hG hB hX hk
    by_cases h0 : 0 < X
    · have hk2 : k < lenB M := HP.out.1 h0
      have t1 : (X : Int).tmod 1000000000 = dgi M k := by
        rw [Int.tmod_eq_emod_of_nonneg (by omega)]
        have hdg : X % 1000000000 = dg M k := by rw [HXM.out]; rfl
        show _ = ((dg M k : Nat) : Int); omega
      obtain ⟨Y, hY⟩ : ∃ Y, Y = M / pw (k + 1) := ⟨_, rfl⟩
      rw [← hY] at HD
      have HY := Lib.hid hY
      clear hY
      have t2 : (X : Int).tdiv 1000000000 = (Y : Int) := by rw [Int.tdiv_eq_ediv_of_nonneg (by omega), ← HD.out]; omega
      have hdb : 0 ≤ dgi M k ∧ dgi M k ≤ 999999999 := by have := dgi_Dig M (k + 1) k (by omega); omega
      have u1 := IntWalk.u32_in (dgi M k) (by omega)
      have u2 := IntWalk.u64_in (dgi M k) (by omega)
      have u3 := IntWalk.u64_in (Y : Int) (by have h9 := HD.out; have := HXle.out; omega)
      have hx0 : 0 < (X : Int) := by omega
      have hL3 := HLN.out
      have HLE := Lib.hid (show Y < X by have h9 := HD.out; omega)
      go_wp2_with (first | (at_builtin; refine wpList_append_own _ rfl _ _ 22 rfl (w.heap.size + 1) 56 i0 (.int .u32 0) 1 4 Tryz.underlying22 hi hz0 hz1 hz2 rfl (by decide) _ _ _ rfl (HO.out.alloc _) ⟨wr.heap.size, 0, none⟩ 1 1 [.int .u32 (dgi M k)] rfl rfl ?c1 ?c2 ?c3 ?c4 ?c5 ?_))
      case c1 =>
        intro t u ht
        match t, ht with
        | 0, ht => simp at ht; subst ht; simp [Addr.add]
      case c2 => intro u hu; simp at hu; subst hu; rfl
      case c3 => unfold maxLen; omega
      case c4 => omega
      case c5 => have := HB.out.lt; simp; omega
      intro v' w1 hown' hgrow _
      have O2 := Lib.hid (show w1.ownsRow (w.heap.size + 1) 56 1 v' (k + 1) (ucs (dgi M) (k + 1)) by rw [ucs_succ]; exact hown')
      have G2 := Lib.hid ((HG.out.alloc HG.out.size _).grown hgrow (by have := HG.out.size; simp; omega) (fun g hg => Nat.le_of_succ_le (ownBlock_ge HO.out hg)))
      have B2 := Lib.hid ((HB.out.alloc (.cells #[.int .u32 (dgi M k)] 56)).of (hgrow.block w.heap.size (HB.out.alloc _).lt (fun e => by have := ownBlock_ge HO.out e.symm; omega)))
      clear hown' hgrow
      go_wp2_with fail
      go_roundw
      case rel => exact ⟨k + 1, by omega, by rw [HY.out], O2.out, G2.out, B2.out⟩
      case measure => simp [intOf]; have h9 := HLE.out; omega
    · obtain rfl : X = 0 := by omega
      obtain rfl : k = lenB M := by have := HK.out; have := mt HP.out.2 (by omega); omega
      obtain ⟨a, cap, rfl, hOw, hcap⟩ := Own.of_row HO.out (fun i hi => by have := dgi_Dig M (lenB M) i hi; omega)
      have HOW := Lib.hid hOw
      have HCP := Lib.hid hcap
      clear h0 hOw hcap
      have hL3 := HLN.out
      have CUT := Lib.hid (cut_any false a (lenB M) cap (dgi M) wr HOW.out.rd (dgi_Dig _ _) (by omega) HOW.out.le HCP.out)
      rw [sumB_dgi, Int.toNat_natCast, pos_canon M] at CUT
      go_wp2_with fail
      refine CUT.out.mono ?_
      rintro e w2 ⟨rfl, hb2⟩
      have B3 := HB.out.below hb2 HB.out.lt
      have HB3 := Lib.hid B3
      have HO3 := Lib.hid (HOW.out.below hb2)
      have HG3 := Lib.hid (HG.out.trans (hb2.mono HG.out.size))
      obtain ⟨b30, b31, b32, b33⟩ := B3.all
      clear B3 hb2 CUT
      go_wp2_with fail
      refine bodyPost_ret (results_cell rfl _ _ _ _ _ _ _ rfl (HB3.out.set _ _) Tryz.underlying24 rfl (by kernel_rfl)) rfl ⟨a, by first | (rw [show ((M : Int)).natAbs = M by omega]; done) | (rw [show ((M : Int)).natAbs = M by omega, decide_eq_true (show -(M : Int) < 0 by omega)]), ?_, ?_, ?_⟩
      · rw [show ((M : Int)).natAbs = M by omega]; exact (((HO3.out.cut (Nat.le_refl _) (fun i _ => rfl)).other (by dsimp only; omega) _).other (by dsimp only; omega) _).mono (by omega)
      · rw [show ((M : Int)).natAbs = M by omega]; intro h; have h1 := HO3.out.le; have h2 := HCP.out h; omega
      · exact (HG3.out.setCell (by dsimp only; omega) _).setCell (by dsimp only; omega) _
set_option maxRecDepth 100000 in
set_option maxHeartbeats 2000000 in
theorem of64_neg (M : Nat) (w : World) (h0 : 0 < M) (h : M ≤ 9223372036854775808) : Calls Tryz.prog 19 #[.int .i64 (-(M : Int))] w (ResN w (-(M : Int))) := by
  obtain ⟨i0, hi, hz0, hz1, hz2⟩ := info_parts info32
  obtain ⟨U, e1, e2⟩ := u64_of_neg h0 h
  have hlt : -(M : Int) < 0 := by omega
  have H0 := Lib.hid h0
  have hp0 : (0 : Int) < (M : Int) := by omega
  have HM := Lib.hid (show M ≤ 9223372036854775808 by omega)
  clear h
  go_enter Tryz.func19, Tryz.ntmps19
  have HLN := Lib.hid (len3 HM.out)
  go_wp2_with fail
  go_loopw [3, 4] (fun x v wr => ∃ k : Nat, k ≤ lenB M ∧ x = .int .u64 ((M / pw k : Nat) : Int) ∧ wr.ownsRow (w.heap.size + 1) 56 1 v k (ucs (dgi M) k) ∧ Below w.heap.size w wr ∧ Bx wr w.heap.size 24 (.bool false) (.slice none 0 0)) (fun x _ _ => (intOf x).toNat)
  case atStart => exact ⟨0, Nat.zero_le _, by rw [pw_zero, Nat.div_one], Own.row_nil _ _ _, by (repeat' (first | (with_reducible exact Below.refl _ _) | (with_reducible assumption) | (with_reducible refine Below.alloc ?_ ?_ _) | (with_reducible refine Below.drew ?_) | (with_reducible refine bdrewN ?_ _) | (with_reducible refine Below.setCell ?_ ?_ _) | (with_reducible refine Below.frame ?_ _) | go_size)), Bx.new _ _ _ _⟩
  case round =>
    obtain ⟨k, hk, rfl, hO, hG, hB⟩ := hrel
    obtain ⟨X, hX⟩ : ∃ X, X = M / pw k := ⟨_, rfl⟩
    have HXM := Lib.hid hX
    have HXle := Lib.hid (show X ≤ 9223372036854775808 by rw [hX]; exact Nat.le_trans (Nat.div_le_self _ _) HM.out)
    have HP := Lib.hid (pw_div_pos (M := M) (k := k))
    have HD := Lib.hid (pw_div_succ M k)
    rw [← hX] at HP HD ⊢
    have HO := Lib.hid hO; have HG := Lib.hid hG; have HB := Lib.hid hB; have HK := Lib.hid hk
    clear hO hG hB hX hk
    by_cases h0 : 0 < X
    · have hk2 : k < lenB M := HP.out.1 h0
      have t1 : (X : Int).tmod 1000000000 = dgi M k := by
        rw [Int.tmod_eq_emod_of_nonneg (by omega)]
        have hdg : X % 1000000000 = dg M k := by rw [HXM.out]; rfl
        show _ = ((dg M k : Nat) : Int); omega
      obtain ⟨Y, hY⟩ : ∃ Y, Y = M / pw (k + 1) := ⟨_, rfl⟩
      rw [← hY] at HD
      have HY := Lib.hid hY
      clear hY
      have t2 : (X : Int).tdiv 1000000000 = (Y : Int) := by rw [Int.tdiv_eq_ediv_of_nonneg (by omega), ← HD.out]; omega
      have hdb : 0 ≤ dgi M k ∧ dgi M k ≤ 999999999 := by have := dgi_Dig M (k + 1) k (by omega); omega
      have u1 := IntWalk.u32_in (dgi M k) (by omega)
      have u2 := IntWalk.u64_in (dgi M k) (by omega)
      have u3 := IntWalk.u64_in (Y : Int) (by have h9 := HD.out; have := HXle.out; omega)
      have hx0 : 0 < (X : Int) := by omega
      have hL3 := HLN.out
      have HLE := Lib.hid (show Y < X by have h9 := HD.out; omega)
      go_wp2_with (first | (at_builtin; refine wpList_append_own _ rfl _ _ 22 rfl (w.heap.size + 1) 56 i0 (.int .u32 0) 1 4 Tryz.underlying22 hi hz0 hz1 hz2 rfl (by decide) _ _ _ rfl (HO.out.alloc _) ⟨wr.heap.size, 0, none⟩ 1 1 [.int .u32 (dgi M k)] rfl rfl ?c1 ?c2 ?c3 ?c4 ?c5 ?_))
      case c1 =>
        intro t u ht
        match t, ht with
        | 0, ht => simp at ht; subst ht; simp [Addr.add]
      case c2 => intro u hu; simp at hu; subst hu; rfl
      case c3 => unfold maxLen; omega
      case c4 => omega
      case c5 => have := HB.out.lt; simp; omega
      intro v' w1 hown' hgrow _
      have O2 := Lib.hid (show w1.ownsRow (w.heap.size + 1) 56 1 v' (k + 1) (ucs (dgi M) (k + 1)) by rw [ucs_succ]; exact hown')
      have G2 := Lib.hid ((HG.out.alloc HG.out.size _).grown hgrow (by have := HG.out.size; simp; omega) (fun g hg => Nat.le_of_succ_le (ownBlock_ge HO.out hg)))
      have B2 := Lib.hid ((HB.out.alloc (.cells #[.int .u32 (dgi M k)] 56)).of (hgrow.block w.heap.size (HB.out.alloc _).lt (fun e => by have := ownBlock_ge HO.out e.symm; omega)))
      clear hown' hgrow
      go_wp2_with fail
      go_roundw
      case rel => exact ⟨k + 1, by omega, by rw [HY.out], O2.out, G2.out, B2.out⟩
      case measure => simp [intOf]; have h9 := HLE.out; omega
    · obtain rfl : X = 0 := by omega
      obtain rfl : k = lenB M := by have := HK.out; have := mt HP.out.2 (by omega); omega
      obtain ⟨a, cap, rfl, hOw, hcap⟩ := Own.of_row HO.out (fun i hi => by have := dgi_Dig M (lenB M) i hi; omega)
      have HOW := Lib.hid hOw
      have HCP := Lib.hid hcap
      clear h0 hOw hcap
      have hL3 := HLN.out
      have CUT := Lib.hid (cut_any true a (lenB M) cap (dgi M) wr HOW.out.rd (dgi_Dig _ _) (by omega) HOW.out.le HCP.out)
      rw [sumB_dgi, Int.toNat_natCast, neg_canon M H0.out] at CUT
      go_wp2_with fail
      refine CUT.out.mono ?_
      rintro e w2 ⟨rfl, hb2⟩
      have B3 := HB.out.below hb2 HB.out.lt
      have HB3 := Lib.hid B3
      have HO3 := Lib.hid (HOW.out.below hb2)
      have HG3 := Lib.hid (HG.out.trans (hb2.mono HG.out.size))
      obtain ⟨b30, b31, b32, b33⟩ := B3.all
      clear B3 hb2 CUT
      go_wp2_with fail
      refine bodyPost_ret (results_cell rfl _ _ _ _ _ _ _ rfl (HB3.out.set _ _) Tryz.underlying24 rfl (by kernel_rfl)) rfl ⟨a, by first | (rw [show (-(M : Int)).natAbs = M by omega]; done) | (rw [show (-(M : Int)).natAbs = M by omega, decide_eq_true (show -(M : Int) < 0 by omega)]), ?_, ?_, ?_⟩
      · rw [show (-(M : Int)).natAbs = M by omega]; exact (((HO3.out.cut (Nat.le_refl _) (fun i _ => rfl)).other (by dsimp only; omega) _).other (by dsimp only; omega) _).mono (by omega)
      · rw [show (-(M : Int)).natAbs = M by omega]; intro h; have h1 := HO3.out.le; have h2 := HCP.out h; omega
      · exact (HG3.out.setCell (by dsimp only; omega) _).setCell (by dsimp only; omega) _
set_option maxRecDepth 100000 in
set_option maxHeartbeats 2000000 in
theorem rof64_pos (M : Nat) (w : World) (h : M ≤ 9223372036854775807) : Calls Tryz.prog 25 #[.int .i64 (M : Int)] w (ResF w (M : Int)) := by
  obtain ⟨i0, hi, hz0, hz1, hz2⟩ := info_parts info32
  have e1 := IntWalk.u64_in (M : Int) (by omega)
  have hlt : ¬ (M : Int) < 0 := by omega
  have hge : (0 : Int) ≤ (M : Int) := by omega
  have HM := Lib.hid (show M ≤ 9223372036854775808 by omega)
  clear h
  go_enter Tryz.func25, Tryz.ntmps25
  have HLN := Lib.hid (len3 HM.out)
  go_wp2_with fail
  go_loopw [4, 5] (fun x v wr => ∃ k : Nat, k ≤ lenB M ∧ x = .int .u64 ((M / pw k : Nat) : Int) ∧ wr.ownsRow (w.heap.size + 1) 56 1 v k (ucs (dgi M) k) ∧ Below w.heap.size w wr ∧ Bx wr w.heap.size 24 (.bool false) (.slice none 0 0)) (fun x _ _ => (intOf x).toNat)
  case atStart => exact ⟨0, Nat.zero_le _, by rw [pw_zero, Nat.div_one], Own.row_nil _ _ _, by (repeat' (first | (with_reducible exact Below.refl _ _) | (with_reducible assumption) | (with_reducible refine Below.alloc ?_ ?_ _) | (with_reducible refine Below.drew ?_) | (with_reducible refine bdrewN ?_ _) | (with_reducible refine Below.setCell ?_ ?_ _) | (with_reducible refine Below.frame ?_ _) | go_size)), Bx.new _ _ _ _⟩
  case round =>
    obtain ⟨k, hk, rfl, hO, hG, hB⟩ := hrel
    obtain ⟨X, hX⟩ : ∃ X, X = M / pw k := ⟨_, rfl⟩
    have HXM := Lib.hid hX
    have HXle := Lib.hid (show X ≤ 9223372036854775808 by rw [hX]; exact Nat.le_trans (Nat.div_le_self _ _) HM.out)
    have HP := Lib.hid (pw_div_pos (M := M) (k := k))
    have HD := Lib.hid (pw_div_succ M k)
    rw [← hX] at HP HD ⊢
    have HO := Lib.hid hO; have HG := Lib.hid hG; have HB := Lib.hid hB; have HK := Lib.hid hk
    clear hO hG hB hX hk
    by_cases h0 : 0 < X
    · have hk2 : k < lenB M := HP.out.1 h0
      have t1 : (X : Int).tmod 1000000000 = dgi M k := by
        rw [Int.tmod_eq_emod_of_nonneg (by omega)]
        have hdg : X % 1000000000 = dg M k := by rw [HXM.out]; rfl
        show _ = ((dg M k : Nat) : Int); omega
      obtain ⟨Y, hY⟩ : ∃ Y, Y = M / pw (k + 1) := ⟨_, rfl⟩
      rw [← hY] at HD
      have HY := Lib.hid hY
      clear hY
      have t2 : (X : Int).tdiv 1000000000 = (Y : Int) := by rw [Int.tdiv_eq_ediv_of_nonneg (by omega), ← HD.out]; omega
      have hdb : 0 ≤ dgi M k ∧ dgi M k ≤ 999999999 := by have := dgi_Dig M (k + 1) k (by omega); omega
      have u1 := IntWalk.u32_in (dgi M k) (by omega)
      have u2 := IntWalk.u64_in (dgi M k) (by omega)
      have u3 := IntWalk.u64_in (Y : Int) (by have h9 := HD.out; have := HXle.out; omega)
      have hx0 : 0 < (X : Int) := by omega
      have hL3 := HLN.out
      have HLE := Lib.hid (show Y < X by have h9 := HD.out; omega)
      go_wp2_with (first | (at_builtin; refine wpList_append_own _ rfl _ _ 22 rfl (w.heap.size + 1) 56 i0 (.int .u32 0) 1 4 Tryz.underlying22 hi hz0 hz1 hz2 rfl (by decide) _ _ _ rfl (HO.out.alloc _) ⟨wr.heap.size, 0, none⟩ 1 1 [.int .u32 (dgi M k)] rfl rfl ?c1 ?c2 ?c3 ?c4 ?c5 ?_))
      case c1 =>
        intro t u ht
        match t, ht with
        | 0, ht => simp at ht; subst ht; simp [Addr.add]
      case c2 => intro u hu; simp at hu; subst hu; rfl
      case c3 => unfold maxLen; omega
      case c4 => omega
      case c5 => have := HB.out.lt; simp; omega
      intro v' w1 hown' hgrow _
      have O2 := Lib.hid (show w1.ownsRow (w.heap.size + 1) 56 1 v' (k + 1) (ucs (dgi M) (k + 1)) by rw [ucs_succ]; exact hown')
      have G2 := Lib.hid ((HG.out.alloc HG.out.size _).grown hgrow (by have := HG.out.size; simp; omega) (fun g hg => Nat.le_of_succ_le (ownBlock_ge HO.out hg)))
      have B2 := Lib.hid ((HB.out.alloc (.cells #[.int .u32 (dgi M k)] 56)).of (hgrow.block w.heap.size (HB.out.alloc _).lt (fun e => by have := ownBlock_ge HO.out e.symm; omega)))
      clear hown' hgrow
      go_wp2_with fail
      go_roundw
      case rel => exact ⟨k + 1, by omega, by rw [HY.out], O2.out, G2.out, B2.out⟩
      case measure => simp [intOf]; have h9 := HLE.out; omega
    · obtain rfl : X = 0 := by omega
      obtain rfl : k = lenB M := by have := HK.out; have := mt HP.out.2 (by omega); omega
      obtain ⟨a, cap, rfl, hOw, hcap⟩ := Own.of_row HO.out (fun i hi => by have := dgi_Dig M (lenB M) i hi; omega)
      have HOW := Lib.hid hOw
      have HCP := Lib.hid hcap
      clear h0 hOw hcap
      have hL3 := HLN.out
      have NUM := Lib.hid (num_own false (decide ((M : Int) < 0)) a (lenB M) cap M _ (dgi M) wr HOW.out (dgi_Dig _ _) (by omega) (sumB_dgi M) (pos_canon M))
      go_wp2_with fail
      refine NUM.out.mono ?_
      rintro e w2 ⟨rfl, hb2⟩
      have B3 := HB.out.below hb2 HB.out.lt
      have HB3 := Lib.hid B3
      have HO3 := Lib.hid (HOW.out.below hb2)
      have HG3 := Lib.hid (HG.out.trans (hb2.mono HG.out.size))
      obtain ⟨b30, b31, b32, b33⟩ := B3.all
      clear B3 hb2 NUM
      go_wp2_with fail
      have hna : (((M : Int) : Int)).natAbs = M := by omega
      rw [← hna] at HO3
      refine bodyPost_ret (results_cell rfl _ _ _ _ _ _ _ rfl (HB3.out.set _ _) Tryz.underlying24 rfl (by kernel_rfl)) rfl ⟨a, cap, by first | (rw [hna]; done) | (rw [hna, decide_eq_true (show -(M : Int) < 0 by omega)]), ?_, ?_⟩
      · exact ((HO3.out.other (by dsimp only; omega) _).other (by dsimp only; omega) _).mono (by omega)
      · exact (HG3.out.setCell (by dsimp only; omega) _).setCell (by dsimp only; omega) _
set_option maxRecDepth 100000 in
set_option maxHeartbeats 2000000 in
theorem rof64_neg (M : Nat) (w : World) (h0 : 0 < M) (h : M ≤ 9223372036854775808) : Calls Tryz.prog 25 #[.int .i64 (-(M : Int))] w (ResF w (-(M : Int))) := by
  obtain ⟨i0, hi, hz0, hz1, hz2⟩ := info_parts info32
  obtain ⟨U, e1, e2⟩ := u64_of_neg h0 h
  have hlt : -(M : Int) < 0 := by omega
  have H0 := Lib.hid h0
  have hp0 : (0 : Int) < (M : Int) := by omega
  have HM := Lib.hid (show M ≤ 9223372036854775808 by omega)
  clear h
  go_enter Tryz.func25, Tryz.ntmps25
  have HLN := Lib.hid (len3 HM.out)
  go_wp2_with fail
  go_loopw [4, 5] (fun x v wr => ∃ k : Nat, k ≤ lenB M ∧ x = .int .u64 ((M / pw k : Nat) : Int) ∧ wr.ownsRow (w.heap.size + 1) 56 1 v k (ucs (dgi M) k) ∧ Below w.heap.size w wr ∧ Bx wr w.heap.size 24 (.bool false) (.slice none 0 0)) (fun x _ _ => (intOf x).toNat)
  case atStart => exact ⟨0, Nat.zero_le _, by rw [pw_zero, Nat.div_one], Own.row_nil _ _ _, by (repeat' (first | (with_reducible exact Below.refl _ _) | (with_reducible assumption) | (with_reducible refine Below.alloc ?_ ?_ _) | (with_reducible refine Below.drew ?_) | (with_reducible refine bdrewN ?_ _) | (with_reducible refine Below.setCell ?_ ?_ _) | (with_reducible refine Below.frame ?_ _) | go_size)), Bx.new _ _ _ _⟩
  case round =>
    obtain ⟨k, hk, rfl, hO, hG, hB⟩ := hrel
    obtain ⟨X, hX⟩ : ∃ X, X = M / pw k := ⟨_, rfl⟩
    have HXM := Lib.hid hX
    have HXle := Lib.hid (show X ≤ 9223372036854775808 by rw [hX]; exact Nat.le_trans (Nat.div_le_self _ _) HM.out)
    have HP := Lib.hid (pw_div_pos (M := M) (k := k))
    have HD := Lib.hid (pw_div_succ M k)
    rw [← hX] at HP HD ⊢
    have HO := Lib.hid hO; have HG := Lib.hid hG; have HB := Lib.hid hB; have HK := Lib.hid hk
    clear hO hG hB hX hk
    by_cases h0 : 0 < X
    · have hk2 : k < lenB M := HP.out.1 h0
      have t1 : (X : Int).tmod 1000000000 = dgi M k := by
        rw [Int.tmod_eq_emod_of_nonneg (by omega)]
        have hdg : X % 1000000000 = dg M k := by rw [HXM.out]; rfl
        show _ = ((dg M k : Nat) : Int); omega
      obtain ⟨Y, hY⟩ : ∃ Y, Y = M / pw (k + 1) := ⟨_, rfl⟩
      rw [← hY] at HD
      have HY := Lib.hid hY
      clear hY
      have t2 : (X : Int).tdiv 1000000000 = (Y : Int) := by rw [Int.tdiv_eq_ediv_of_nonneg (by omega), ← HD.out]; omega
      have hdb : 0 ≤ dgi M k ∧ dgi M k ≤ 999999999 := by have := dgi_Dig M (k + 1) k (by omega); omega
      have u1 := IntWalk.u32_in (dgi M k) (by omega)
      have u2 := IntWalk.u64_in (dgi M k) (by omega)
      have u3 := IntWalk.u64_in (Y : Int) (by have h9 := HD.out; have := HXle.out; omega)
      have hx0 : 0 < (X : Int) := by omega
      have hL3 := HLN.out
      have HLE := Lib.hid (show Y < X by have h9 := HD.out; omega)
      go_wp2_with (first | (at_builtin; refine wpList_append_own _ rfl _ _ 22 rfl (w.heap.size + 1) 56 i0 (.int .u32 0) 1 4 Tryz.underlying22 hi hz0 hz1 hz2 rfl (by decide) _ _ _ rfl (HO.out.alloc _) ⟨wr.heap.size, 0, none⟩ 1 1 [.int .u32 (dgi M k)] rfl rfl ?c1 ?c2 ?c3 ?c4 ?c5 ?_))
      case c1 =>
        intro t u ht
        match t, ht with
        | 0, ht => simp at ht; subst ht; simp [Addr.add]
      case c2 => intro u hu; simp at hu; subst hu; rfl
      case c3 => unfold maxLen; omega
      case c4 => omega
      case c5 => have := HB.out.lt; simp; omega
      intro v' w1 hown' hgrow _
      have O2 := Lib.hid (show w1.ownsRow (w.heap.size + 1) 56 1 v' (k + 1) (ucs (dgi M) (k + 1)) by rw [ucs_succ]; exact hown')
      have G2 := Lib.hid ((HG.out.alloc HG.out.size _).grown hgrow (by have := HG.out.size; simp; omega) (fun g hg => Nat.le_of_succ_le (ownBlock_ge HO.out hg)))
      have B2 := Lib.hid ((HB.out.alloc (.cells #[.int .u32 (dgi M k)] 56)).of (hgrow.block w.heap.size (HB.out.alloc _).lt (fun e => by have := ownBlock_ge HO.out e.symm; omega)))
      clear hown' hgrow
      go_wp2_with fail
      go_roundw
      case rel => exact ⟨k + 1, by omega, by rw [HY.out], O2.out, G2.out, B2.out⟩
      case measure => simp [intOf]; have h9 := HLE.out; omega
    · obtain rfl : X = 0 := by omega
      obtain rfl : k = lenB M := by have := HK.out; have := mt HP.out.2 (by omega); omega
      obtain ⟨a, cap, rfl, hOw, hcap⟩ := Own.of_row HO.out (fun i hi => by have := dgi_Dig M (lenB M) i hi; omega)
      have HOW := Lib.hid hOw
      have HCP := Lib.hid hcap
      clear h0 hOw hcap
      have hL3 := HLN.out
      have NUM := Lib.hid (num_own true (decide ((-(M : Int)) < 0)) a (lenB M) cap M _ (dgi M) wr HOW.out (dgi_Dig _ _) (by omega) (sumB_dgi M) (neg_canon M H0.out))
      go_wp2_with fail
      refine NUM.out.mono ?_
      rintro e w2 ⟨rfl, hb2⟩
      have B3 := HB.out.below hb2 HB.out.lt
      have HB3 := Lib.hid B3
      have HO3 := Lib.hid (HOW.out.below hb2)
      have HG3 := Lib.hid (HG.out.trans (hb2.mono HG.out.size))
      obtain ⟨b30, b31, b32, b33⟩ := B3.all
      clear B3 hb2 NUM
      go_wp2_with fail
      have hna : (((-(M : Int)) : Int)).natAbs = M := by omega
      rw [← hna] at HO3
      refine bodyPost_ret (results_cell rfl _ _ _ _ _ _ _ rfl (HB3.out.set _ _) Tryz.underlying24 rfl (by kernel_rfl)) rfl ⟨a, cap, by first | (rw [hna]; done) | (rw [hna, decide_eq_true (show -(M : Int) < 0 by omega)]), ?_, ?_⟩
      · exact ((HO3.out.other (by dsimp only; omega) _).other (by dsimp only; omega) _).mono (by omega)
      · exact (HG3.out.setCell (by dsimp only; omega) _).setCell (by dsimp only; omega) _
theorem of64_any (n : Int) (w : World) (h1 : -9223372036854775808 ≤ n) (h2 : n ≤ 9223372036854775807) : Calls Tryz.prog 19 #[.int .i64 n] w (ResN w n) := by
  rcases Int.lt_or_le n 0 with h | h
  · obtain ⟨M, rfl⟩ : ∃ M : Nat, n = -(M : Int) := ⟨n.natAbs, by omega⟩
    exact of64_neg M w (by omega) (by omega)
  · obtain ⟨M, rfl⟩ : ∃ M : Nat, n = (M : Int) := ⟨n.natAbs, by omega⟩
    exact of64_pos M w (by omega)
theorem rof64_any (n : Int) (w : World) (h1 : -9223372036854775808 ≤ n) (h2 : n ≤ 9223372036854775807) : Calls Tryz.prog 25 #[.int .i64 n] w (ResF w n) := by
  rcases Int.lt_or_le n 0 with h | h
  · obtain ⟨M, rfl⟩ : ∃ M : Nat, n = -(M : Int) := ⟨n.natAbs, by omega⟩
    exact rof64_neg M w (by omega) (by omega)
  · obtain ⟨M, rfl⟩ : ∃ M : Nat, n = (M : Int) := ⟨n.natAbs, by omega⟩
    exact rof64_pos M w (by omega)
end Go.Proofs.YtkpajfjjhbbieaaGreatDoor.Limb
namespace Go.Proofs.YtkpajfjjhbbieaaGreatDoor.Limb
open Go.RowKit Go.Sort Go.Fresh
end Go.Proofs.YtkpajfjjhbbieaaGreatDoor.Limb
namespace Go.Proofs.YtkpajfjjhbbieaaGreatDoor.Book
open Go.RowKit Go.Sort Go.Fresh Go.Proofs.YtkpajfjjhbbieaaGreatDoor.Limb

theorem Arr.congr {w : World} {vb k : Nat} {A : Nat → Option Addr} {N C : Nat → Nat} {X Y : Nat → Value} (h : Arr w vb k A N C X) (e : ∀ j, j < k → X j = Y j) : Arr w vb k A N C Y := by
  obtain ⟨m, f, hR, hE⟩ := h
  exact ⟨m, f, hR, fun j hj => by rw [← e j hj]; exact hE j hj⟩

end Go.Proofs.YtkpajfjjhbbieaaGreatDoor.Book
namespace Go.Proofs.YtkpajfjjhbbieaaGreatDoor.Limb
open Go.RowKit
theorem Own.allocd {T : Nat} {w : World} {base : Nat} {a : Option Addr} {n cap : Nat} {o : Nat → Int} (h : Own T w base a n cap o) (x : Obj) : Own T (w.alloc x) base a n cap o := h.below ((Below.refl _ _).alloc (Nat.le_refl _) x)
end Go.Proofs.YtkpajfjjhbbieaaGreatDoor.Limb
namespace Go.Proofs.YtkpajfjjhbbieaaGreatDoor.Book
open Go.RowKit Go.Sort Go.Fresh Go.Proofs.YtkpajfjjhbbieaaGreatDoor.Limb

/-- While list i is grown: what has been put behind it so far. -/
structure GrowI (w1 wr : World) (i n : Nat) (ai : Option Addr) (ci t : Nat) (a : Option Addr) (c : Nat) (hv : Nat → Value) : Prop where
  own : Own 56 wr 0 a (n + t) c (fun _ => mk i)
  old : Own 56 wr 0 ai n ci (fun _ => mk i)
  plc : (a = ai ∧ c = ci) ∨ ∃ g, a = some ⟨g, 0, none⟩ ∧ w1.heap.size < g
  box : wr.rowIs w1.heap.size 127 3 hv
  tch : Touch (fun g => ∃ p, ai = some p ∧ p.block = g) w1 wr
  olt : ∀ p, ai = some p → p.block < w1.heap.size

theorem grow_step {w1 wr w2 : World} {i n t c ci c' : Nat} {a ai a' : Option Addr} {hv : Nat → Value} {o : Obj} (G : GrowI w1 wr i n ai ci t a c hv) (hown : Own 56 w2 0 a' (n + t + 1) c' (upd (fun _ => mk i) (n + t) (mk i)))
    (hcase : (a' = a ∧ c' = c ∧ (wr.alloc o).grownBy w2 (a.map (·.block))) ∨ ((∃ g, a' = some ⟨g, 0, none⟩ ∧ wr.heap.size + 1 ≤ g) ∧ (wr.alloc o).grownBy w2 none ∧ c < n + t + 1)) :
    GrowI w1 w2 i n ai ci (t + 1) a' c' hv := by
  have hown' : Own 56 w2 0 a' (n + (t + 1)) c' (fun _ => mk i) := hown.congr fun q _ => by unfold upd; split <;> rfl
  have hsz := G.tch.size
  have hbx := G.box.lt
  have oldw : Own 56 (wr.alloc o) 0 ai n ci (fun _ => mk i) := G.old.keep fun p hp => Below.heap_alloc _ _ _ (by have := G.olt p hp; omega)
  have boxw : (wr.alloc o).rowIs w1.heap.size 127 3 hv := G.box.alloc o
  have tchw := G.tch.alloc o
  rcases hcase with ⟨rfl, rfl, hg⟩ | ⟨⟨g, rfl, hlt⟩, hg, -⟩
  · rcases G.plc with ⟨rfl, rfl⟩ | ⟨g, rfl, hlt⟩
    · refine ⟨hown', hown'.less (by omega), .inl ⟨rfl, rfl⟩, boxw.of_block (hg.block _ (by simp; omega) (fun e => ?_)), tchw.grown hg (fun q hq => ?_), G.olt⟩
      · cases h : a' with
        | none => rw [h] at e; cases e
        | some p => rw [h] at e; simp at e; have := G.olt p h; omega
      · cases h : a' with
        | none => rw [h] at hq; cases hq
        | some p => rw [h] at hq; simp at hq; exact .inl ⟨p, rfl, hq⟩
    · refine ⟨hown', oldw.keep (fun p hp => hg.block _ (by have := G.olt p hp; simp; omega) (fun e => by have := G.olt p hp; simp at e; omega)), .inr ⟨g, rfl, hlt⟩, boxw.of_block (hg.block _ (by simp; omega) (fun e => by simp at e; omega)),
        tchw.grown hg (fun q hq => .inr (by simp at hq; omega)), G.olt⟩
  · refine ⟨hown', oldw.keep (fun p hp => hg.block _ (by have := G.olt p hp; simp; omega) (fun e => by cases e)), .inr ⟨g, rfl, by omega⟩, boxw.of_block (hg.block _ (by simp; omega) (fun e => by cases e)),
      tchw.grown hg (fun q hq => by cases hq), G.olt⟩

/-- Ahead of list i: what has been grown. -/
structure GrowO (w wr : World) (vb k : Nat) (A : Nat → Option Addr) (N C : Nat → Nat) (i : Nat) (LA : Nat → Option Addr) (LC : Nat → Nat) : Prop where
  tch : Touch (fun g => UA k A g ∨ g = vb) w wr
  arr : Arr wr vb k A N C (fun j => if j < i then .slice (LA j) (N j + 40) (LC j) else .slice none 0 0)
  own : ∀ j, j < k → Own 56 wr 0 (A j) (N j) (C j) (fun _ => mk j)
  lng : ∀ j, j < i → Own 56 wr 0 (LA j) (N j + 40) (LC j) (fun _ => mk j) ∧ (LA j = A j ∨ ∃ g, LA j = some ⟨g, 0, none⟩ ∧ w.heap.size ≤ g)

theorem grow_round {w w1 wr : World} {vb k i c : Nat} {A LA : Nat → Option Addr} {N C LC : Nat → Nat} {a : Option Addr} {hv : Nat → Value} (GO : GrowO w w1 vb k A N C i LA LC) (hi : i < k) (G : GrowI w1 wr i (N i) (A i) (C i) 40 a c hv)
    (hS : ¬ UA k A vb) (hD : Part k A) (hvb : vb < w.heap.size) (hA : ∀ j, j < k → ∀ p, A j = some p → p.block < w.heap.size) :
    GrowO w (wr.setCell ⟨vb, i * 3 + 1, none⟩ (.slice a (N i + 40) c)) vb k A N C (i + 1) (fun j => if j = i then a else LA j) (fun j => if j = i then c else LC j) := by
  have hsz := GO.tch.size
  have hnv : ∀ j, j < k → ∀ p, A j = some p → p.block ≠ vb := fun j hj p hp e => hS ⟨j, hj, p, hp, e⟩
  refine ⟨?_, ?_, fun j hj => ?_, fun j hj => ?_⟩
  · exact (GO.tch.trans (G.tch.weak fun q _ ⟨p, hp, e⟩ => Or.inl ⟨i, hi, p, hp, e⟩)).setCell (p := ⟨vb, i * 3 + 1, none⟩) (Or.inl (Or.inr rfl)) _
  · refine ((GO.arr.keep (G.tch.block _ (by omega) (fun ⟨p, hp, e⟩ => hnv i hi p hp e))).setLong i _).congr fun j hj => ?_
    show (if j = i then _ else if j < i then _ else _) = (if j < i + 1 then Value.slice (if j = i then a else LA j) _ (if j = i then c else LC j) else _)
    by_cases e : j = i
    · subst e; rw [if_pos rfl, if_pos (by omega), if_pos rfl, if_pos rfl]
    · rw [if_neg e, if_neg e, if_neg e]
      by_cases h : j < i
      · rw [if_pos h, if_pos (by omega)]
      · rw [if_neg h, if_neg (by omega)]
  · have h1 : Own 56 wr 0 (A j) (N j) (C j) (fun _ => mk j) := by
      by_cases e : j = i
      · subst e; exact G.old
      · exact (GO.own j hj).keep fun p hp => G.tch.block _ (by have := hA j hj p hp; omega) (fun ⟨q, hq, e'⟩ => hD j hj i hi e p q hp hq e'.symm)
    exact h1.keep fun p hp => Below.heap_setCell _ _ _ _ (hnv j hj p hp)
  · by_cases e : j = i
    · subst e
      rw [if_pos rfl, if_pos rfl]
      refine ⟨G.own.keep fun p hp => Below.heap_setCell _ _ _ _ ?_, ?_⟩
      · rcases G.plc with ⟨h, _⟩ | ⟨g, h, hlt⟩
        · exact hnv j hi p (h ▸ hp)
        · rw [h] at hp; cases hp; dsimp only; omega
      · rcases G.plc with ⟨h, _⟩ | ⟨g, h, hlt⟩
        · exact .inl h
        · exact .inr ⟨g, h, by omega⟩
    · rw [if_neg e, if_neg e]
      obtain ⟨h1, h2⟩ := GO.lng j (by omega)
      have hne : ∀ p, LA j = some p → p.block ≠ vb ∧ ∀ q, A i = some q → q.block ≠ p.block := by
        intro p hp
        rcases h2 with h | ⟨g, h, hlt⟩
        · rw [h] at hp
          exact ⟨hnv j (by omega) p hp, fun q hq e' => hD j (by omega) i hi e p q hp hq e'.symm⟩
        · rw [h] at hp; cases hp
          exact ⟨by dsimp only; omega, fun q hq => by have := hA i hi q hq; dsimp only; omega⟩
      refine ⟨(h1.keep fun p hp => G.tch.block _ (h1.blk hp).2.2 (fun ⟨q, hq, e'⟩ => (hne p hp).2 q hq e')).keep fun p hp => Below.heap_setCell _ _ _ _ (hne p hp).1, h2⟩

set_option maxHeartbeats 4000000 in
theorem grow_any (b vb k cap : Nat) (A : Nat → Option Addr) (N C : Nat → Nat) (w : World) (hk : k ≤ 1000) (hB : w.rowIs b 50 13 (bkf k (.slice (some ⟨vb, 0, none⟩) k cap)))
    (hA : Arr w vb k A N C (fun _ => .slice none 0 0)) (hO : ∀ j, j < k → Own 56 w 0 (A j) (N j) (C j) (fun _ => mk j)) (hN : ∀ j, j < k → N j ≤ 900000000) (hS : ¬ UA k A b ∧ ¬ UA k A vb) (hD : Part k A) (hbv : b ≠ vb) :
    Calls Tryz.prog 75 #[.pointer (some ⟨b, 0, none⟩)] w fun e w' => (∃ v, e = .returned v) ∧ ∃ LA LC, GrowO w w' vb k A N C k LA LC := by
  have HB := Lib.hid hB; have HA := Lib.hid hA; have HO := Lib.hid hO; have HS := Lib.hid hS; have HD := Lib.hid hD; have HN := Lib.hid hN
  have HV := Lib.hid (And.intro hA.lt fun j hj p hp => ((hO j hj).blk (p := p) hp).2.2)
  clear hB hA hO hS hD hN
  go_enter Tryz.func75, Tryz.ntmps75
  go_wp2_with fail
  go_loopw [2] (fun v wr => ∃ i : Nat, i ≤ k ∧ v = .int .i64 i ∧ ∃ LA LC, GrowO w wr vb k A N C i LA LC) (fun v _ => k - (intOf v).toNat)
  case atStart => exact ⟨0, by omega, rfl, fun _ => none, fun _ => 0, Touch.refl _ _, HA.out.congr (fun j _ => by rw [if_neg (by omega)]), HO.out, fun j hj => by omega⟩
  case round =>
    obtain ⟨w1, rfl⟩ : ∃ w1, w1 = wr := ⟨_, rfl⟩
    obtain ⟨i, hik, rfl, LA, LC, hG⟩ := hrel
    have KG := Lib.hid hG
    have KB := Lib.hid (HB.out.of_block (hG.tch.block _ HB.out.lt (fun h => h.elim HS.out.1 (fun h => hbv h))))
    clear hG
    have b2 : w1.cell? ⟨b, 2, none⟩ = some (.slice (some ⟨vb, 0, none⟩) k cap) := KB.out.cell (i := 2) (by omega)
    by_cases hi : i < k
    · obtain ⟨a0, a1, a2, -, hvb⟩ := KG.out.arr.cells hi
      rw [if_neg (by omega)] at a1
      obtain ⟨n, hn⟩ : ∃ n, n = N i := ⟨_, rfl⟩
      obtain ⟨ai, ha⟩ : ∃ ai, ai = A i := ⟨_, rfl⟩
      obtain ⟨ci, hc⟩ : ∃ ci, ci = C i := ⟨_, rfl⟩
      rw [← ha, ← hn, ← hc] at a0
      have hnb : n ≤ 900000000 := by rw [hn]; exact HN.out i hi
      have EA := Lib.hid ha; have EN := Lib.hid hn; have EC := Lib.hid hc
      have G0 := Lib.hid (show GrowI w1 (w1.alloc (.cells #[.slice ai n ci, .slice none 0 0, .int .i64 ((i : Int) + 1)] 127)) i n ai ci 0 ai ci (hcell ai n ci (.slice none 0 0) ((i : Int) + 1)) from by
        have h1 := KG.out.own i hi
        rw [← ha, ← hn, ← hc] at h1
        have h2 := h1.below ((Below.refl _ _).alloc (Nat.le_refl _) (.cells #[.slice ai n ci, .slice none 0 0, .int .i64 ((i : Int) + 1)] 127))
        exact ⟨h2, h2, .inl ⟨rfl, rfl⟩, World.rowIs_alloc w1 #[Value.slice ai n ci, Value.slice none 0 0, Value.int IntKind.i64 ((i : Int) + 1)] 127 (hcell ai n ci (.slice none 0 0) ((i : Int) + 1)) (fun q hq => by
          match q, hq with
          | 0, _ => rfl
          | 1, _ => rfl
          | 2, _ => rfl), (Touch.refl _ _).alloc _, fun p hp => (h1.blk hp).2.2⟩)
      clear ha hn hc
      go_wp2_with fail
      go_loopw [4, 5] (fun v u wr => ∃ t : Nat, t ≤ 40 ∧ u = .int .i64 t ∧ ∃ a c, v = .slice a (n + t) c ∧ GrowI w1 wr i n ai ci t a c (hcell ai n ci (.slice none 0 0) ((i : Int) + 1))) (fun _ u _ => 40 - (intOf u).toNat)
      case atStart => exact ⟨0, by omega, rfl, ai, ci, rfl, G0.out⟩
      case round =>
        obtain ⟨t, ht40, rfl, a, c, rfl, hI⟩ := hrel
        have LI := Lib.hid hI
        have hc2 : wr.cell? ⟨w1.heap.size, 2, none⟩ = some (.int .i64 ((i : Int) + 1)) := hI.box.cell (i := 2) (by omega)
        have hlt := hI.box.lt
        clear hI
        by_cases ht : t < 40
        · go_wp2_with (first
            | (go_at_call 126; refine (mark_any i _ (by omega)).mono ?_; rintro e w2 ⟨rfl, hw2⟩; obtain rfl := hw2.symm)
            | (at_builtin; refine wpList_push rfl _ _ rfl (by rfl) (LI.out.own.allocd _) (by omega) (Nat.zero_le _) (v := mk i) (by rfl) ?c1 (mk_rng (by omega)) (by rfl) ?_))
          case c1 => simp
          intro a' c' w2 hown hcase
          have NI := Lib.hid (grow_step LI.out hown hcase)
          clear hown hcase
          go_wp2_with fail
          go_roundw
          case rel => exact ⟨t + 1, by omega, by go_num, a', c', rfl, NI.out⟩
          case measure => simp [intOf]; omega
        · obtain rfl : t = 40 := by omega
          have b3 := (LI.out.tch.block _ (show b < w1.heap.size from KB.out.lt) (fun ⟨p, hp, e⟩ => HS.out.1 ⟨i, hi, p, EA.out ▸ hp, e⟩))
          have b4 : wr.cell? ⟨b, 2, none⟩ = some (.slice (some ⟨vb, 0, none⟩) k cap) := (KB.out.of_block b3).cell (i := 2) (by omega)
          have v3 := (KG.out.arr.keep (LI.out.tch.block _ (show vb < w1.heap.size from hvb) (fun ⟨p, hp, e⟩ => HS.out.2 ⟨i, hi, p, EA.out ▸ hp, e⟩))).cells hi
          obtain ⟨v30, v31, v32, v33, v34⟩ := v3
          rw [if_neg (by omega)] at v31
          have HG := Lib.hid (grow_round KG.out hi (by rw [← EA.out, ← EN.out, ← EC.out]; exact LI.out) HS.out.2 HD.out HV.out.1 HV.out.2)
          rw [← EN.out] at HG
          clear b2 b3 a0 a1 a2 v30 v32
          go_wp2_with fail
          go_roundw
          case rel => exact ⟨i + 1, by omega, by go_num, _, _, HG.out⟩
          case measure => simp [intOf]; omega
    · obtain rfl : i = k := by omega
      go_wp2_with fail
      (try simp only [Exit.inBlock, Exit.then])
      refine bodyPost_end (results_none rfl _ _ _) rfl ?_
      exact ⟨⟨_, rfl⟩, LA, LC, KG.out⟩
end Go.Proofs.YtkpajfjjhbbieaaGreatDoor.Book
namespace Go.Proofs.YtkpajfjjhbbieaaGreatDoor.Limb
open Go.RowKit Go.Sort Go.Fresh

set_option maxHeartbeats 1000000 in
theorem sameLimbs_any (a b : Option Addr) (n ca cb : Nat) (o : Nat → Int) (w : World) (ha : Rd w a n o) (hb : Rd w b n o) (hn : n ≤ 1000000000) :
    Calls Tryz.prog 33 #[.slice a n ca, .slice b n cb] w fun e w' => e = .returned (.bool true) ∧ ∃ m, w' = w.drewN m := by
  have HA := Lib.hid ha; have HB := Lib.hid hb
  clear ha hb
  go_enter Tryz.func33, Tryz.ntmps33
  go_wp2_with fail
  go_loopw [5] (fun i wr => ∃ t : Nat, t ≤ n ∧ i = .int .i64 t ∧ ∃ m, wr = w.drewN m) (fun i _ => n - (intOf i).toNat)
  case atStart => exact ⟨0, by omega, rfl, 0, rfl⟩
  case round =>
    obtain ⟨t, htn, rfl, hm⟩ := hrel
    have HM := Lib.hid hm
    have cw : ∀ p, wr.cell? p = w.cell? p := by obtain ⟨m, rfl⟩ := hm; intro p; rfl
    clear hm
    by_cases ht : t < n
    · obtain ⟨b1, o1, rfl, hc1⟩ := HA.out.cells (by omega)
      obtain ⟨b2, o2, rfl, hc2⟩ := HB.out.cells (by omega)
      have c1 : wr.cell? ⟨b1, o1 + t, none⟩ = some (.int .u32 (o t)) := (cw _).trans (hc1 t ht)
      have c2 : wr.cell? ⟨b2, o2 + t, none⟩ = some (.int .u32 (o t)) := (cw _).trans (hc2 t ht)
      clear hc1 hc2 cw
      go_wp2_with fail
      go_quiet (fail)
      go_wp2_with fail
      go_roundw
      case rel => exact ⟨t + 1, by omega, by go_num, by obtain ⟨m, e⟩ := HM.out; exact ⟨_, by rw [e, World.drewN_drewN]⟩⟩
      case measure => simp [intOf]; omega
    · obtain rfl : t = n := by omega
      go_wp2_with fail
      go_ret
      exact ⟨rfl, HM.out⟩

set_option maxHeartbeats 1000000 in
theorem sameNum_any (s : Bool) (a b : Option Addr) (n ca cb : Nat) (o : Nat → Int) (w : World) (ha : Rd w a n o) (hb : Rd w b n o) (hn : n ≤ 1000000000) :
    Calls Tryz.prog 24 #[numV s a n ca, numV s b n cb] w fun e w' => e = .returned (.bool true) ∧ Below w.heap.size w w' := by
  have HC := Lib.hid (fun (w' : World) (h : Below w.heap.size w w') => sameLimbs_any a b n ca cb o w' (ha.below h) (hb.below h) hn)
  have es : (s == s) = true := by simp
  clear ha hb
  go_enter Tryz.func24, Tryz.ntmps24
  go_wp2_with fail
  refine (HC.out _ ?_).mono ?_
  · (repeat' (first | (with_reducible exact Below.refl _ _) | (with_reducible assumption) | (with_reducible refine Below.alloc ?_ ?_ _) | (with_reducible refine Below.drew ?_) | (with_reducible refine bdrewN ?_ _) | (with_reducible refine Below.setCell ?_ ?_ _) | (with_reducible refine Below.frame ?_ _) | go_size))
  rintro e w1 ⟨rfl, m, rfl⟩
  go_wp2_with fail
  go_ret
  exact ⟨rfl, by (repeat' (first | (with_reducible exact Below.refl _ _) | (with_reducible assumption) | (with_reducible refine Below.alloc ?_ ?_ _) | (with_reducible refine Below.drew ?_) | (with_reducible refine bdrewN ?_ _) | (with_reducible refine Below.setCell ?_ ?_ _) | (with_reducible refine Below.frame ?_ _) | go_size))⟩

/-- A copy with a mark in the room behind. -/
def tw (o : Nat → Int) (n i : Nat) : Int := if i < n then o i else 77

set_option maxHeartbeats 1000000 in
theorem leftLimbs_any (g : Nat) (a : Option Addr) (n ca : Nat) (o : Nat → Int) (w : World) (ht : Rd w (some ⟨g, 0, none⟩) (n + 1) (tw o n)) (ha : Rd w a n o) (hn : n ≤ 1000000000) :
    Calls Tryz.prog 60 #[.slice (some ⟨g, 0, none⟩) n (n + 1), .slice a n ca] w fun e w' => e = .returned (.bool true) ∧ ∃ m, w' = w.drewN m := by
  have HA := Lib.hid ha; have HT := Lib.hid ht
  have e1 := IntWalk.i64_in ((n : Int) + 1) (by omega)
  have ec : ((n + 1 : Nat) : Int) = (n : Int) + 1 := by omega
  have x1 : ¬ ((n : Int) + 1 ≤ (n : Int)) := by omega
  clear ha ht
  go_enter Tryz.func60, Tryz.ntmps60
  go_wp2_with fail
  go_loopw [5] (fun i wr => ∃ t : Nat, t ≤ n ∧ i = .int .i64 t ∧ ∃ m, wr = w.drewN m) (fun i _ => n - (intOf i).toNat)
  case atStart => exact ⟨0, by omega, rfl, 0, rfl⟩
  case round =>
    obtain ⟨t, htn, rfl, hm⟩ := hrel
    have HM := Lib.hid hm
    have cw : ∀ p, wr.cell? p = w.cell? p := by obtain ⟨m, rfl⟩ := hm; intro p; rfl
    clear hm
    obtain ⟨b1, o1, eb, hc1⟩ := HT.out.cells (by omega)
    cases eb
    by_cases ht : t < n
    · obtain ⟨b2, o2, rfl, hc2⟩ := HA.out.cells (by omega)
      have c1 : wr.cell? ⟨g, t, none⟩ = some (.int .u32 (o t)) := by
        have h := (cw _).trans (hc1 t (by omega))
        rw [Nat.zero_add] at h
        rw [h]; show some (Value.int .u32 (if t < n then o t else 77)) = _; rw [if_pos ht]
      have c2 : wr.cell? ⟨b2, o2 + t, none⟩ = some (.int .u32 (o t)) := (cw _).trans (hc2 t ht)
      clear hc1 hc2 cw
      go_wp2_with fail
      go_quiet (fail)
      go_wp2_with fail
      go_roundw
      case rel => exact ⟨t + 1, by omega, by go_num, by obtain ⟨m, e⟩ := HM.out; exact ⟨_, by rw [e, World.drewN_drewN]⟩⟩
      case measure => simp [intOf]; omega
    · obtain rfl : t = n := by omega
      have c1 : wr.cell? ⟨g, t, none⟩ = some (.int .u32 77) := by
        have h := (cw _).trans (hc1 t (by omega))
        rw [Nat.zero_add] at h
        rw [h]; show some (Value.int .u32 (if t < t then o t else 77)) = _; rw [if_neg (by omega)]
      clear hc1 cw
      go_wp2_with fail
      go_ret
      exact ⟨rfl, HM.out⟩

set_option maxHeartbeats 1000000 in
theorem leftNum_any (s : Bool) (g : Nat) (a : Option Addr) (n ca : Nat) (o : Nat → Int) (w : World) (ht : Rd w (some ⟨g, 0, none⟩) (n + 1) (tw o n)) (ha : Rd w a n o) (hn : n ≤ 1000000000) :
    Calls Tryz.prog 26 #[numV s (some ⟨g, 0, none⟩) n (n + 1), numV s a n ca] w fun e w' => e = .returned (.bool true) ∧ Below w.heap.size w w' := by
  have HC := Lib.hid (fun (w' : World) (h : Below w.heap.size w w') => leftLimbs_any g a n ca o w' (ht.below h) (ha.below h) hn)
  have es : (s == s) = true := by simp
  clear ha ht
  go_enter Tryz.func26, Tryz.ntmps26
  go_wp2_with fail
  refine (HC.out _ ?_).mono ?_
  · (repeat' (first | (with_reducible exact Below.refl _ _) | (with_reducible assumption) | (with_reducible refine Below.alloc ?_ ?_ _) | (with_reducible refine Below.drew ?_) | (with_reducible refine bdrewN ?_ _) | (with_reducible refine Below.setCell ?_ ?_ _) | (with_reducible refine Below.frame ?_ _) | go_size))
  rintro e w1 ⟨rfl, m, rfl⟩
  go_wp2_with fail
  go_ret
  exact ⟨rfl, by (repeat' (first | (with_reducible exact Below.refl _ _) | (with_reducible assumption) | (with_reducible refine Below.alloc ?_ ?_ _) | (with_reducible refine Below.drew ?_) | (with_reducible refine bdrewN ?_ _) | (with_reducible refine Below.setCell ?_ ?_ _) | (with_reducible refine Below.frame ?_ _) | go_size))⟩
end Go.Proofs.YtkpajfjjhbbieaaGreatDoor.Limb
namespace Go.Proofs.YtkpajfjjhbbieaaGreatDoor.Book
open Go.RowKit Go.Sort Go.Fresh Go.Proofs.YtkpajfjjhbbieaaGreatDoor.Limb

set_option maxHeartbeats 4000000 in
theorem look_any (b vb k cap : Nat) (A LA : Nat → Option Addr) (N C LC : Nat → Nat) (w : World) (hk : k ≤ 1000) (hB : w.rowIs b 50 13 (bkf k (.slice (some ⟨vb, 0, none⟩) k cap)))
    (hA : Arr w vb k A N C (fun j => .slice (LA j) (N j + 40) (LC j))) (hO : ∀ j, j < k → Own 56 w 0 (A j) (N j) (C j) (fun _ => mk j)) (hL : ∀ j, j < k → Own 56 w 0 (LA j) (N j + 40) (LC j) (fun _ => mk j)) (hN : ∀ j, j < k → N j ≤ 900000000) :
    Calls Tryz.prog 87 #[.pointer (some ⟨b, 0, none⟩)] w fun e w' => e = .returned (.bool true) ∧ Below w.heap.size w w' := by
  have HB := Lib.hid hB; have HA := Lib.hid hA; have HO := Lib.hid hO; have HL := Lib.hid hL; have HN := Lib.hid hN
  clear hB hA hO hL hN
  go_enter Tryz.func87, Tryz.ntmps87
  go_wp2_with fail
  go_loopw [3] (fun v wr => ∃ i : Nat, i ≤ k ∧ v = .int .i64 i ∧ Below w.heap.size w wr) (fun v _ => k - (intOf v).toNat)
  case atStart => exact ⟨0, by omega, rfl, Below.refl _ _⟩
  case round =>
    obtain ⟨w1, rfl⟩ : ∃ w1, w1 = wr := ⟨_, rfl⟩
    obtain ⟨i, hik, rfl, hG⟩ := hrel
    have KG := Lib.hid hG
    have KB := Lib.hid (HB.out.of_block (hG.block _ HB.out.lt))
    have KA := Lib.hid (HA.out.keep (hG.block _ HA.out.lt))
    clear hG
    have b2 : w1.cell? ⟨b, 2, none⟩ = some (.slice (some ⟨vb, 0, none⟩) k cap) := KB.out.cell (i := 2) (by omega)
    by_cases hi : i < k
    · obtain ⟨a0, a1, a2, -, hvb⟩ := KA.out.cells hi
      have O1 := (HO.out i hi).below KG.out
      have L1 := (HL.out i hi).below KG.out
      obtain ⟨n, hn⟩ : ∃ n, n = N i := ⟨_, rfl⟩
      obtain ⟨ai, ha⟩ : ∃ ai, ai = A i := ⟨_, rfl⟩
      obtain ⟨ci, hc⟩ : ∃ ci, ci = C i := ⟨_, rfl⟩
      obtain ⟨lc, hlc⟩ : ∃ lc, lc = LC i := ⟨_, rfl⟩
      obtain ⟨gq, hlg⟩ := L1.some_of_pos (by omega)
      rw [← hlc, hlg, ← hn] at L1 a1
      rw [← ha, ← hn, ← hc] at a0 O1
      have hnb : n ≤ 900000000 := by rw [hn]; exact HN.out i hi
      have LO := Lib.hid O1; have LL := Lib.hid L1
      obtain ⟨W, hW⟩ : ∃ W, W = w1.alloc (.cells #[.slice ai n ci, .slice (some ⟨gq, 0, none⟩) (n + 40) lc, .int .i64 ((i : Int) + 1)] 127) := ⟨_, rfl⟩
      have R := World.rowIs_alloc w1 #[Value.slice ai n ci, Value.slice (some ⟨gq, 0, none⟩) (n + 40) lc, Value.int IntKind.i64 ((i : Int) + 1)] 127 (hcell ai n ci (.slice (some ⟨gq, 0, none⟩) (n + 40) lc) ((i : Int) + 1)) (fun q hq => by
          match q, hq with
          | 0, _ => rfl
          | 1, _ => rfl
          | 2, _ => rfl)
      rw [← hW] at R
      have WB := Lib.hid (show Below w1.heap.size w1 W by rw [hW]; exact (Below.refl _ _).alloc (Nat.le_refl _) _)
      have WR := Lib.hid (show W.rowIs w1.heap.size 127 3 (hcell ai n ci (.slice (some ⟨gq, 0, none⟩) (n + 40) lc) ((i : Int) + 1)) from R)
      have HW := Lib.hid hW
      have e40 := IntWalk.i64_in ((n : Int) + 40) (by omega)
      have ec : ((n + 40 : Nat) : Int) = (n : Int) + 40 := by omega
      clear ha hn hc hlc O1 L1 R hW hlg
      go_upto_region 5 with (fail)
      rw [show (w1.alloc (.cells #[.slice ai n ci, .slice (some ⟨gq, 0, none⟩) (n + 40) lc, .int .i64 ((i : Int) + 1)] 127)) = W from HW.out.symm]
      have h0 : W.cell? ⟨w1.heap.size, 0, none⟩ = some (.slice ai n ci) := WR.out.cell (i := 0) (by omega)
      have h1 : W.cell? ⟨w1.heap.size, 1, none⟩ = some (.slice (some ⟨gq, 0, none⟩) (n + 40) lc) := WR.out.cell (i := 1) (by omega)
      have h2 : W.cell? ⟨w1.heap.size, 2, none⟩ = some (.int .i64 ((i : Int) + 1)) := WR.out.cell (i := 2) (by omega)
      go_wp2_with fail
      go_loopw [5] (fun v wr => ∃ t : Nat, t ≤ n + 40 ∧ v = .int .i64 t ∧ ∃ m, wr = W.drewN m) (fun v _ => n + 40 - (intOf v).toNat)
      case atStart => exact ⟨0, by omega, rfl, 0, rfl⟩
      case round =>
        obtain ⟨t, htn, rfl, hm⟩ := hrel
        have HM := Lib.hid hm
        have cw : ∀ p, wr.cell? p = W.cell? p := by obtain ⟨m, rfl⟩ := hm; intro p; rfl
        clear hm
        have g0 : wr.cell? ⟨w1.heap.size, 0, none⟩ = some (.slice ai n ci) := (cw _).trans h0
        have g1 : wr.cell? ⟨w1.heap.size, 1, none⟩ = some (.slice (some ⟨gq, 0, none⟩) (n + 40) lc) := (cw _).trans h1
        have g2 : wr.cell? ⟨w1.heap.size, 2, none⟩ = some (.int .i64 ((i : Int) + 1)) := (cw _).trans h2
        have IS := Lib.hid (fun (v1 : World) => is_any (mk i) i v1 (by omega))
        rw [show (mk i == mk i) = true by simp] at IS
        by_cases ht : t < n + 40
        · have c1 : wr.cell? ⟨gq, t, none⟩ = some (.int .u32 (mk i)) := (cw _).trans ((LL.out.below WB.out).cell ht)
          have x1 : (t : Int) < (n : Int) + 40 := by omega
          by_cases ht2 : t < n
          · obtain ⟨g, rfl⟩ := LO.out.some_of_pos (by omega)
            have c2 : wr.cell? ⟨g, t, none⟩ = some (.int .u32 (mk i)) := (cw _).trans ((LO.out.below WB.out).cell ht2)
            have x2 : (t : Int) < (n : Int) := by omega
            clear cw h0 h1 h2
            go_wp2_with fail
            go_quiet (first | with_reducible exact quietOf (IS.out _))
            go_wp2_with fail
            go_roundw
            case rel => exact ⟨t + 1, by omega, by go_num, by obtain ⟨m, e⟩ := HM.out; exact ⟨_, by rw [e, World.drewN_drewN]⟩⟩
            case measure => simp [intOf]; omega
          · have x2 : ¬ (t : Int) < (n : Int) := by omega
            clear cw h0 h1 h2
            go_wp2_with fail
            go_quiet (first | with_reducible exact quietOf (IS.out _))
            go_wp2_with fail
            go_roundw
            case rel => exact ⟨t + 1, by omega, by go_num, by obtain ⟨m, e⟩ := HM.out; exact ⟨_, by rw [e, World.drewN_drewN]⟩⟩
            case measure => simp [intOf]; omega
        · have x1 : ¬ (t : Int) < (n : Int) + 40 := by omega
          obtain rfl : t = n + 40 := by omega
          go_wp2_with fail
          go_roundw
          case rel => exact ⟨i + 1, by omega, by go_num, by obtain ⟨m, e⟩ := HM.out; rw [e]; exact bdrewN (KG.out.trans (WB.out.mono KG.out.size)) _⟩
          case measure => simp [intOf]; omega
    · obtain rfl : i = k := by omega
      go_wp2_with fail
      go_ret
      exact ⟨rfl, KG.out⟩
end Go.Proofs.YtkpajfjjhbbieaaGreatDoor.Book
namespace Go.Proofs.YtkpajfjjhbbieaaGreatDoor.Limb
open Go.RowKit Go.Sort Go.Fresh

theorem field_num (s : Bool) (a : Option Addr) (n c : Nat) (w : World) : (Instr.field 24 (numV s a n c) 1).run Tryz.prog w = .ok (.slice a n c) w := by kernel_rfl
theorem nat_sum {o : Nat → Int} {n : Nat} (h : Dig o n) : (((sumB o n).toNat : Nat) : Int) = sumB o n := by have := (sumB_bd h).1; omega

set_option maxRecDepth 100000 in
set_option maxHeartbeats 2000000 in
theorem below_any (a b : Option Addr) (na ca nb cb : Nat) (oa ob : Nat → Int) (often : Int) (w : World) (ha : Rd w a na oa) (hb : Rd w b nb ob) (da : Dig oa na) (db : Dig ob nb) (hna : na ≤ 200000000) (hnb : nb ≤ 200000000) (ho : 0 ≤ often ∧ often ≤ 999999999) :
    Calls Tryz.prog 153 #[.slice a na ca, .slice b nb cb, .int .u64 often] w fun e w' => e = .returned (.bool (decide (sumB oa na < sumB ob nb * often))) ∧ Below w.heap.size w w' := by
  obtain ⟨X, hX⟩ : ∃ X, X = (sumB oa na).toNat := ⟨_, rfl⟩
  obtain ⟨Y, hY⟩ : ∃ Y, Y = (sumB ob nb * often).toNat := ⟨_, rfl⟩
  have eX : (X : Int) = sumB oa na := by rw [hX]; exact nat_sum da
  have eY : (Y : Int) = sumB ob nb * often := by
    have := Int.mul_nonneg (sumB_bd db).1 ho.1
    omega
  rw [← eX, ← eY]
  have u1 := IntWalk.u32_in often (by omega)
  have CL := Lib.hid (clone_any a na ca oa w ha (by omega))
  have WD := Lib.hid (fun (w' : World) (h : Below w.heap.size w w') => wide_any b nb cb ob often w' (hb.below h) db hnb ho)
  rw [← eY] at WD
  have DA := Lib.hid da
  have HE := Lib.hid eX.symm
  have lX := Lib.hid (show lenB X ≤ na by rw [hX]; exact lenB_le_of da)
  obtain ⟨LX, hLX⟩ : ∃ LX, LX = lenB X := ⟨_, rfl⟩
  have HLX := Lib.hid hLX
  clear ha hb da db hX hY eX eY hLX
  have hfld := field_num
  go_enter Tryz.func153, Tryz.ntmps153
  go_wp2_with fail
  refine CL.out.mono ?_
  rintro e w1 ⟨a1, c1, rfl, hO, hn, hb1⟩
  have HO := Lib.hid hO
  have G1 := Lib.hid hb1
  have CU := Lib.hid (cut_any false a1 na c1 oa w1 hO.rd DA.out (by omega) hO.le hn)
  rw [show (sumB oa na).toNat = X by have := HE.out; omega, Bool.false_and, ← HLX.out] at CU
  clear hO hb1 hn CL
  go_wp2_with fail
  refine CU.out.mono ?_
  rintro e w2 ⟨rfl, hb2⟩
  have RX := Lib.hid (own_fit (HO.out.below hb2) DA.out HE.out).rd
  have G2 := Lib.hid (G1.out.trans (hb2.mono G1.out.size))
  clear hb2 CU G1
  go_wp2_with fail
  refine (WD.out _ G2.out).mono ?_
  rintro e w3 ⟨g, p, rfl, hd, hs, hO, hb3⟩
  have HP := Lib.hid hO
  have HD := Lib.hid (And.intro hd hs)
  have G3 := Lib.hid (G2.out.trans (hb3.mono G2.out.size))
  have RX := Lib.hid (RX.out.below hb3)
  have CU := Lib.hid (cut_any false (some ⟨g, 0, none⟩) (nb + 1) (nb + 1) p w3 hO.rd hd (by omega) (Nat.le_refl _) (fun h => by cases h))
  obtain ⟨LY, hLY⟩ : ∃ LY, LY = lenB Y := ⟨_, rfl⟩
  rw [show (sumB p (nb + 1)).toNat = Y by omega, Bool.false_and, ← hLY] at CU
  have lY := Lib.hid (show lenB Y ≤ nb + 1 by
    have := lenB_le_of hd
    rwa [show (sumB p (nb + 1)).toNat = Y by omega] at this)
  have HLY := Lib.hid hLY
  clear hO hb3 WD G2 hd hs hLY
  go_wp2_with fail
  refine CU.out.mono ?_
  rintro e w4 ⟨rfl, hb4⟩
  have AM := Lib.hid (amounts_any X Y a1 (some ⟨g, 0, none⟩) (lenB X) (lenB Y) w4 (RX.out.below hb4) (own_fit (HP.out.below hb4) HD.out.1 HD.out.2).rd (by have := lX.out; omega) (by have := lY.out; omega))
  rw [← HLX.out, ← HLY.out] at AM
  have G4 := Lib.hid (G3.out.trans (hb4.mono G3.out.size))
  clear hb4 CU G3
  go_wp2_with fail
  refine AM.out.mono ?_
  rintro e w5 ⟨rfl, m, rfl⟩
  have E : decide (cmpZ (X : Int) (Y : Int) < 0) = decide ((X : Int) < (Y : Int)) := by
    refine decide_eq_decide.2 ?_
    rcases Int.lt_trichotomy (X : Int) (Y : Int) with h | h | h
    · rw [cmpZ_lt h]; omega
    · rw [cmpZ_eq h]; omega
    · rw [cmpZ_gt h]; omega
  have HEq := Lib.hid E
  clear E AM
  go_wp2
  go_ret
  exact ⟨by rw [← HEq.out]; rfl, bdrewN G4.out m⟩
end Go.Proofs.YtkpajfjjhbbieaaGreatDoor.Limb
namespace Go.Proofs.YtkpajfjjhbbieaaGreatDoor.Book
open Go.RowKit Go.Sort Go.Fresh Go.Proofs.YtkpajfjjhbbieaaGreatDoor.Limb

set_option maxHeartbeats 4000000 in
theorem apart_any (b vb k cap : Nat) (A : Nat → Option Addr) (N C : Nat → Nat) (O : Nat → Nat → Int) (w : World) (hk : k ≤ 1000) (hB : w.rowIs b 50 13 (bkf k (.slice (some ⟨vb, 0, none⟩) k cap)))
    (hA : Arr w vb k A N C (fun _ => .slice none 0 0)) (hO : ∀ j, j < k → Own 56 w 0 (A j) (N j) (C j) (O j)) (hN : ∀ j, j < k → N j ≤ 900000000) (hS : ¬ UA k A b ∧ ¬ UA k A vb) (hD : Part k A) (hbv : b ≠ vb) :
    Calls Tryz.prog 28 #[.pointer (some ⟨b, 0, none⟩)] w fun e w' => e = .returned (.bool true) ∧ Touch (fun g => UA k A g ∨ g = vb) w w' := by
  have H0 := Lib.hid hB
  have N0 := Lib.hid (fun i (h1 : 0 < i) (h2 : i < 13) (h3 : i ≠ 2) => (show w.cell? ⟨b, i, none⟩ = some (.slice none 0 0) by rw [hB.cell h2]; show some (if i = 0 then _ else if i = 2 then _ else _) = _; rw [if_neg (by omega), if_neg h3]))
  have F := Lib.hid (fill_any b vb k cap A N C O w hk hB hA hO (fun j hj => by have := hN j hj; omega) hS hD)
  have HA := Lib.hid hA; have HS := Lib.hid hS; have HN := Lib.hid hN; have HD := Lib.hid hD
  have HP := Lib.hid (fun j hj p hp => ((hO j hj).blk (p := p) hp).2.2)
  clear hB hA hO hS hN hD
  go_enter Tryz.func28, Tryz.ntmps28
  go_wp2_with fail
  refine (fillByte b w (N0.out 1 (by omega) (by omega) (by omega))).mono ?_
  rintro e x ⟨⟨v, rfl⟩, hx⟩
  obtain rfl := hx.symm
  go_wp2_with fail
  refine F.out.mono ?_
  rintro e w1 ⟨⟨v, rfl⟩, hT, hO1⟩
  have T1 := Lib.hid hT
  have H1 := Lib.hid (H0.out.of_block (hT.block _ H0.out.lt HS.out.1))
  have N1 := Lib.hid (fun i (h1 : 0 < i) (h2 : i < 13) (h3 : i ≠ 2) => (show w1.cell? ⟨b, i, none⟩ = some (.slice none 0 0) by rw [H1.out.cell h2]; show some (if i = 0 then _ else if i = 2 then _ else _) = _; rw [if_neg (by omega), if_neg h3]))
  have G := Lib.hid (grow_any b vb k cap A N C w1 hk H1.out (HA.out.keep (hT.block _ HA.out.lt HS.out.2)) hO1 HN.out HS.out HD.out hbv)
  clear hT hO1 N0 F
  go_wp2_with fail
  refine (fillText b w1 (N1.out 3 (by omega) (by omega) (by omega))).mono ?_
  rintro e x ⟨⟨v, rfl⟩, hx⟩
  obtain rfl := hx.symm
  go_wp2_with fail
  refine (fillToken b w1 (N1.out 4 (by omega) (by omega) (by omega))).mono ?_
  rintro e x ⟨⟨v, rfl⟩, hx⟩
  obtain rfl := hx.symm
  go_wp2_with fail
  refine (fillNum b w1 (N1.out 5 (by omega) (by omega) (by omega))).mono ?_
  rintro e x ⟨⟨v, rfl⟩, hx⟩
  obtain rfl := hx.symm
  go_wp2_with fail
  refine (fillTerm b w1 (N1.out 6 (by omega) (by omega) (by omega))).mono ?_
  rintro e x ⟨⟨v, rfl⟩, hx⟩
  obtain rfl := hx.symm
  go_wp2_with fail
  refine (fillFactor b w1 (N1.out 7 (by omega) (by omega) (by omega))).mono ?_
  rintro e x ⟨⟨v, rfl⟩, hx⟩
  obtain rfl := hx.symm
  go_wp2_with fail
  refine (fillNode b w1 (N1.out 8 (by omega) (by omega) (by omega))).mono ?_
  rintro e x ⟨⟨v, rfl⟩, hx⟩
  obtain rfl := hx.symm
  go_wp2_with fail
  refine (fillFunc b w1 (N1.out 9 (by omega) (by omega) (by omega))).mono ?_
  rintro e x ⟨⟨v, rfl⟩, hx⟩
  obtain rfl := hx.symm
  go_wp2_with fail
  refine (fillValue b w1 (N1.out 10 (by omega) (by omega) (by omega))).mono ?_
  rintro e x ⟨⟨v, rfl⟩, hx⟩
  obtain rfl := hx.symm
  go_wp2_with fail
  refine (fillInstr b w1 (N1.out 11 (by omega) (by omega) (by omega))).mono ?_
  rintro e x ⟨⟨v, rfl⟩, hx⟩
  obtain rfl := hx.symm
  go_wp2_with fail
  refine (fillChunk b w1 (N1.out 12 (by omega) (by omega) (by omega))).mono ?_
  rintro e x ⟨⟨v, rfl⟩, hx⟩
  obtain rfl := hx.symm
  go_wp2_with fail
  refine (growByte b w1 (N1.out 1 (by omega) (by omega) (by omega))).mono ?_
  rintro e x ⟨⟨v, rfl⟩, hx⟩
  obtain rfl := hx.symm
  go_wp2_with fail
  refine G.out.mono ?_
  rintro e w2 ⟨⟨v, rfl⟩, LA, LC, hG⟩
  have T2 := Lib.hid (T1.out.mono (fun _ h => Or.inl h) |>.trans (hG.tch.weak fun g hg h => h))
  have H2 := Lib.hid (H1.out.of_block (hG.tch.block _ H1.out.lt (fun h => h.elim HS.out.1 (fun h => hbv h))))
  have N2 := Lib.hid (fun i (h1 : 0 < i) (h2 : i < 13) (h3 : i ≠ 2) => (show w2.cell? ⟨b, i, none⟩ = some (.slice none 0 0) by rw [H2.out.cell h2]; show some (if i = 0 then _ else if i = 2 then _ else _) = _; rw [if_neg (by omega), if_neg h3]))
  have L := Lib.hid (look_any b vb k cap A LA N C LC w2 hk H2.out (hG.arr.congr fun j hj => by rw [if_pos hj]) hG.own (fun j hj => (hG.lng j hj).1) HN.out)
  clear hG N1 G
  go_wp2_with fail
  refine (growText b w2 (N2.out 3 (by omega) (by omega) (by omega))).mono ?_
  rintro e x ⟨⟨v, rfl⟩, hx⟩
  obtain rfl := hx.symm
  go_wp2_with fail
  refine (growToken b w2 (N2.out 4 (by omega) (by omega) (by omega))).mono ?_
  rintro e x ⟨⟨v, rfl⟩, hx⟩
  obtain rfl := hx.symm
  go_wp2_with fail
  refine (growNum b w2 (N2.out 5 (by omega) (by omega) (by omega))).mono ?_
  rintro e x ⟨⟨v, rfl⟩, hx⟩
  obtain rfl := hx.symm
  go_wp2_with fail
  refine (growTerm b w2 (N2.out 6 (by omega) (by omega) (by omega))).mono ?_
  rintro e x ⟨⟨v, rfl⟩, hx⟩
  obtain rfl := hx.symm
  go_wp2_with fail
  refine (growFactor b w2 (N2.out 7 (by omega) (by omega) (by omega))).mono ?_
  rintro e x ⟨⟨v, rfl⟩, hx⟩
  obtain rfl := hx.symm
  go_wp2_with fail
  refine (growNode b w2 (N2.out 8 (by omega) (by omega) (by omega))).mono ?_
  rintro e x ⟨⟨v, rfl⟩, hx⟩
  obtain rfl := hx.symm
  go_wp2_with fail
  refine (growFunc b w2 (N2.out 9 (by omega) (by omega) (by omega))).mono ?_
  rintro e x ⟨⟨v, rfl⟩, hx⟩
  obtain rfl := hx.symm
  go_wp2_with fail
  refine (growValue b w2 (N2.out 10 (by omega) (by omega) (by omega))).mono ?_
  rintro e x ⟨⟨v, rfl⟩, hx⟩
  obtain rfl := hx.symm
  go_wp2_with fail
  refine (growInstr b w2 (N2.out 11 (by omega) (by omega) (by omega))).mono ?_
  rintro e x ⟨⟨v, rfl⟩, hx⟩
  obtain rfl := hx.symm
  go_wp2_with fail
  refine (growChunk b w2 (N2.out 12 (by omega) (by omega) (by omega))).mono ?_
  rintro e x ⟨⟨v, rfl⟩, hx⟩
  obtain rfl := hx.symm
  go_wp2_with fail
  refine (lookByte b w2 (N2.out 1 (by omega) (by omega) (by omega))).mono ?_
  rintro e x ⟨rfl, hx⟩
  obtain rfl := hx.symm
  go_wp2_with fail
  refine L.out.mono ?_
  rintro e w3 ⟨rfl, hb⟩
  have T3 := Lib.hid (T2.out.trans (Touch.of_below hb))
  have N3 := Lib.hid (fun i (h1 : 0 < i) (h2 : i < 13) (h3 : i ≠ 2) => (hb.cell (p := ⟨b, i, none⟩) H2.out.lt).trans (N2.out i h1 h2 h3))
  clear hb N2 L
  go_wp2_with fail
  refine (lookText b w3 (N3.out 3 (by omega) (by omega) (by omega))).mono ?_
  rintro e x ⟨rfl, hx⟩
  obtain rfl := hx.symm
  go_wp2_with fail
  refine (lookToken b w3 (N3.out 4 (by omega) (by omega) (by omega))).mono ?_
  rintro e x ⟨rfl, hx⟩
  obtain rfl := hx.symm
  go_wp2_with fail
  refine (lookNum b w3 (N3.out 5 (by omega) (by omega) (by omega))).mono ?_
  rintro e x ⟨rfl, hx⟩
  obtain rfl := hx.symm
  go_wp2_with fail
  refine (lookTerm b w3 (N3.out 6 (by omega) (by omega) (by omega))).mono ?_
  rintro e x ⟨rfl, hx⟩
  obtain rfl := hx.symm
  go_wp2_with fail
  refine (lookFactor b w3 (N3.out 7 (by omega) (by omega) (by omega))).mono ?_
  rintro e x ⟨rfl, hx⟩
  obtain rfl := hx.symm
  go_wp2_with fail
  refine (lookNode b w3 (N3.out 8 (by omega) (by omega) (by omega))).mono ?_
  rintro e x ⟨rfl, hx⟩
  obtain rfl := hx.symm
  go_wp2_with fail
  refine (lookFunc b w3 (N3.out 9 (by omega) (by omega) (by omega))).mono ?_
  rintro e x ⟨rfl, hx⟩
  obtain rfl := hx.symm
  go_wp2_with fail
  refine (lookValue b w3 (N3.out 10 (by omega) (by omega) (by omega))).mono ?_
  rintro e x ⟨rfl, hx⟩
  obtain rfl := hx.symm
  go_wp2_with fail
  refine (lookInstr b w3 (N3.out 11 (by omega) (by omega) (by omega))).mono ?_
  rintro e x ⟨rfl, hx⟩
  obtain rfl := hx.symm
  go_wp2_with fail
  refine (lookChunk b w3 (N3.out 12 (by omega) (by omega) (by omega))).mono ?_
  rintro e x ⟨rfl, hx⟩
  obtain rfl := hx.symm
  go_wp2_with fail
  go_ret
  exact ⟨rfl, T3.out⟩
end Go.Proofs.YtkpajfjjhbbieaaGreatDoor.Book
namespace Go.Proofs.YtkpajfjjhbbieaaGreatDoor.Book
open Go.RowKit Go.Sort Go.FreshG Go.Proofs.YtkpajfjjhbbieaaGreatDoor.Limb

theorem infoHeld : (Tryz.prog.info? 127).map (fun i => (i.zero, i.size, i.bytes)) = some (some (.agg #[.slice none 0 0, .slice none 0 0, .int .i64 0]), 3, 56) := by kernel_rfl
/-- What a list adds to the Book's row. -/
def held (a : Option Addr) (n c k : Nat) : List Value := [.slice a n c, .slice none 0 0, .int .i64 ((k : Int) + 1)]
/-- A Book in memory: how many lists, where its row lies. -/
structure Bk (w : World) (b base k : Nat) (v : Value) (xs : List Value) : Prop where
  box : w.rowIs b 50 13 (bkf k v)
  row : w.ownsRow base 127 3 v k xs
  ne : v.ownBlock ≠ some b

/-- The Book's row, one list longer. -/
def Row1 (w : World) (base k : Nat) (xs : List Value) (a : Option Addr) (n c : Nat) (x : Value) : Prop := w.ownsRow base 127 3 x (k + 1) (xs ++ held a n c k)
/-- What an append to the Book's row leaves alone; and what it has done, it does not undo. -/
def Gr (base k : Nat) (v : Value) (xs : List Value) (a : Option Addr) (n c : Nat) (w w' : World) : Prop :=
  Touch (fun g => v.ownBlock = some g) w w' ∧ (w.ownsRow base 127 3 v k xs → w'.ownsRow base 127 3 v k xs) ∧ ∀ x, Row1 w base k xs a n c x → Row1 w' base k xs a n c x
theorem Gr.refl (base k : Nat) (v : Value) (xs : List Value) (a : Option Addr) (n c : Nat) (w : World) : Gr base k v xs a n c w w := ⟨Touch.refl _ _, fun h => h, fun _ h => h⟩
theorem Gr.grown {base k : Nat} {v : Value} {xs : List Value} {a : Option Addr} {n c : Nat} {w w' : World} (h : w.grownBy w' none) : Gr base k v xs a n c w w' := by
  refine ⟨(Touch.refl _ _).grown h (fun _ h => by cases h), fun hr => hr.kept h ?_, fun x hr => World.ownsRow.kept hr h ?_⟩
  · cases hv : v.ownBlock
    · exact .inl rfl
    · exact .inr (by simp)
  · cases hv : x.ownBlock
    · exact .inl rfl
    · exact .inr (by simp)
theorem Gr.alloc {base k : Nat} {v : Value} {xs : List Value} {a : Option Addr} {n c : Nat} (w : World) (o : Obj) : Gr base k v xs a n c w (w.alloc o) := Gr.grown (World.grownBy_alloc w o none)

theorem take_mid {L news : List Value} {m d : Nat} (hm : m ≤ L.length) (hn : news.length = d) : (L.take m ++ news ++ L.drop (m + d)).take (m + d) = L.take m ++ news := by
  have h : (L.take m ++ news).length = m + d := by simp [hn]; omega
  rw [← h]; exact List.take_left

theorem keep_append {w : World} {base k : Nat} {v : Value} {xs : List Value} (h : w.ownsRow base 127 3 v k xs) (hb : base ≤ w.heap.size) (hk : k ≤ 1000) (gs : Nat) (a : Option Addr) (n c : Nat)
    (hs : w.heap[gs]? = some (.cells #[.slice a n c, .slice none 0 0, .int .i64 ((k : Int) + 1)] 127 (0, 0))) (ty : Nat) :
    ∃ x w', (Builtin.append_ #[38, 38] ty #[v, .slice (some ⟨gs, 0, none⟩) 1 1]).run Tryz.prog w = .ok x w' ∧ Row1 w' base k xs a n c x ∧ Gr base k v xs a n c w w' ∧
      (v.ownBlock = x.ownBlock ∨ ∃ g, x.ownBlock = some g ∧ w.heap.size ≤ g) := by
  obtain ⟨i0, hi, hz0, hz1, hz2⟩ := info_parts infoHeld
  have hnews : ∀ j u, (held a n c k)[j]? = some u → w.cell? ((⟨gs, 0, none⟩ : Addr).add j) = some u := by
    intro j u hj
    rw [Addr.add_lit, Nat.zero_add, cell_of_row _ _ _ _ _ _ hs]
    match j, hj with
    | 0, hj => exact hj
    | 1, hj => exact hj
    | 2, hj => exact hj
    | j + 3, hj => simp [held] at hj
  have h1 : ∀ u ∈ held a n c k, u.oneCell' = true := by intro u hu; simp [held] at hu; rcases hu with rfl | rfl | rfl <;> rfl
  have hl : (held a n c k).length = 1 * 3 := rfl
  have hxl := h.1
  have hlen : (xs ++ held a n c k).length = (k + 1) * 3 := by rw [List.length_append, hxl]; show _ + 3 = _; omega
  have fresh : ∀ old, old < k + 1 → Row1 (w.drew.alloc (.cells (xs.toArray ++ (held a n c k).toArray ++ Builtin.zeroCells (Value.agg #[.slice none 0 0, .slice none 0 0, .int .i64 0]).cells (grownCap w (k + 1) old 127 - (k + 1))) 127)) base k xs a n c (.slice (some ⟨w.heap.size, 0, none⟩) (k + 1) (grownCap w (k + 1) old 127)) ∧
      w.grownBy (w.drew.alloc (.cells (xs.toArray ++ (held a n c k).toArray ++ Builtin.zeroCells (Value.agg #[.slice none 0 0, .slice none 0 0, .int .i64 0]).cells (grownCap w (k + 1) old 127 - (k + 1))) 127)) none := by
    intro old ho
    have hge := grownCap_ge w (k + 1) old 127
    have hcm := grownCap_le_maxLen w (k + 1) old 127 (by unfold maxLen; omega)
    refine ⟨⟨hlen, .inr ⟨w.heap.size, _, _, rfl, hb, heap_alloc_new w.drew _, hge, hcm, ?_, ?_⟩⟩, ⟨rfl, rfl, rfl, by simp, fun q hq _ => heap_alloc_old w.drew _ hq⟩⟩
    · simp only [Array.size_append, List.size_toArray, size_zeroCells, hxl, hl]
      show _ + _ + _ * 3 = _
      omega
    · simp only [Array.toList_append]
      rw [← hlen]
      exact List.take_left
  rcases h.2 with ⟨rfl, rfl⟩ | ⟨g, cap, cur, rfl, hbg, hg, hnc, hcm, hcs, htake⟩
  · have hx : xs = [] := List.eq_nil_of_length_eq_zero (by simpa using hxl)
    subst hx
    have hr := run_append_nil (P := Tryz.prog) w 38 ty 127 i0 _ Tryz.underlying38 hi hz0 ⟨gs, 0, none⟩ 1 1 (held a n c 0) (by rw [hz1]; rfl) hnews (by omega) (by omega) (by rw [hz2]; omega)
    have hgr := fresh 0 (by omega)
    simp only [Nat.zero_add, List.nil_append, Array.empty_append] at hgr
    exact ⟨_, _, hr, hgr.1, Gr.grown hgr.2, .inr ⟨_, rfl, Nat.le_refl _⟩⟩
  · by_cases hroom : k + 1 ≤ cap
    · have hr := run_append_room (P := Tryz.prog) w 38 ty 127 i0 Tryz.underlying38 hi g k cap cur hg ⟨gs, 0, none⟩ 1 1 (held a n c k) (by rw [hz1]; rfl) hnews h1 hroom (by rw [hz1, hl, hcs]; omega)
      rw [hz1, hl] at hr
      have hcl : k * 3 ≤ cur.toList.length := by rw [Array.length_toList, hcs]; omega
      have hnew := setRow_heap w g cur (cur.toList.take (k * 3) ++ held a n c k ++ cur.toList.drop (k * 3 + 1 * 3)).toArray 127 _ hg
      have hsz : (cur.toList.take (k * 3) ++ held a n c k ++ cur.toList.drop (k * 3 + 1 * 3)).toArray.size = cap * 3 := by
        simp only [List.size_toArray, List.length_append, List.length_take, List.length_drop, Array.length_toList, hl, hcs]
        omega
      have ht1 : (cur.toList.take (k * 3) ++ held a n c k ++ cur.toList.drop (k * 3 + 1 * 3)).take ((k + 1) * 3) = xs ++ held a n c k := by
        rw [show (k + 1) * 3 = k * 3 + 1 * 3 by omega, take_mid hcl hl, htake]
      have ht0 : (cur.toList.take (k * 3) ++ held a n c k ++ cur.toList.drop (k * 3 + 1 * 3)).take (k * 3) = xs := by
        have h3 := congrArg (List.take (k * 3)) ht1
        rw [List.take_take, Nat.min_eq_left (by omega), ← hxl, List.take_left] at h3
        rw [← hxl]; exact h3
      refine ⟨_, _, hr, ⟨hlen, .inr ⟨g, cap, _, rfl, hbg, hnew, hroom, hcm, hsz, ht1⟩⟩, ⟨?_, ?_, ?_⟩, .inl rfl⟩
      · exact ⟨rfl, rfl, rfl, by simp, fun q _ hq => setRow_other w g q _ (fun e => hq (by simp [Value.ownBlock, e]))⟩
      · exact fun _ => ⟨hxl, .inr ⟨g, cap, _, rfl, hbg, hnew, hnc, hcm, hsz, ht0⟩⟩
      · intro x hx
        rcases hx.2 with ⟨_, h0⟩ | ⟨g', cap', cur', rfl, hbg', hg', hnc', hcm', hcs', htake'⟩
        · omega
        · refine ⟨hlen, .inr ?_⟩
          by_cases e : g' = g
          · subst e
            have e2 : cur' = cur := by have := hg'.symm.trans hg; simpa using this
            subst e2
            exact ⟨g', cap', _, rfl, hbg', hnew, hnc', hcm', by rw [hsz]; omega, ht1⟩
          · exact ⟨g', cap', cur', rfl, hbg', (setRow_other w g g' _ e).trans hg', hnc', hcm', hcs', htake'⟩
    · have holds : ∀ j u, xs[j]? = some u → w.cell? ((⟨g, 0, none⟩ : Addr).add j) = some u := h.cells (g := g) rfl
      have hr := run_append_grow (P := Tryz.prog) w 38 ty 127 i0 _ Tryz.underlying38 hi hz0 ⟨g, 0, none⟩ k cap xs (by rw [hz1]; exact hxl) holds ⟨gs, 0, none⟩ 1 1 (held a n c k) (by rw [hz1]; rfl) hnews (by omega) (by omega) (growslice_fits (by omega) (by rw [hz2]; omega))
      have hgr := fresh cap (by omega)
      exact ⟨_, _, hr, hgr.1, Gr.grown hgr.2, .inr ⟨_, rfl, Nat.le_refl _⟩⟩

theorem gives_appendG {G : World → World → Prop} {P : Program} {o : Oper} {a : Act} {w w' : World} {Post : Value → World → Prop} {v u r : Value} (s x : Operand) (t : TypeId)
    (ho : o.op = .call { callee := .builtin .append, args := #[s, x], argTypes := #[t, t] }) (hs : a.eval s = v) (hx : a.eval x = u)
    (hr : (Builtin.append_ #[t, t] o.type #[v, u]).run P w = .ok r w') (hP : Post r w' ∧ G w w') : givesUpon P G w Post ((execOp a.eval o).run P w) := by
  unfold execOp
  simp only [ho, resolve, invoke, builtin, Sem.run_bind, Sem.run_pure, Result.andThen_ok, List.map_toArray, List.map_cons, List.map_nil, hs, hx, hr]
  exact hP

set_option maxRecDepth 100000 in
set_option maxHeartbeats 1000000 in
theorem keep_any (b base k : Nat) (v : Value) (xs : List Value) (a : Option Addr) (n c : Nat) (w : World) (hk : k ≤ 1000) (hB : Bk w b base k v xs) (hbase : base ≤ w.heap.size) :
    Calls Tryz.prog 124 #[.pointer (some ⟨b, 0, none⟩), .slice a n c] w fun e w' => (∃ u, e = .returned u) ∧ ∃ v', Bk w' b base (k + 1) v' (xs ++ held a n c k) ∧ (v.ownBlock = v'.ownBlock ∨ ∃ g, v'.ownBlock = some g ∧ w.heap.size ≤ g) ∧
      Touch (fun g => g = b ∨ v.ownBlock = some g) w w' := by
  obtain ⟨i0, hi, hz0, hz1, hz2⟩ := info_parts infoHeld
  have KB := Lib.hid hB
  have b0 : w.cell? ⟨b, 0, none⟩ = some (.int .i64 k) := hB.box.cell (i := 0) (by omega)
  have hfz := hB.box.frozen
  have e1 := IntWalk.i64_in ((k : Int) + 1) (by omega)
  clear hB
  go_enter Tryz.func124, Tryz.ntmps124
  go_upto_region 1 with (fail)
  obtain ⟨W, hW⟩ : ∃ W, W = w.setCell ⟨b, 0, none⟩ (.int .i64 ((k : Int) + 1)) := ⟨_, rfl⟩
  have X := (KB.out.box.set 0 (.int .i64 ((k : Int) + 1))).congr (g := bkf (k + 1) v) (fun i _ => by
    unfold bkf
    by_cases e : i = 0
    · rw [if_pos e, if_pos e]; rfl
    · rw [if_neg e, if_neg e, if_neg e])
  have R := KB.out.row.kept (w' := W) (row := some b) (by
    rw [hW]
    exact ⟨rfl, rfl, rfl, by simp, fun q _ hq => Below.heap_setCell _ _ _ _ (fun e => hq (by simp [e]))⟩) (Or.inr KB.out.ne)
  have hsz : W.heap.size = w.heap.size := by rw [hW]; simp
  have T := Lib.hid (show Touch (fun g => g = b ∨ v.ownBlock = some g) w W by rw [hW]; exact (Touch.refl _ _).setCell (p := ⟨b, 0, none⟩) (Or.inl (Or.inl rfl)) _)
  rw [← hW] at X
  rw [show (w.setCell ⟨b, 0, none⟩ (.int .i64 ((k : Int) + 1))) = W from hW.symm]
  have HX := Lib.hid X
  have HR := Lib.hid R
  have c0 : W.cell? ⟨b, 0, none⟩ = some (.int .i64 ((k : Int) + 1)) := X.cell (i := 0) (by omega)
  have c2 : W.cell? ⟨b, 2, none⟩ = some v := X.cell (i := 2) (by omega)
  have hfz := X.frozen
  have hlt := X.lt
  have hbase : base ≤ W.heap.size := by omega
  have hnb := KB.out.ne
  have HZ := Lib.hid hsz
  have f2 : W.frozen? ⟨b, 2, none⟩ = false := hfz 2
  clear X R hW b0 hsz hfz
  have HV := Lib.hid (fun g (hg : v.ownBlock = some g) => (HR.out.lt g hg).2)
  have HS := Lib.hid (fun (w' : World) (h : Touch (fun g => v.ownBlock = some g) W w') => And.intro ((World.cell?_of_block (a := ⟨b, 0, none⟩) (h.block b hlt hnb)).trans c0) (And.intro ((World.cell?_of_block (a := ⟨b, 2, none⟩) (h.block b hlt hnb)).trans c2) ((World.frozen?_of_block (a := ⟨b, 2, none⟩) (h.block b hlt hnb)).trans f2)))
  have HB := Lib.hid hbase
  have HN := Lib.hid hnb
  have HLT := Lib.hid hlt
  clear c0 c2 f2 hbase hnb hlt
  refine wp_region_fresh 15 (spOf [(11, Sp.made (fun g : Nat => .slice (some ⟨g, 0, none⟩) 1 1) (fun g w' => w'.heap[g]? = some (.cells #[.slice a n c, .slice none 0 0, .int .i64 ((k : Int) + 1)] 127 (0, 0)) ∧ W.heap.size ≤ g)),
      (12, Sp.made (fun x : Value => x) (fun x w' => Row1 w' base k xs a n c x ∧ (v.ownBlock = x.ownBlock ∨ ∃ g, x.ownBlock = some g ∧ W.heap.size ≤ g)))])
    (G := Gr base k v xs a n c) (fun w' => Touch (fun g => v.ownBlock = some g) W w' ∧ w'.ownsRow base 127 3 v k xs) (by kernel_rfl) (by kernel_rfl)
    (spOf_cons (Sp.made_keeps fun g w w' h hG => ⟨(hG.1.block g (lt_of_block h.1) (fun e => by have := HV.out g e; omega)).trans h.1, h.2⟩) (spOf_cons (Sp.made_keeps fun x w w' h hG => ⟨hG.2.2 x h.1, h.2⟩) spOf_nil))
    ⟨fun w => Gr.refl _ _ _ _ _ _ _ w, fun _ _ h hG => ⟨h.1.trans hG.1, hG.2.1 h.2⟩⟩ ⟨(Touch.refl _ _).drew, HR.out.kept (row := none) ⟨rfl, rfl, rfl, Nat.le_refl _, fun _ _ _ => rfl⟩ (by cases v.ownBlock; exact .inl rfl; exact .inr (by simp))⟩ ?_
  simp only [List.take_succ_cons, List.take_zero, List.drop_succ_cons, List.drop_zero]
  (refine wpF_reads rfl rfl ?_ (fun w' hw' => ?_) ?_; rotate_left; · (have hb' := Has.world hw'; (skip); clear hw'; go_simp; try rfl))
  (refine wpF_reads rfl rfl ?_ (fun w' hw' => ?_) ?_; rotate_left; · (have hb' := Has.world hw'; (skip); clear hw'; go_simp; try rfl))
  (refine wpF_reads rfl rfl ?_ (fun w' hw' => ?_) ?_; rotate_left; · (have hb' := Has.world hw'; (skip); clear hw'; go_simp; try rfl))
  (refine wpF_reads rfl rfl ?_ (fun w' hw' => ?_) ?_; rotate_left; · (have hb' := Has.world hw'; (skip); clear hw'; go_simp; try rfl))
  (refine wpF_reads rfl rfl ?_ (fun w' hw' => ?_) ?_; rotate_left; · (have hb' := Has.world hw'; (have hs := HS.out _ hb'.1); clear hw'; go_simp; try rfl))
  (refine wpF_reads rfl rfl ?_ (fun w' hw' => ?_) ?_; rotate_left; · (have hb' := Has.world hw'; (skip); clear hw'; go_simp; try rfl))
  (refine wpF_reads rfl rfl ?_ (fun w' hw' => ?_) ?_; rotate_left; · (have hb' := Has.world hw'; (skip); clear hw'; go_simp; try rfl))
  (refine wpF_reads rfl rfl ?_ (fun w' hw' => ?_) ?_; rotate_left; · (have hb' := Has.world hw'; (skip); clear hw'; go_simp; try rfl))
  (refine wpF_reads rfl rfl ?_ (fun w' hw' => ?_) ?_; rotate_left; · (have hb' := Has.world hw'; (skip); clear hw'; go_simp; try rfl))
  (refine wpF_reads rfl rfl ?_ (fun w' hw' => ?_) ?_; rotate_left; · (have hb' := Has.world hw'; (have hs := HS.out _ hb'.1); clear hw'; go_simp; try rfl))
  (refine wpF_reads rfl rfl ?_ (fun w' hw' => ?_) ?_; rotate_left; · (have hb' := Has.world hw'; (skip); clear hw'; go_simp; try rfl))
  refine wpF_spec rfl rfl (fun w' hw' => ?_) ?_
  · have hb' := hw'.world
    clear hw'
    go_simp
    refine ⟨⟨?_, hb'.1.size⟩, Gr.alloc _ _⟩
    show (w'.heap.push _)[w'.heap.size] = _
    simp
  rintro _ ⟨gs, rfl⟩
  refine wpF_spec rfl rfl (fun w' hw' => ?_) ?_
  · have hb' := hw'.world
    have h11 := hw'.fact 11 (by kernel_rfl)
    obtain ⟨g', eg, hg1, hg2⟩ := h11
    cases eg
    obtain ⟨x, w'', hrun, h1, h2, h3⟩ := keep_append hb'.2 (Nat.le_trans HB.out hb'.1.size) hk gs a n c hg1 38
    clear hw'
    refine gives_appendG (v := v) (u := .slice (some ⟨gs, 0, none⟩) 1 1) _ _ 38 (by rfl) (by (go_simp; try rfl)) (by (go_simp; try rfl)) hrun ?_
    exact ⟨⟨⟨x, rfl⟩, ⟨x, rfl, h1, h3.imp id fun ⟨g, e, hl⟩ => ⟨g, e, Nat.le_trans hb'.1.size hl⟩⟩⟩, h2⟩
  rintro y ⟨z, hz⟩
  obtain rfl : y = z := hz
  (refine wpF_reads rfl rfl ?_ (fun w' hw' => ?_) ?_; rotate_left; · (have hb' := Has.world hw'; (skip); clear hw'; go_simp; try rfl))
  (refine wpF_reads rfl rfl ?_ (fun w' hw' => ?_) ?_; rotate_left; · (have hb' := Has.world hw'; (skip); clear hw'; go_simp; try rfl))
  refine wpF_nil (fun w1 hC1 hF => ?_)
  obtain ⟨y', ey, hY1, hY2⟩ := hF 12
  obtain rfl : y = y' := ey
  obtain ⟨gy, cy, rfl⟩ : ∃ gy cy, y = Value.slice (some ⟨gy, 0, none⟩) (k + 1) cy := by
    rcases hY1.2 with ⟨_, h0⟩ | ⟨g, cap, cur, e, _⟩
    · omega
    · exact ⟨g, cap, e⟩
  have KY := Lib.hid (And.intro hY1 hY2)
  have KT := Lib.hid (T.out.trans (hC1.1.mono (fun g hg => Or.inr hg)))
  have KX := Lib.hid (HX.out.of_block (hC1.1.block b HLT.out HN.out))
  obtain ⟨d0, d2, df⟩ := HS.out _ hC1.1
  clear hF hC1 HS hY1 hY2
  go_wp2_with fail
  (try simp only [Exit.inBlock, Exit.then])
  refine bodyPost_end (results_none rfl _ _ _) rfl ?_
  refine ⟨⟨_, rfl⟩, Value.slice (some ⟨gy, 0, none⟩) (k + 1) cy, ⟨?_, ?_, ?_⟩, ?_, KT.out.setCell (p := ⟨b, 2, none⟩) (Or.inl (Or.inl rfl)) _⟩
  · refine (KX.out.set 2 (Value.slice (some ⟨gy, 0, none⟩) (k + 1) cy)).congr fun i _ => ?_
    unfold bkf
    by_cases e : i = 2
    · rw [if_pos e, if_neg (by omega), if_pos e]
    · rw [if_neg e]
      by_cases e0 : i = 0
      · rw [if_pos e0, if_pos e0]
      · rw [if_neg e0, if_neg e0, if_neg e, if_neg e]
  · refine World.ownsRow.kept (row := some b) KY.out.1 ⟨rfl, rfl, rfl, by simp, fun q _ hq => Below.heap_setCell _ _ _ _ (fun e => hq (by simp [e]))⟩ (Or.inr ?_)
    rcases KY.out.2 with h | ⟨g, h, hl⟩
    · rw [← h]; exact HN.out
    · rw [h]; intro e; cases e; have := HLT.out; omega
  · rcases KY.out.2 with h | ⟨g, h, hl⟩
    · rw [← h]; exact HN.out
    · rw [h]; intro e; cases e; have := HLT.out; omega
  · rcases KY.out.2 with h | ⟨g, h, hl⟩
    · exact .inl h
    · exact .inr ⟨g, h, by have := HZ.out; omega⟩
end Go.Proofs.YtkpajfjjhbbieaaGreatDoor.Book
namespace Go.Proofs.YtkpajfjjhbbieaaGreatDoor.Book
open Go.RowKit Go.Sort Go.FreshG Go.Proofs.YtkpajfjjhbbieaaGreatDoor.Limb

/-- One list more is in the Book. -/
def Kept (w : World) (b base k : Nat) (v : Value) (xs : List Value) (a : Option Addr) (n c : Nat) (e : Ending) (w' : World) : Prop :=
  (∃ u, e = .returned u) ∧ ∃ v', Bk w' b base (k + 1) v' (xs ++ held a n c k) ∧ (v.ownBlock = v'.ownBlock ∨ ∃ g, v'.ownBlock = some g ∧ w.heap.size ≤ g) ∧ Touch (fun g => g = b ∨ v.ownBlock = some g) w w'
theorem Bk.alloc {w : World} {b base k : Nat} {v : Value} {xs : List Value} (h : Bk w b base k v xs) (o : Obj) : Bk (w.alloc o) b base k v xs := ⟨h.box.alloc o, h.row.alloc o, h.ne⟩

set_option maxHeartbeats 1000000 in
theorem limbs_any (b base k : Nat) (v : Value) (xs : List Value) (a : Option Addr) (n c : Nat) (w : World) (hk : k ≤ 1000) (hB : Bk w b base k v xs) (hbase : base ≤ w.heap.size) :
    Calls Tryz.prog 61 #[.pointer (some ⟨b, 0, none⟩), .slice a n c] w (Kept w b base k v xs a n c) := by
  have K := Lib.hid (keep_any b base k v xs a n c w hk hB hbase)
  clear hB hbase
  go_enter Tryz.func61, Tryz.ntmps61
  go_wp2_with fail
  refine K.out.mono ?_
  rintro e w1 ⟨⟨u, rfl⟩, h⟩
  have H := Lib.hid h
  clear h
  go_wp2_with fail
  (try simp only [Exit.inBlock, Exit.then])
  refine bodyPost_end (results_none rfl _ _ _) rfl ?_
  exact ⟨⟨_, rfl⟩, H.out⟩

set_option maxHeartbeats 1000000 in
theorem num_any (b base k : Nat) (v : Value) (xs : List Value) (s : Bool) (a : Option Addr) (n c : Nat) (w : World) (hk : k ≤ 1000) (hB : Bk w b base k v xs) (hbase : base ≤ w.heap.size) :
    Calls Tryz.prog 27 #[.pointer (some ⟨b, 0, none⟩), numV s a n c] w (Kept w b base k v xs a n c) := by
  have K := Lib.hid (limbs_any b base k v xs a n c (w.alloc (.cells #[.bool s, .slice a n c] 24)) hk (hB.alloc _) (by simp; omega))
  clear hB hbase
  go_enter Tryz.func27, Tryz.ntmps27
  go_wp2_with fail
  refine K.out.mono ?_
  rintro e w1 ⟨⟨u, rfl⟩, h⟩
  have H := Lib.hid h
  clear h
  go_wp2_with fail
  (try simp only [Exit.inBlock, Exit.then])
  refine bodyPost_end (results_none rfl _ _ _) rfl ?_
  obtain ⟨v', h1, h2, h3⟩ := H.out
  exact ⟨⟨_, rfl⟩, v', h1, h2.imp id (fun ⟨g, e, hl⟩ => ⟨g, e, by simp at hl; omega⟩), ((Touch.refl _ _).alloc _).trans h3⟩
end Go.Proofs.YtkpajfjjhbbieaaGreatDoor.Book
namespace Go.Proofs.YtkpajfjjhbbieaaGreatDoor.Limb
open Go.RowKit Go.Sort Go.Fresh

theorem infoPart1 : (Tryz.prog.info? 56).map (·.size) = some 1 := by kernel_rfl
theorem copy_own {w : World} {base gu L L' i m : Nat} {up r : Nat → Int} {a : Option Addr} (h : Own 56 w base (some ⟨gu, 0, none⟩) L L' up) (hi : i + m ≤ L) (hm : 0 < m) (hr : Rd w a m r) (ty dcap scap : Nat) :
    ∃ v w', (Builtin.copy_ #[22, 22] ty #[.slice (some ⟨gu, i, none⟩) m dcap, .slice a m scap]).run Tryz.prog w = .ok v w' ∧ Own 56 w' base (some ⟨gu, 0, none⟩) L L' (splice up i m r) ∧ w.grownBy w' (some gu) := by
  obtain ⟨b, off, rfl, hc⟩ := hr.cells hm
  rcases h.place with h0 | ⟨g, cur, ha, hbg, hg, hcap, hcc⟩
  · cases h0.1
  cases ha
  have hle := h.le
  have hrun := run_copy_row (P := Tryz.prog) w 22 22 ty 56 gu i m dcap ⟨b, off, none⟩ m scap cur 56 (ucs r m) Tryz.underlying22 infoPart1 hg (by rw [ucs_len]; exact (Nat.min_self m).symm)
    (by
      intro j u hj
      obtain ⟨hj1, rfl⟩ := ucs_get' hj
      rw [Addr.add_lit]
      exact hc j hj1) (by rw [ucs_len]; omega) ucs_one
  refine ⟨_, _, hrun, ⟨hle, Or.inr ⟨gu, _, rfl, hbg, setRow_heap w gu cur _ _ _ hg, ?_, fun k hk => ?_⟩, fun k hk => ?_⟩, ⟨rfl, rfl, rfl, by simp, fun k _ hk => setRow_other w gu k _ (fun e => hk (by simp [e]))⟩⟩
  · simp only [List.size_toArray, List.length_append, List.length_take, List.length_drop, Array.length_toList, ucs_len]
    omega
  · rw [List.getElem?_toArray, ucs_len]
    have h1 : (cur.toList.take i).length = i := by simp; omega
    have h2 : (cur.toList.take i ++ ucs r m).length = i + m := by rw [List.length_append, h1, ucs_len]
    by_cases e1 : k < i
    · rw [List.getElem?_append_left (by omega), List.getElem?_append_left (by omega), List.getElem?_take, if_pos e1, Array.getElem?_toList, hcc k hk]
      show some (Value.int .u32 (up k)) = some (Value.int .u32 (splice up i m r k))
      rw [splice_out (Or.inl e1)]
    · by_cases e2 : k < i + m
      · obtain ⟨j, rfl⟩ : ∃ j, k = i + j := ⟨k - i, by omega⟩
        rw [List.getElem?_append_left (by omega), List.getElem?_append_right (by omega), h1, Nat.add_sub_cancel_left, ucs_get _ _ _ (by omega)]
        show some (Value.int .u32 (r j)) = some (Value.int .u32 (splice up i m r (i + j)))
        rw [splice_in (by omega)]
      · rw [List.getElem?_append_right (by omega), h2, List.getElem?_drop, show i + m + (k - (i + m)) = k by omega, Array.getElem?_toList, hcc k hk]
        show some (Value.int .u32 (up k)) = some (Value.int .u32 (splice up i m r k))
        rw [splice_out (Or.inr (by omega))]
  · by_cases e : i ≤ k ∧ k < i + m
    · obtain ⟨j, rfl⟩ : ∃ j, k = i + j := ⟨k - i, by omega⟩
      rw [splice_in (by omega)]; exact hr.rng j (by omega)
    · rw [splice_out (by omega)]; exact h.rng k hk

theorem cf_div (args : Array Value) (w : World) : (callFunc 152 args).run Tryz.prog w = .ok (.enter 152 args) w := by kernel_rfl

set_option maxHeartbeats 1000000 in
theorem divFn (w : World) (bh bg bv gu i n cu cv : Nat) (q : Option Addr) (up vp : Nat → Int) (g : Int) (k : Nat) (c1 : w.cell? ⟨bh, 0, none⟩ = some (.slice (some ⟨gu, i, none⟩) (n + 1) cu)) (c2 : w.cell? ⟨bg, 0, none⟩ = some (.int .u64 g))
    (c3 : w.cell? ⟨bv, 0, none⟩ = some (.slice q n cv)) (c4 : w.cell? ⟨gu, i + k, none⟩ = some (.int .u32 (up (i + k)))) (hk : k < n + 1) (hp : Rd w q n vp) (hn : n ≤ 200000000) (hg : 0 ≤ g ∧ g ≤ 999999999) (hu : 0 ≤ up (i + k) ∧ up (i + k) ≤ 999999999) (r1 : 0 ≤ part vp n k ∧ part vp n k ≤ 999999999) :
    Calls Tryz.prog 152 #[.int .i64 k, .pointer (some ⟨bh, 0, none⟩), .pointer (some ⟨bg, 0, none⟩), .pointer (some ⟨bv, 0, none⟩)] w fun e w' => e = .returned (.int .i64 (up (i + k) - g * part vp n k)) ∧ Below w.heap.size w w' := by
  have P := Lib.hid (fun (w1 : World) (h : ∃ m, w1 = w.drewN m) => part_any q n cv vp k w1 (by obtain ⟨m, rfl⟩ := h; exact hp.drewN m) (by omega) (by omega))
  have m1 : g * part vp n k ≤ 999999999 * 999999999 := Int.mul_le_mul hg.2 r1.2 r1.1 (by omega)
  have m2 : 0 ≤ g * part vp n k := Int.mul_nonneg hg.1 r1.1
  have e1 := IntWalk.i64_in (up (i + k)) (by omega)
  have e2 := IntWalk.u64_in (part vp n k) (by omega)
  have e3 := IntWalk.u64_in (g * part vp n k) (by omega)
  have e4 := IntWalk.i64_in (g * part vp n k) (by omega)
  have e5 := IntWalk.i64_in (up (i + k) - g * part vp n k) (by omega)
  have x1 : (k : Int) < ((n + 1 : Nat) : Int) := by omega
  have x2 : (k : Int) < (n : Int) + 1 := by omega
  generalize part vp n k = u at *
  generalize up (i + k) = t at *
  clear hp m1 m2 hu r1
  go_enter Tryz.func152, Tryz.ntmps152
  go_wp2_with fail
  go_quiet (first | with_reducible exact quietOf (P.out _ ⟨_, rfl⟩))
  go_wp2
  go_ret
  exact ⟨rfl, bdrewN (Below.refl _ _) _⟩
/-- What divide's closure works out. -/
def lessF (up vp : Nat → Int) (j N : Nat) (g : Int) (k : Nat) : Int := up (j + k) - g * part vp N k
theorem lessF_sum (up vp : Nat → Int) (j N : Nat) (g : Int) : sumB (lessF up vp j N g) (N + 1) = headV up N j - sumB vp N * g := by
  have e : lessF up vp j N g = fun k => (fun k => up (j + k)) k + part vp N k * (-g) := by
    funext k; unfold lessF; rw [Int.mul_neg, Int.mul_comm]; show _ = up (j + k) + _; omega
  rw [e, sumB_plus, sumB_times, sumB_part _ (by omega), Int.mul_neg]
  unfold headV
  omega
theorem Rd.at_own {w : World} {base gu L L' j m : Nat} {up : Nat → Int} (h : Own 56 w base (some ⟨gu, 0, none⟩) L L' up) (hj : j + m ≤ L) : Rd w (some ⟨gu, j, none⟩) m (fun k => up (j + k)) :=
  ⟨fun _ => ⟨gu, j, rfl, fun i hi => h.cell (by omega)⟩, fun i hi => h.rng _ (by omega)⟩
end Go.Proofs.YtkpajfjjhbbieaaGreatDoor.Limb
