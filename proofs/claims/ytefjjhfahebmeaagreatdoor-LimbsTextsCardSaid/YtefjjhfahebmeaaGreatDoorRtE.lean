/-
  Variables of several cells; lists that lie outside some blocks; fractions as values.
-/
import Derived.Test.YtefjjhfahebmeaaGreatDoorRtC
import Derived.RangeFuncBox
import Derived.RangeFuncLeaves
import Derived.RangeFuncFrom
import Derived.Shelf.Abstract
import Derived.OwnWalkIn
import Derived.TacticsInMore
import Derived.LoopNIn
import Derived.LoopIn
set_option linter.unusedSimpArgs false
set_option linter.unusedVariables false
namespace Go.Proofs.YtefjjhfahebmeaaGreatDoor.Limb
open Go.RowKit Go.Sort Go.Shelf
attribute [local go_sem] Oper.semAt_some
def down (n k : Nat) : List Nat := (List.range k).map fun j => n - 1 - j
theorem down_succ (n k : Nat) : down n (k + 1) = down n k ++ [n - 1 - k] := by simp [down, List.range_succ]
theorem down_length (n k : Nat) : (down n k).length = k := by simp [down]
def gather (M : Nat) (l : List Nat) : Int := l.foldl (fun h x => h * 1000000000 - dgi M x) 0
theorem gather_snoc (M : Nat) (l : List Nat) (x : Nat) : gather M (l ++ [x]) = gather M l * 1000000000 - dgi M x := by simp [gather]
theorem gather_down (M n : Nat) (h : M < pw n) : ∀ k, k ≤ n → gather M (down n k) = -((M / pw (n - k) : Nat) : Int) := by
  intro k
  induction k with
  | zero => intro _; rw [Nat.sub_zero, Nat.div_eq_of_lt h]; rfl
  | succ k ih =>
    intro hk
    rw [down_succ, gather_snoc, ih (by omega)]
    obtain ⟨j, hj⟩ : ∃ j, n - (k + 1) = j := ⟨_, rfl⟩
    rw [hj, show n - k = j + 1 by omega, show n - 1 - k = j by omega]
    have e : M / pw (j + 1) = M / pw j / 1000000000 := by rw [pw_succ, Nat.div_div_eq_div_mul]
    have e2 : dgi M j = ((M / pw j % 1000000000 : Nat) : Int) := rfl
    rw [e, e2]
    omega
theorem gather_all (M n : Nat) (h : M < pw n) : gather M (down n n) = -(M : Int) := by
  rw [gather_down M n h n (Nat.le_refl _), Nat.sub_self, pw_zero, Nat.div_one]
def KpB (n₀ Bs : Nat) (A B : World) : Prop := Below n₀ A B ∧ B.heap[Bs]? = A.heap[Bs]?
theorem KpB.refl (n₀ Bs : Nat) (A : World) : KpB n₀ Bs A A := ⟨Below.refl _ _, rfl⟩
theorem KpB.trans {n₀ Bs : Nat} {A B C : World} (h : KpB n₀ Bs A B) (k : KpB n₀ Bs B C) : KpB n₀ Bs A C := ⟨h.1.trans k.1, k.2.trans h.2⟩
theorem KpB.back {n₀ Bs : Nat} {w : World} (hn : n₀ ≤ w.heap.size) (hB : Bs < w.heap.size) (W : World) (l : Nat) (o o' : Obj) (hl : w.heap.size ≤ l) (h : W.heap[l]? = some o) (h1 : o.isCells = false) (h2 : o.isWalk = false) : KpB n₀ Bs W (W.putObj l o') := by
  refine ⟨belowK_b hn W l o o' hl h h1 h2, ?_⟩
  have hg := grownBy_putObj' W l o'
  by_cases hlt : Bs < W.heap.size
  · exact hg.block Bs hlt (fun e => by cases e; omega)
  · have hlw : l < W.heap.size := (Array.getElem?_eq_some_iff.1 h).1
    omega
set_option maxHeartbeats 400000 in
theorem bwd_any (a : Option Addr) (n c : Nat) (w : World) :
    Calls Tryz.prog 31 #[.slice a n c] w fun e w' => e = .returned (.func (.func 95) #[] #[.pointer (some ⟨w.heap.size, 0, none⟩)]) ∧ w' = w.alloc (.cells #[.slice a n c] 22) := by
  go_enter Tryz.func31, Tryz.ntmps31
  go_wp2
  go_ret
  exact ⟨rfl, rfl⟩
set_option maxRecDepth 100000 in
set_option maxHeartbeats 2000000 in
theorem bwd1_in (F : Fence) (m : Nat) (hf : F.fn 95) (hro : F.round = none) (hm : 1 ≤ m) (l Bs n₀ M n cap : Nat) (a : Option Addr) (hn : n ≤ 1000000000) (J Jx : List Nat → World → Prop)
    (hY : ∀ pre (x : Nat) W, J pre W → pre.length < n → YieldAt F (m - 1) Tryz.prog l #[.int .i64 (x : Int), .int .u32 (dgi M x)] W fun e W' =>
      (e = .returned (.bool true) ∧ J (pre ++ [x]) W' ∧ KpB n₀ Bs W W') ∨ (e = .returned (.bool false) ∧ Jx (pre ++ [x]) W'))
    (W : World) (hBs : W.rowIs Bs 22 1 (fun _ => .slice a n cap)) (hR : Rd W a n (dgi M)) (hRn : ∀ p, a = some p → 0 < n → p.block < n₀) (h0 : J [] W) :
    CallsIn F m Tryz.prog 95 #[.func (.yield l) #[] #[], .pointer (some ⟨Bs, 0, none⟩)] W fun e W' => (∃ v, e = .returned v) ∧
      ((∃ ys, ys = down n n ∧ J ys W') ∨ (∃ pre, (∃ k, k ≤ n ∧ pre = down n k) ∧ Jx pre W')) := by
  have hbs0 : W.cell? ⟨Bs, 0, none⟩ = some (.slice a n cap) := hBs.cell (i := 0) (by omega)
  refine callsIn_of_wp Tryz.func95 rfl hf ?_ hro
  simp only [Tryz.ntmps95, List.size_toArray, List.length_cons, List.length_nil, Nat.reduceAdd, Nat.reduceSub, Array.replicate_succ, Array.replicate_zero, List.push_toArray, List.append_toArray, List.nil_append, List.cons_append]
  gi_wp2
  gi_loopw [3] (fun i wr => ∃ k : Nat, k ≤ n ∧ i = .int .i64 ((n : Int) - 1 - k) ∧ J (down n k) wr ∧ KpB n₀ Bs W wr)
    (fun i _ => (intOf i + 1).toNat)
  case atStart => exact ⟨0, Nat.zero_le _, by simp, h0, KpB.refl _ _ _⟩
  case round =>
    obtain ⟨k, hk, rfl, hJs, hnx⟩ := hrel
    have hbs : wr.cell? ⟨Bs, 0, none⟩ = some (.slice a n cap) := (hBs.of_block hnx.2).cell (i := 0) (by omega)
    by_cases hlt : k < n
    · obtain ⟨b, off, rfl, hcs⟩ := hR.cells (by omega)
      obtain ⟨j, hj⟩ : ∃ j, n - 1 - k = j := ⟨_, rfl⟩
      have hcx : wr.cell? ⟨b, off + j, none⟩ = some (.int .u32 (dgi M j)) := (hnx.1.cell (p := ⟨b, off + j, none⟩) (hRn ⟨b, off, none⟩ rfl (by omega))).trans (hcs j (by omega))
      obtain ⟨fn, tmps, assign, body, hy, hR2⟩ := hY _ j wr hJs (by rw [down_length]; exact hlt)
      have hdj : ((n : Int) - 1 - (k : Int)) = (j : Int) := by omega
      have hjn : (j : Int) < (n : Int) := by omega
      have hds : down n k ++ [j] = down n (k + 1) := by rw [down_succ, hj]
      rw [hds] at hR2
      rw [hdj]
      clear hcs hds
      gi_wp2
      refine hR2.mono ?_
      rintro e W3 (⟨rfl, hJ3, hk3⟩ | ⟨rfl, hJx3⟩)
      · gi_wp2
        go_roundw
        case rel => exact ⟨k + 1, by omega, by congr 1; omega, hJ3, hnx.trans hk3⟩
        case measure => first | (simp [intOf]; omega) | (simp [intOf]; done)
      · gi_wp2
        refine bodyPost_ret (results_none rfl _ _ _) rfl ?_
        exact ⟨⟨_, rfl⟩, .inr ⟨_, ⟨k + 1, by omega, rfl⟩, hJx3⟩⟩
    · obtain rfl : k = n := by omega
      have hdj : ((k : Int) - 1 - (k : Int)) = -1 := by omega
      rw [hdj]
      gi_wp2
      go_end0
      exact ⟨⟨_, rfl⟩, .inl ⟨_, rfl, hJs⟩⟩
theorem bwd_stops (F : Fence) (m : Nat) (hf : F.fn 95) (hro : F.round = none) (hm : 1 ≤ m) (Bs n₀ M n cap : Nat) (a : Option Addr) (hn : n ≤ 1000000000) (w : World) (hn₀ : n₀ ≤ w.heap.size)
    (hc : w.rowIs Bs 22 1 (fun _ => .slice a n cap)) (hR : Rd w a n (dgi M)) (hRn : ∀ p, a = some p → 0 < n → p.block < n₀) :
    SeqStopsK F m Tryz.prog 95 #[.pointer (some ⟨Bs, 0, none⟩)] (fun x : Nat => #[Value.int .i64 (x : Int), Value.int .u32 (dgi M x)]) (KpB n₀ Bs) (fun ys => ys = down n n) (fun pre => ∃ k, k ≤ n ∧ pre = down n k) n w := fun l J Jx W hW _ _ hY h0 =>
  bwd1_in F m hf hro hm l Bs n₀ M n cap a hn J Jx hY W (hc.of_block (hW.block _ hc.lt)) (hR.below hW) hRn h0
end Go.Proofs.YtefjjhfahebmeaaGreatDoor.Limb
namespace Go.Proofs.YtefjjhfahebmeaaGreatDoor.Limb
open Go.RowKit Go.Sort Go.Fresh Go.Shelf
attribute [local go_sem] Oper.semAt_some
theorem of_min : ∃ mn : Int, mn = -9223372036854775808 ∧ ∀ w, Calls Tryz.prog 13 #[.int .i64 (-9223372036854775808)] w (ResN w mn) := ⟨_, rfl, fun w => of64_any _ w (by omega) (by omega)⟩
theorem of_max : ∃ mx : Int, mx = 9223372036854775807 ∧ ∀ w, Calls Tryz.prog 13 #[.int .i64 9223372036854775807] w (ResN w mx) := ⟨_, rfl, fun w => of64_any _ w (by omega) (by omega)⟩
theorem cmp_can (z y : Int) (a : Option Addr) (c : Nat) (a2 : Option Addr) (c2 : Nat) (w : World) (h1 : Rd w a (lenB z.natAbs) (dgi z.natAbs)) (hn1 : lenB z.natAbs ≤ 100000000) (hc1 : lenB z.natAbs ≤ c) (h2 : Rd w a2 (lenB y.natAbs) (dgi y.natAbs)) (hn2 : lenB y.natAbs ≤ 100000000) (hc2 : lenB y.natAbs ≤ c2) :
    Calls Tryz.prog 30 #[numV (decide (z < 0)) a (lenB z.natAbs) c, numV (decide (y < 0)) a2 (lenB y.natAbs) c2] w fun e w' => e = .returned (.int .i64 (cmpZ z y)) ∧ Below w.heap.size w w' := by
  have h := cmp_any (decide (z < 0)) a (lenB z.natAbs) c (dgi z.natAbs) (decide (y < 0)) a2 (lenB y.natAbs) c2 (dgi y.natAbs) w h1 hn1 hc1 h2 hn2 hc2
  rw [canon_val, canon_val] at h
  exact h
theorem wrap_step (g d : Int) : wrap64 (wrap64 (wrap64 g * 1000000000) - d) = wrap64 (g * 1000000000 - d) := by
  unfold wrap64
  omega
theorem wrap64_in {x : Int} (h : -9223372036854775808 ≤ x ∧ x ≤ 9223372036854775807) : wrap64 x = x := by
  unfold wrap64
  omega
theorem row_new (w : World) (v : Value) (t : TypeId) : (w.alloc (.cells #[v] t)).rowIs w.heap.size t 1 (fun _ => v) := World.rowIs_alloc w #[v] t (fun _ => v) (fun i hi => by
  match i, hi with
  | 0, _ => rfl)
theorem own_num1 {T L b : Nat} {s : Bool} {a : Option Addr} {o : Nat → Int} {w : World} (h : ∃ x : Option Addr, numV s a L L = numV s x L L ∧ Own T w b x L L o) : Own T w b a L L o := by
  obtain ⟨x, e, h1⟩ := h
  simp only [numV, Value.agg.injEq, Array.mk.injEq, List.cons.injEq, Value.slice.injEq, and_true, true_and] at e
  rw [e]; exact h1
open Classical in
set_option maxRecDepth 100000 in
set_option maxHeartbeats 2000000 in
theorem back_ok (z : Int) (a : Option Addr) (cap : Nat) (w : World) (h : Rd w a (lenB z.natAbs) (dgi z.natAbs)) (hcap : lenB z.natAbs ≤ cap) (h1 : -9223372036854775808 ≤ z) (h2 : z ≤ 9223372036854775807) :
    Calls Tryz.prog 9 #[numV (decide (z < 0)) a (lenB z.natAbs) cap] w fun e w' => e = .returned (.tuple #[.int .i64 z, .int .i64 0]) ∧ Below w.heap.size w w' := by
  have HZ := Lib.hid (And.intro h1 h2)
  have hL3 : lenB z.natAbs ≤ 3 := len3 (by omega)
  obtain ⟨mn, hmn, OFN⟩ := of_min
  obtain ⟨mx, hmx, OFX⟩ := of_max
  have hL4 : lenB mn.natAbs ≤ 3 := len3 (by omega)
  have hL5 : lenB mx.natAbs ≤ 3 := len3 (by omega)
  have hc1 : ∃ c, cmpZ z mn = c ∧ decide (c < 0) = false := ⟨_, rfl, decide_eq_false (by unfold cmpZ; split; omega; split <;> omega)⟩
  have hc2 : ∃ c, cmpZ z mx = c ∧ decide (0 < c) = false := ⟨_, rfl, decide_eq_false (by unfold cmpZ; split; omega; split <;> omega)⟩
  obtain ⟨c1, e1, g1⟩ := hc1
  obtain ⟨c2, e2, g2⟩ := hc2
  have HOFN := Lib.hid OFN; have HOFX := Lib.hid OFX
  clear h1 h2 OFN OFX hmn hmx
  have CHK := Lib.hid (fun (w' : World) (hb : Below w.heap.size w w') => check_any (decide (z < 0)) a (lenB z.natAbs) cap (dgi z.natAbs) w' (h.below hb) (by omega))
  rw [decide_eq_true (canon_ok z)] at CHK
  have CM1 := Lib.hid (fun (w' : World) (hb : Below w.heap.size w w') (a2 : Option Addr) (c2 : Nat) (h2 : Rd w' a2 (lenB mn.natAbs) (dgi mn.natAbs)) (hc2 : lenB mn.natAbs ≤ c2) => cmp_can z mn a cap a2 c2 w' (h.below hb) (by omega) hcap h2 (by omega) hc2)
  have CM2 := Lib.hid (fun (w' : World) (hb : Below w.heap.size w w') (a2 : Option Addr) (c2 : Nat) (h2 : Rd w' a2 (lenB mx.natAbs) (dgi mx.natAbs)) (hc2 : lenB mx.natAbs ≤ c2) => cmp_can z mx a cap a2 c2 w' (h.below hb) (by omega) hcap h2 (by omega) hc2)
  rw [e1] at CM1
  rw [e2] at CM2
  have HR := Lib.hid h
  have HB1 := Lib.hid (Bx.new w 24 (.bool (decide (z < 0))) (.slice a (lenB z.natAbs) cap))
  clear h e1 e2
  refine (callsIn_wide (n := 4)).1 (callsIn_of_wp_marks Tryz.func9 rfl trivial ?_ rfl)
  simp only [Tryz.ntmps9, List.size_toArray, List.length_cons, List.length_nil, Nat.reduceAdd, Nat.reduceSub, Array.replicate_succ, Array.replicate_zero, List.push_toArray, List.append_toArray, List.nil_append, List.cons_append]
  refine wpIn_wide.2 ?_
  go_wp2_with fail
  refine (CHK.out _ ?_).mono ?_
  · (repeat' (first | (with_reducible exact Below.refl _ _) | (with_reducible assumption) | (with_reducible refine Below.alloc ?_ ?_ _) | (with_reducible refine Below.drew ?_) | (with_reducible refine bdrewN ?_ _) | (with_reducible refine Below.setCell ?_ ?_ _) | (with_reducible refine Below.frame ?_ _) | go_size))
  rintro e w1 ⟨rfl, hb1⟩
  have HB1 := Lib.hid (HB1.out.below hb1 HB1.out.lt)
  have HG1 := Lib.hid (((Below.refl _ _).alloc (by go_size) _).trans (hb1.mono (by go_size)) : Below w.heap.size w w1)
  clear hb1
  obtain ⟨b10, b11, b12, b13⟩ := HB1.out.all
  go_upto_region 3 with (fail)
  have HS1 := Lib.hid (fun (w' : World) (hb : Below w1.heap.size w1 w') => And.intro (HB1.out.below hb HB1.out.lt).c0 (HB1.out.below hb HB1.out.lt).c1)
  refine wp_region_fresh 9 (spOf [(1, Sp.made (fun x : Option Addr => numV (decide (mn < 0)) x (lenB mn.natAbs) (lenB mn.natAbs)) (fun x w' => Own 54 w' w1.heap.size x (lenB mn.natAbs) (lenB mn.natAbs) (dgi mn.natAbs))), (2, Sp.know (.int .i64 c1)),
      (6, Sp.made (fun x : Option Addr => numV (decide (mx < 0)) x (lenB mx.natAbs) (lenB mx.natAbs)) (fun x w' => Own 54 w' w1.heap.size x (lenB mx.natAbs) (lenB mx.natAbs) (dgi mx.natAbs))), (7, Sp.know (.int .i64 c2))])
    (fun w' => Below w1.heap.size w1 w') (by kernel_rfl) (by kernel_rfl)
    (spOf_cons (Sp.made_keeps fun x w w' h hb => h.below hb) (spOf_cons (Sp.know_keeps _) (spOf_cons (Sp.made_keeps fun x w w' h hb => h.below hb) (spOf_cons (Sp.know_keeps _) spOf_nil)))) (fun _ _ h hb => h.trans (hb.mono h.size)) ((Below.refl _ _).drew) ?_
  simp only [List.take_succ_cons, List.take_zero, List.drop_succ_cons, List.drop_zero]
  (refine wpF_reads rfl rfl ?_ (fun w' hw' => ?_) ?_; rotate_left; · (have hb' := Has.world hw'; (have hs := HS1.out _ hb'); clear hw'; go_simp; try rfl))
  conv => arg 9; simp only [Act.put, List.setIfInBounds_toArray, List.set_cons_succ, List.set_cons_zero]
  (refine wpF_spec rfl rfl (fun w' hw' => ?_) ?_; · (have hb' := Has.world hw'; go_simp; ((refine (HOFN.out w').mono ?_; rintro e w'' ⟨a, rfl, ho, -, hb⟩; exact ⟨_, rfl, ⟨⟨a, rfl⟩, ⟨a, rfl, ho.mono hb'.size⟩⟩, hb⟩))))
  rintro _ ⟨x, rfl⟩
  conv => arg 9; simp only [Act.put, List.setIfInBounds_toArray, List.set_cons_succ, List.set_cons_zero]
  (refine wpF_spec rfl rfl (fun w' hw' => ?_) ?_; · (have hb' := Has.world hw'; go_simp; ((have h7 := own_num1 (T := 54) (a := x) (b := w1.heap.size) (s := decide (mn < 0)) (L := lenB mn.natAbs) (o := dgi mn.natAbs) (hw'.fact 1 (by kernel_rfl)); refine (CM1.out w' (HG1.out.trans (hb'.mono HG1.out.size)) x _ h7.rd (Nat.le_refl _)).mono ?_; rintro e w'' ⟨rfl, hb⟩; exact ⟨_, rfl, rfl, hb⟩))))
  rintro _ rfl
  conv => arg 9; simp only [Act.put, List.setIfInBounds_toArray, List.set_cons_succ, List.set_cons_zero]
  (refine wpF_reads rfl rfl ?_ (fun w' hw' => ?_) ?_; rotate_left; · (have hb' := Has.world hw'; (skip); clear hw'; go_simp; try rfl))
  conv => arg 9; simp only [Act.put, List.setIfInBounds_toArray, List.set_cons_succ, List.set_cons_zero]
  (refine wpF_reads rfl rfl ?_ (fun w' hw' => ?_) ?_; rotate_left; · (have hb' := Has.world hw'; (skip); clear hw'; go_simp; try rfl))
  conv => arg 9; simp only [Act.put, List.setIfInBounds_toArray, List.set_cons_succ, List.set_cons_zero]
  (refine wpF_readsG (by rfl) rfl ?_ (fun w' hw' => ?_) ?_; rotate_left; · (have hb' := Has.world hw'; (have hs := HS1.out _ hb'); clear hw'; go_simp; try rfl))
  conv => arg 9; simp only [Act.put, List.setIfInBounds_toArray, List.set_cons_succ, List.set_cons_zero]
  (refine wpF_gspec (by rfl) rfl (fun w' hw' => ?_) ?_; · (have hb' := Has.world hw'; go_simp; ((refine (HOFX.out w').mono ?_; rintro e w'' ⟨a, rfl, ho, -, hb⟩; exact ⟨_, rfl, ⟨⟨a, rfl⟩, ⟨a, rfl, ho.mono hb'.size⟩⟩, hb⟩))))
  rintro _ ⟨y, rfl⟩
  conv => arg 9; simp only [Act.put, List.setIfInBounds_toArray, List.set_cons_succ, List.set_cons_zero]
  (refine wpF_gspec (by rfl) rfl (fun w' hw' => ?_) ?_; · (have hb' := Has.world hw'; go_simp; ((have h7 := own_num1 (T := 54) (a := y) (b := w1.heap.size) (s := decide (mx < 0)) (L := lenB mx.natAbs) (o := dgi mx.natAbs) (hw'.fact 6 (by kernel_rfl)); refine (CM2.out w' (HG1.out.trans (hb'.mono HG1.out.size)) y _ h7.rd (Nat.le_refl _)).mono ?_; rintro e w'' ⟨rfl, hb⟩; exact ⟨_, rfl, rfl, hb⟩))))
  rintro _ rfl
  conv => arg 9; simp only [Act.put, List.setIfInBounds_toArray, List.set_cons_succ, List.set_cons_zero]
  (refine wpF_readsG (by rfl) rfl ?_ (fun w' hw' => ?_) ?_; rotate_left; · (have hb' := Has.world hw'; (skip); clear hw'; go_simp; try rfl))
  conv => arg 9; simp only [Act.put, List.setIfInBounds_toArray, List.set_cons_succ, List.set_cons_zero]
  refine wpF_nil (fun w2 hb2 hF5 => ?_)
  have HB2 := Lib.hid (HB1.out.below hb2 HB1.out.lt)
  have HG2 := Lib.hid (HG1.out.trans (hb2.mono HG1.out.size))
  clear hF5 hb2 HS1 CHK CM1 CM2 HOFN HOFX b10 b11 b12 b13
  obtain ⟨b10, b11, b12, b13⟩ := HB2.out.all
  go_wp2_with fail
  refine (bwd_any a (lenB z.natAbs) cap _).mono ?_
  rintro e W0 ⟨rfl, hW0⟩
  have hs0 : W0.heap.size = w2.heap.size + 2 := by rw [hW0]; simp
  have hB0 : Below w2.heap.size w2 W0 := by rw [hW0]; exact ((Below.refl _ w2).alloc (Nat.le_refl _) _).alloc (by simp) _
  have hc0 : W0.cell? ⟨w2.heap.size, 0, none⟩ = some (.int .i64 0) := by rw [hW0]; exact (((row_new w2 (.int .i64 0) 2).alloc _).cell (i := 0) (by omega))
  have hf0 : W0.frozen? ⟨w2.heap.size, 0, none⟩ = false := by rw [hW0]; exact (((row_new w2 (.int .i64 0) 2).alloc _).frozen 0)
  have hc1 : W0.rowIs (w2.heap.size + 1) 22 1 (fun _ => .slice a (lenB z.natAbs) cap) := by
    rw [hW0]; have := (row_new (w2.alloc (.cells #[.int .i64 0] 2)) (.slice a (lenB z.natAbs) cap) 22); rw [World.size_alloc] at this; exact this
  rw [World.size_alloc]
  clear hW0
  have hM := lt_pw_lenB z.natAbs
  have hR2 := HR.out.below HG2.out
  have hlt2 : ∀ p, a = some p → 0 < lenB z.natAbs → p.block < w2.heap.size := by
    intro p hp h0
    obtain ⟨b, off, hab, hcs⟩ := hR2.cells h0
    rw [hab] at hp; cases hp
    exact block_lt_of_cell (hcs 0 h0)
  have HH := Lib.hid (And.intro hM (And.intro hR2 hlt2))
  have HC0 := Lib.hid (And.intro hc0 (And.intro hf0 hc1))
  have HB0 := Lib.hid hB0
  have HS0 := Lib.hid hs0
  clear hM hR2 hlt2 hc0 hf0 hc1 hB0 hs0
  go_wp2_with fail
  refine (wpIn_wide (n := 4)).1 ?_
  refine wpIn_rangeFunc_ownF rfl (by omega) (gf := 95) (lb := #[.pointer (some ⟨w2.heap.size + 1, 0, none⟩)]) rfl trivial (enters_of Tryz.func95 (by kernel_rfl) rfl)
    (bwd_stops Fence.wide 3 trivial rfl (by omega) (w2.heap.size + 1) w2.heap.size z.natAbs (lenB z.natAbs) cap a (by omega) W0 HB0.out.size HC0.out.2.2 (HH.out.2.1.below HB0.out) HH.out.2.2) KpB.trans (KpB.back HB0.out.size HC0.out.2.2.lt) (Below.refl _ _) (fun _ => rfl)
    (fun pre W => (W.cell? ⟨w2.heap.size, 0, none⟩ = some (.int .i64 (wrap64 (gather z.natAbs pre))) ∧ W.frozen? ⟨w2.heap.size, 0, none⟩ = false) ∧ Below w2.heap.size w2 W)
    (fun _ _ _ => False)
    (OwnFrom.and (Go.Own.from (fun s A B row hs hg hr => ⟨cell_kept hs.1 hg hr, (frozen_kept hs.1 hg hr).trans hs.2⟩) _) (ownFrom_below (Nat.le_refl _) (by rw [HS0.out]; omega)))
    (fun _ _ _ _ _ hs _ _ => hs)
    ⟨⟨by rw [show gather z.natAbs [] = 0 from rfl, wrap64_in (by omega)]; exact HC0.out.1, HC0.out.2.1⟩, HB0.out⟩
    (fun k => { tmps := #[numV (decide (z < 0)) a (lenB z.natAbs) cap, .pointer (some ⟨w.heap.size, 0, none⟩), .int .i64 0, .int .i64 0, .pointer (some ⟨w2.heap.size, 0, none⟩), undef, .int .u32 (dgi z.natAbs k), .bool false, .agg #[.bool (decide (z < 0)), .slice a (lenB z.natAbs) cap], .bool true, .bool false, .bool false, .agg #[.bool (decide (z < 0)), .slice a (lenB z.natAbs) cap], numV (decide (mn < 0)) x (lenB mn.natAbs) (lenB mn.natAbs), .int .i64 c1, .bool false, .bool false, .agg #[.bool (decide (z < 0)), .slice a (lenB z.natAbs) cap], numV (decide (mx < 0)) y (lenB mx.natAbs) (lenB mx.natAbs), .int .i64 c2, .bool false, .bool false, .pointer (some ⟨w.heap.size, 1, none⟩), .slice a (lenB z.natAbs) cap, .func (.func 95) #[] #[.pointer (some ⟨w2.heap.size + 1, 0, none⟩)], .int .i64 (k : Int), .int .u32 (dgi z.natAbs k), undef, undef, undef, undef, undef, undef, undef, undef, undef, undef, undef], defers := [] }) ?assign ?body ?done ?stop
  case assign =>
    intro l k W K hK
    gi_wp2
    exact hK
  case body =>
    rintro l pre k W ⟨⟨hc, hf⟩, hB⟩ _
    have hd := dgi_Dig z.natAbs (k + 1) k (by omega)
    have u1 := IntWalk.i64_in (dgi z.natAbs k) (by omega)
    have HB := Lib.hid hB
    have hwr := wrap_step (gather z.natAbs pre) (dgi z.natAbs k)
    rw [← gather_snoc] at hwr
    have HW := Lib.hid hwr
    clear hwr hB
    gi_wp2
    refine ⟨KeepsOthers.setCell _ _ _, ⟨(Below.refl w2.heap.size W).setCell (p := ⟨w2.heap.size, 0, none⟩) (Nat.le_refl _) _, Below.heap_setCell _ _ _ _ (by dsimp only; omega)⟩, ⟨?_, by rw [World.frozen?_setCell]; exact hf⟩, HB.out.setCell (p := ⟨w2.heap.size, 0, none⟩) (Nat.le_refl _) _⟩
    rw [← HW.out]
    exact World.cell?_setCell_same' _ _ _ (by rw [hc]; rfl)
  case done =>
    rintro D ys W hD rfl ⟨⟨hc, hf⟩, hB⟩ hK
    rw [gather_all _ _ HH.out.1, wrap64_in (by have := HZ.out; omega)] at hc
    have B3 := HB2.out.below hB HB2.out.lt
    have HG3 := Lib.hid (HG2.out.trans (hB.mono HG2.out.size))
    obtain ⟨b30, b31, b32, b33⟩ := B3.all
    have HD := Lib.hid hD
    have HK := Lib.hid hK
    clear hD hK hB B3
    by_cases hneg : z < 0
    · have hdn : decide (z < 0) = true := decide_eq_true hneg
      have hval : -(z.natAbs : Int) = z := by omega
      rw [hval] at hc
      clear hneg hval
      go_wp2_with fail
      refine ⟨by simp, .inl ⟨_, _, rfl, run_takeDeferred HK.out, ?_⟩⟩
      exact ⟨_, results_tmp2 rfl _ _ _, rfl, HG3.out.trans (belowK_b (w := W0) (Nat.le_trans HG2.out.size HB0.out.size) _ D _ _ HD.out HK.out rfl rfl)⟩
    · have hdn : decide (z < 0) = false := decide_eq_false hneg
      have EW := Lib.hid (show wrap64 (z.natAbs : Int) = z by rw [wrap64_in (by have := HZ.out; omega)]; omega)
      clear hneg
      go_wp2_with fail
      have hK2 := (KeepsOthers.setCell W ⟨w2.heap.size, 0, none⟩ (.int .i64 (wrap64 (z.natAbs : Int)))).same D _ HK.out rfl
      refine ⟨by simp, .inl ⟨_, _, rfl, run_takeDeferred hK2, ?_⟩⟩
      exact ⟨_, results_tmp2 rfl _ _ _, by rw [EW.out]; rfl, (HG3.out.setCell (p := ⟨w2.heap.size, 0, none⟩) HG2.out.size _).trans (belowK_b (w := W0) (Nat.le_trans HG2.out.size HB0.out.size) _ D _ _ HD.out hK2 rfl rfl)⟩
  case stop =>
    rintro D c pre W _ _ h _
    exact h.elim
open Classical in
set_option maxHeartbeats 1000000 in
theorem back_bad (s : Bool) (a : Option Addr) (n cap : Nat) (o : Nat → Int) (w : World) (h : Rd w a n o) (hn : n ≤ 10000000) (hk : ¬ okN s n o) :
    Calls Tryz.prog 9 #[numV s a n cap] w fun e w' => e = .returned (.tuple #[.int .i64 0, .int .i64 1]) ∧ Below w.heap.size w w' := by
  have CHK := Lib.hid (fun (w' : World) (hb : Below w.heap.size w w') => check_any s a n cap o w' (h.below hb) (by omega))
  rw [decide_eq_false hk] at CHK
  clear hk h
  go_enter Tryz.func9, Tryz.ntmps9
  go_wp2_with fail
  refine (CHK.out _ ?_).mono ?_
  · (repeat' (first | (with_reducible exact Below.refl _ _) | (with_reducible assumption) | (with_reducible refine Below.alloc ?_ ?_ _) | (with_reducible refine Below.drew ?_) | (with_reducible refine bdrewN ?_ _) | (with_reducible refine Below.setCell ?_ ?_ _) | (with_reducible refine Below.frame ?_ _) | go_size))
  rintro e w1 ⟨rfl, hb1⟩
  have HG := Lib.hid (((Below.refl _ _).alloc (by go_size) _).trans (hb1.mono (by go_size)) : Below w.heap.size w w1)
  clear hb1 CHK
  go_wp2_with fail
  go_ret2
  exact ⟨rfl, HG.out⟩
open Classical in
set_option maxRecDepth 100000 in
set_option maxHeartbeats 2000000 in
theorem back_out (z : Int) (a : Option Addr) (cap : Nat) (w : World) (h : Rd w a (lenB z.natAbs) (dgi z.natAbs)) (hcap : lenB z.natAbs ≤ cap) (hL : lenB z.natAbs ≤ 10000000) (h12 : z < -9223372036854775808 ∨ 9223372036854775807 < z) :
    Calls Tryz.prog 9 #[numV (decide (z < 0)) a (lenB z.natAbs) cap] w fun e w' => e = .returned (.tuple #[.int .i64 0, .int .i64 3]) ∧ Below w.heap.size w w' := by
  obtain ⟨mn, hmn, OFN⟩ := of_min
  obtain ⟨mx, hmx, OFX⟩ := of_max
  have hL4 : lenB mn.natAbs ≤ 3 := len3 (by omega)
  have hL5 : lenB mx.natAbs ≤ 3 := len3 (by omega)
  have HOFN := Lib.hid OFN; have HOFX := Lib.hid OFX
  clear OFN OFX
  have CHK := Lib.hid (fun (w' : World) (hb : Below w.heap.size w w') => check_any (decide (z < 0)) a (lenB z.natAbs) cap (dgi z.natAbs) w' (h.below hb) (by omega))
  rw [decide_eq_true (canon_ok z)] at CHK
  have CM1 := Lib.hid (fun (w' : World) (hb : Below w.heap.size w w') (a2 : Option Addr) (c2 : Nat) (h2 : Rd w' a2 (lenB mn.natAbs) (dgi mn.natAbs)) (hc2 : lenB mn.natAbs ≤ c2) => cmp_can z mn a cap a2 c2 w' (h.below hb) (by omega) hcap h2 (by omega) hc2)
  have CM2 := Lib.hid (fun (w' : World) (hb : Below w.heap.size w w') (a2 : Option Addr) (c2 : Nat) (h2 : Rd w' a2 (lenB mx.natAbs) (dgi mx.natAbs)) (hc2 : lenB mx.natAbs ≤ c2) => cmp_can z mx a cap a2 c2 w' (h.below hb) (by omega) hcap h2 (by omega) hc2)
  have HR := Lib.hid h
  have HB1 := Lib.hid (Bx.new w 24 (.bool (decide (z < 0))) (.slice a (lenB z.natAbs) cap))
  clear h
  go_enter Tryz.func9, Tryz.ntmps9
  go_wp2_with fail
  refine (CHK.out _ ?_).mono ?_
  · (repeat' (first | (with_reducible exact Below.refl _ _) | (with_reducible assumption) | (with_reducible refine Below.alloc ?_ ?_ _) | (with_reducible refine Below.drew ?_) | (with_reducible refine bdrewN ?_ _) | (with_reducible refine Below.setCell ?_ ?_ _) | (with_reducible refine Below.frame ?_ _) | go_size))
  rintro e w1 ⟨rfl, hb1⟩
  have HB1 := Lib.hid (HB1.out.below hb1 HB1.out.lt)
  have HG1 := Lib.hid (((Below.refl _ _).alloc (by go_size) _).trans (hb1.mono (by go_size)) : Below w.heap.size w w1)
  clear hb1
  obtain ⟨b10, b11, b12, b13⟩ := HB1.out.all
  rcases h12 with h12 | h12
  · have e1 : cmpZ z mn = -1 := cmpZ_lt (by omega)
    rw [e1] at CM1
    clear hmn hmx
    go_upto_region 3 with (fail)
    have HS1 := Lib.hid (fun (w' : World) (hb : Below w1.heap.size w1 w') => And.intro (HB1.out.below hb HB1.out.lt).c0 (HB1.out.below hb HB1.out.lt).c1)
    refine wp_region_fresh 9 (spOf [(1, Sp.made (fun x : Option Addr => numV (decide (mn < 0)) x (lenB mn.natAbs) (lenB mn.natAbs)) (fun x w' => Own 54 w' w1.heap.size x (lenB mn.natAbs) (lenB mn.natAbs) (dgi mn.natAbs))), (2, Sp.know (.int .i64 (-1))),
        (6, Sp.made (fun x : Option Addr => numV (decide (mx < 0)) x (lenB mx.natAbs) (lenB mx.natAbs)) (fun x w' => Own 54 w' w1.heap.size x (lenB mx.natAbs) (lenB mx.natAbs) (dgi mx.natAbs))), (7, Sp.know (.int .i64 0))])
      (fun w' => Below w1.heap.size w1 w') (by kernel_rfl) (by kernel_rfl)
      (spOf_cons (Sp.made_keeps fun x w w' h hb => h.below hb) (spOf_cons (Sp.know_keeps _) (spOf_cons (Sp.made_keeps fun x w w' h hb => h.below hb) (spOf_cons (Sp.know_keeps _) spOf_nil)))) (fun _ _ h hb => h.trans (hb.mono h.size)) ((Below.refl _ _).drew) ?_
    simp only [List.take_succ_cons, List.take_zero, List.drop_succ_cons, List.drop_zero]
    (refine wpF_reads rfl rfl ?_ (fun w' hw' => ?_) ?_; rotate_left; · (have hb' := Has.world hw'; (have hs := HS1.out _ hb'); clear hw'; go_simp; try rfl))
    conv => arg 9; simp only [Act.put, List.setIfInBounds_toArray, List.set_cons_succ, List.set_cons_zero]
    (refine wpF_spec rfl rfl (fun w' hw' => ?_) ?_; · (have hb' := Has.world hw'; go_simp; ((refine (HOFN.out w').mono ?_; rintro e w'' ⟨a, rfl, ho, -, hb⟩; exact ⟨_, rfl, ⟨⟨a, rfl⟩, ⟨a, rfl, ho.mono hb'.size⟩⟩, hb⟩))))
    rintro _ ⟨x, rfl⟩
    conv => arg 9; simp only [Act.put, List.setIfInBounds_toArray, List.set_cons_succ, List.set_cons_zero]
    (refine wpF_spec rfl rfl (fun w' hw' => ?_) ?_; · (have hb' := Has.world hw'; go_simp; ((have h7 := own_num1 (T := 54) (a := x) (b := w1.heap.size) (s := decide (mn < 0)) (L := lenB mn.natAbs) (o := dgi mn.natAbs) (hw'.fact 1 (by kernel_rfl)); refine (CM1.out w' (HG1.out.trans (hb'.mono HG1.out.size)) x _ h7.rd (Nat.le_refl _)).mono ?_; rintro e w'' ⟨rfl, hb⟩; exact ⟨_, rfl, rfl, hb⟩))))
    rintro _ rfl
    conv => arg 9; simp only [Act.put, List.setIfInBounds_toArray, List.set_cons_succ, List.set_cons_zero]
    (refine wpF_reads rfl rfl ?_ (fun w' hw' => ?_) ?_; rotate_left; · (have hb' := Has.world hw'; (skip); clear hw'; go_simp; try rfl))
    conv => arg 9; simp only [Act.put, List.setIfInBounds_toArray, List.set_cons_succ, List.set_cons_zero]
    (refine wpF_reads rfl rfl ?_ (fun w' hw' => ?_) ?_; rotate_left; · (have hb' := Has.world hw'; (skip); clear hw'; go_simp; try rfl))
    conv => arg 9; simp only [Act.put, List.setIfInBounds_toArray, List.set_cons_succ, List.set_cons_zero]
    iterate 4 (refine wpF_skip (by rfl) ?_; conv => arg 9; simp only [Act.put, List.setIfInBounds_toArray, List.set_cons_succ, List.set_cons_zero])
    refine wpF_nil (fun w2 hb2 hF5 => ?_)
    have HG2 := Lib.hid (HG1.out.trans (hb2.mono HG1.out.size))
    clear hF5 hb2
    go_wp2_with fail
    go_ret2
    exact ⟨rfl, HG2.out⟩
  · have e2 : cmpZ z mx = 1 := cmpZ_gt (by omega)
    have hc1 : ∃ c, cmpZ z mn = c ∧ decide (c < 0) = false := ⟨_, rfl, decide_eq_false (by unfold cmpZ; split; omega; split <;> omega)⟩
    obtain ⟨c1, e1, g1⟩ := hc1
    rw [e1] at CM1
    rw [e2] at CM2
    clear hmn hmx e1
    go_upto_region 3 with (fail)
    have HS1 := Lib.hid (fun (w' : World) (hb : Below w1.heap.size w1 w') => And.intro (HB1.out.below hb HB1.out.lt).c0 (HB1.out.below hb HB1.out.lt).c1)
    refine wp_region_fresh 9 (spOf [(1, Sp.made (fun x : Option Addr => numV (decide (mn < 0)) x (lenB mn.natAbs) (lenB mn.natAbs)) (fun x w' => Own 54 w' w1.heap.size x (lenB mn.natAbs) (lenB mn.natAbs) (dgi mn.natAbs))), (2, Sp.know (.int .i64 c1)),
        (6, Sp.made (fun x : Option Addr => numV (decide (mx < 0)) x (lenB mx.natAbs) (lenB mx.natAbs)) (fun x w' => Own 54 w' w1.heap.size x (lenB mx.natAbs) (lenB mx.natAbs) (dgi mx.natAbs))), (7, Sp.know (.int .i64 1))])
      (fun w' => Below w1.heap.size w1 w') (by kernel_rfl) (by kernel_rfl)
      (spOf_cons (Sp.made_keeps fun x w w' h hb => h.below hb) (spOf_cons (Sp.know_keeps _) (spOf_cons (Sp.made_keeps fun x w w' h hb => h.below hb) (spOf_cons (Sp.know_keeps _) spOf_nil)))) (fun _ _ h hb => h.trans (hb.mono h.size)) ((Below.refl _ _).drew) ?_
    simp only [List.take_succ_cons, List.take_zero, List.drop_succ_cons, List.drop_zero]
    (refine wpF_reads rfl rfl ?_ (fun w' hw' => ?_) ?_; rotate_left; · (have hb' := Has.world hw'; (have hs := HS1.out _ hb'); clear hw'; go_simp; try rfl))
    conv => arg 9; simp only [Act.put, List.setIfInBounds_toArray, List.set_cons_succ, List.set_cons_zero]
    (refine wpF_spec rfl rfl (fun w' hw' => ?_) ?_; · (have hb' := Has.world hw'; go_simp; ((refine (HOFN.out w').mono ?_; rintro e w'' ⟨a, rfl, ho, -, hb⟩; exact ⟨_, rfl, ⟨⟨a, rfl⟩, ⟨a, rfl, ho.mono hb'.size⟩⟩, hb⟩))))
    rintro _ ⟨x, rfl⟩
    conv => arg 9; simp only [Act.put, List.setIfInBounds_toArray, List.set_cons_succ, List.set_cons_zero]
    (refine wpF_spec rfl rfl (fun w' hw' => ?_) ?_; · (have hb' := Has.world hw'; go_simp; ((have h7 := own_num1 (T := 54) (a := x) (b := w1.heap.size) (s := decide (mn < 0)) (L := lenB mn.natAbs) (o := dgi mn.natAbs) (hw'.fact 1 (by kernel_rfl)); refine (CM1.out w' (HG1.out.trans (hb'.mono HG1.out.size)) x _ h7.rd (Nat.le_refl _)).mono ?_; rintro e w'' ⟨rfl, hb⟩; exact ⟨_, rfl, rfl, hb⟩))))
    rintro _ rfl
    conv => arg 9; simp only [Act.put, List.setIfInBounds_toArray, List.set_cons_succ, List.set_cons_zero]
    (refine wpF_reads rfl rfl ?_ (fun w' hw' => ?_) ?_; rotate_left; · (have hb' := Has.world hw'; (skip); clear hw'; go_simp; try rfl))
    conv => arg 9; simp only [Act.put, List.setIfInBounds_toArray, List.set_cons_succ, List.set_cons_zero]
    (refine wpF_reads rfl rfl ?_ (fun w' hw' => ?_) ?_; rotate_left; · (have hb' := Has.world hw'; (skip); clear hw'; go_simp; try rfl))
    conv => arg 9; simp only [Act.put, List.setIfInBounds_toArray, List.set_cons_succ, List.set_cons_zero]
    (refine wpF_readsG (by rfl) rfl ?_ (fun w' hw' => ?_) ?_; rotate_left; · (have hb' := Has.world hw'; (have hs := HS1.out _ hb'); clear hw'; go_simp; try rfl))
    conv => arg 9; simp only [Act.put, List.setIfInBounds_toArray, List.set_cons_succ, List.set_cons_zero]
    (refine wpF_gspec (by rfl) rfl (fun w' hw' => ?_) ?_; · (have hb' := Has.world hw'; go_simp; ((refine (HOFX.out w').mono ?_; rintro e w'' ⟨a, rfl, ho, -, hb⟩; exact ⟨_, rfl, ⟨⟨a, rfl⟩, ⟨a, rfl, ho.mono hb'.size⟩⟩, hb⟩))))
    rintro _ ⟨y, rfl⟩
    conv => arg 9; simp only [Act.put, List.setIfInBounds_toArray, List.set_cons_succ, List.set_cons_zero]
    (refine wpF_gspec (by rfl) rfl (fun w' hw' => ?_) ?_; · (have hb' := Has.world hw'; go_simp; ((have h7 := own_num1 (T := 54) (a := y) (b := w1.heap.size) (s := decide (mx < 0)) (L := lenB mx.natAbs) (o := dgi mx.natAbs) (hw'.fact 6 (by kernel_rfl)); refine (CM2.out w' (HG1.out.trans (hb'.mono HG1.out.size)) y _ h7.rd (Nat.le_refl _)).mono ?_; rintro e w'' ⟨rfl, hb⟩; exact ⟨_, rfl, rfl, hb⟩))))
    rintro _ rfl
    conv => arg 9; simp only [Act.put, List.setIfInBounds_toArray, List.set_cons_succ, List.set_cons_zero]
    (refine wpF_readsG (by rfl) rfl ?_ (fun w' hw' => ?_) ?_; rotate_left; · (have hb' := Has.world hw'; (skip); clear hw'; go_simp; try rfl))
    conv => arg 9; simp only [Act.put, List.setIfInBounds_toArray, List.set_cons_succ, List.set_cons_zero]
    refine wpF_nil (fun w2 hb2 hF5 => ?_)
    have HG2 := Lib.hid (HG1.out.trans (hb2.mono HG1.out.size))
    clear hF5 hb2
    go_wp2_with fail
    go_ret2
    exact ⟨rfl, HG2.out⟩
noncomputable def backE (s : Bool) (n : Nat) (o : Nat → Int) : Int := open Classical in if okN s n o then (if -9223372036854775808 ≤ valN s n o ∧ valN s n o ≤ 9223372036854775807 then 0 else 3) else 1
noncomputable def backV (s : Bool) (n : Nat) (o : Nat → Int) : Int := if backE s n o = 0 then valN s n o else 0
theorem back_any (s : Bool) (a : Option Addr) (n cap : Nat) (o : Nat → Int) (w : World) (h : Rd w a n o) (hn : n ≤ 10000000) (hc : n ≤ cap) :
    Calls Tryz.prog 9 #[numV s a n cap] w fun e w' => e = .returned (.tuple #[.int .i64 (backV s n o), .int .i64 (backE s n o)]) ∧ Below w.heap.size w w' := by
  by_cases hk : okN s n o
  · obtain ⟨f1, f2, f3⟩ := of_facts s n o hk h.rng
    by_cases hz : -9223372036854775808 ≤ valN s n o ∧ valN s n o ≤ 9223372036854775807
    · have e1 : backE s n o = 0 := by unfold backE; rw [if_pos hk, if_pos hz]
      have e2 : backV s n o = valN s n o := by unfold backV; rw [if_pos e1]
      rw [e1, e2]
      have hh := back_ok (valN s n o) a cap w (by rw [f2]; exact h.congr f3) (by omega) hz.1 hz.2
      rw [f1, f2] at hh
      exact hh
    · have e1 : backE s n o = 3 := by unfold backE; rw [if_pos hk, if_neg hz]
      have e2 : backV s n o = 0 := by unfold backV; rw [e1]; rfl
      rw [e1, e2]
      have hh := back_out (valN s n o) a cap w (by rw [f2]; exact h.congr f3) (by omega) (by omega) (by omega)
      rw [f1, f2] at hh
      exact hh
  · have e1 : backE s n o = 1 := by unfold backE; rw [if_neg hk]
    have e2 : backV s n o = 0 := by unfold backV; rw [e1]; rfl
    rw [e1, e2]
    exact back_bad s a n cap o w h hn hk
end Go.Proofs.YtefjjhfahebmeaaGreatDoor.Limb
namespace Go.Proofs.YtefjjhfahebmeaaGreatDoor.Limb
open Go.RowKit Go.Sort Go.Fresh
structure RdS (w : World) (lo hi : Nat) (a : Option Addr) (n : Nat) (o : Nat → Int) : Prop where
  rd : Rd w a n o
  far : 0 < n → ∀ p, a = some p → p.block < lo ∨ hi ≤ p.block
theorem RdS.below {w w' : World} {lo hi : Nat} {a : Option Addr} {n : Nat} {o : Nat → Int} (h : RdS w lo hi a n o) (hb : Below w.heap.size w w') : RdS w' lo hi a n o := ⟨h.rd.below hb, h.far⟩
theorem RdS.set {w : World} {lo hi : Nat} {a : Option Addr} {n : Nat} {o : Nat → Int} (h : RdS w lo hi a n o) {p : Addr} (h1 : lo ≤ p.block) (h2 : p.block < hi) (v : Value) : RdS (w.setCell p v) lo hi a n o := by
  refine ⟨⟨fun hn => ?_, h.rd.rng⟩, h.far⟩
  obtain ⟨b, off, ha, hc⟩ := h.rd.cells hn
  refine ⟨b, off, ha, fun i hi' => ?_⟩
  have hf := h.far hn _ ha
  dsimp only at hf
  rw [← hc i hi']
  exact World.cell?_of_block (Below.heap_setCell _ _ _ _ (by dsimp only; omega))
structure Nm (w : World) (lo hi : Nat) (z : Int) (a : Option Addr) (c : Nat) : Prop where
  r : RdS w lo hi a (lenB z.natAbs) (dgi z.natAbs)
  le : lenB z.natAbs ≤ c
  small : lenB z.natAbs ≤ 10000000
theorem Nm.below {w w' : World} {lo hi : Nat} {z : Int} {a : Option Addr} {c : Nat} (h : Nm w lo hi z a c) (hb : Below w.heap.size w w') : Nm w' lo hi z a c := ⟨h.r.below hb, h.le, h.small⟩
theorem Nm.set {w : World} {lo hi : Nat} {z : Int} {a : Option Addr} {c : Nat} (h : Nm w lo hi z a c) {p : Addr} (h1 : lo ≤ p.block) (h2 : p.block < hi) (v : Value) : Nm (w.setCell p v) lo hi z a c := ⟨h.r.set h1 h2 v, h.le, h.small⟩
def gmeas (w : World) (b : Nat) : Nat := match w.cell? ⟨b, 1, none⟩ with
  | some (.slice (some p) n _) => (sumB (fun i => match w.cell? ⟨p.block, p.off + i, none⟩ with | some (.int _ d) => d | _ => 0) n).toNat
  | _ => 0
def Bxs (w : World) (b : Nat) (t : TypeId) (l : List Value) : Prop := w.heap[b]? = some (.cells l.toArray t (0, 0))
theorem Bxs.cell {w : World} {b : Nat} {t : TypeId} {l : List Value} (h : Bxs w b t l) {i : Nat} {v : Value} (hi : l[i]? = some v) : w.cell? ⟨b, i, none⟩ = some v := by
  rw [cell_of_row _ _ _ _ _ _ h]
  simpa using hi
theorem Bxs.fz {w : World} {b : Nat} {t : TypeId} {l : List Value} (h : Bxs w b t l) (i : Nat) : w.frozen? ⟨b, i, none⟩ = false := by
  simp only [World.frozen?]
  have h' : w.heap[b]? = some (.cells l.toArray t (0, 0)) := h
  simp [h']
theorem Bxs.lt {w : World} {b : Nat} {t : TypeId} {l : List Value} (h : Bxs w b t l) : b < w.heap.size := (Array.getElem?_eq_some_iff.1 h).1
theorem Bxs.of {w w' : World} {b : Nat} {t : TypeId} {l : List Value} (h : Bxs w b t l) (e : w'.heap[b]? = w.heap[b]?) : Bxs w' b t l := e.trans h
theorem Bxs.below {W w : World} {b B : Nat} {t : TypeId} {l : List Value} (h : Bxs W b t l) (hb : Below B W w) (hlt : b < B) : Bxs w b t l := h.of (hb.block b hlt)
theorem Bxs.alloc {w : World} {b : Nat} {t : TypeId} {l : List Value} (h : Bxs w b t l) (o : Obj) : Bxs (w.alloc o) b t l := h.of (heap_alloc_old w o h.lt)
theorem Bxs.other {w : World} {b : Nat} {t : TypeId} {l : List Value} (h : Bxs w b t l) {a : Addr} (ha : b ≠ a.block) (v : Value) : Bxs (w.setCell a v) b t l := h.of (Below.heap_setCell _ _ _ _ ha)
theorem Bxs.new (w : World) (t : TypeId) (l : List Value) : Bxs (w.alloc (.cells l.toArray t)) w.heap.size t l := heap_alloc_new w _
theorem Bxs.put {w : World} {b : Nat} {t : TypeId} {l : List Value} (h : Bxs w b t l) (i : Nat) (v : Value) : Bxs (w.setCell ⟨b, i, none⟩ v) b t (l.set i v) := by
  have h1 := heap_setCell_same w b i l.toArray t v h
  rw [List.setIfInBounds_toArray] at h1
  exact h1
theorem Bxs.drew {w : World} {b : Nat} {t : TypeId} {l : List Value} (h : Bxs w b t l) : Bxs w.drew b t l := h
abbrev fracV (s1 : Bool) (a1 : Option Addr) (n1 c1 : Nat) (s2 : Bool) (a2 : Option Addr) (n2 c2 : Nat) : Value := .agg #[.bool s1, .slice a1 n1 c1, .bool s2, .slice a2 n2 c2]
end Go.Proofs.YtefjjhfahebmeaaGreatDoor.Limb
