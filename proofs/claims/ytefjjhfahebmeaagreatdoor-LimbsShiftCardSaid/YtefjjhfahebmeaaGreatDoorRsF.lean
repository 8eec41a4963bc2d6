/-
  Variables of several cells; lists that lie outside some blocks; fractions as values.
-/
import Derived.Test.YtefjjhfahebmeaaGreatDoorRsD
import Derived.RangeFuncBox
import Derived.RangeFuncLeaves
import Derived.RangeFuncFrom
import Derived.Shelf.Abstract
import Derived.OwnWalkIn
import Derived.TacticsInMore
import Derived.LoopNIn
import Derived.LoopIn
set_option linter.unusedSimpArgs false
set_option linter.unusedVariables false
namespace Go.Proofs.YtefjjhfahebmeaaGreatDoor.Limb
open Go.RowKit Go.Sort Go.Shelf
attribute [local go_sem] Oper.semAt_some
def down (n k : Nat) : List Nat := (List.range k).map fun j => n - 1 - j
theorem down_succ (n k : Nat) : down n (k + 1) = down n k ++ [n - 1 - k] := by simp [down, List.range_succ]
theorem down_length (n k : Nat) : (down n k).length = k := by simp [down]
def gather (M : Nat) (l : List Nat) : Int := l.foldl (fun h x => h * 1000000000 - dgi M x) 0
theorem gather_snoc (M : Nat) (l : List Nat) (x : Nat) : gather M (l ++ [x]) = gather M l * 1000000000 - dgi M x := by simp [gather]
theorem gather_down (M n : Nat) (h : M < pw n) : ∀ k, k ≤ n → gather M (down n k) = -((M / pw (n - k) : Nat) : Int) := by
  intro k
  induction k with
  | zero => intro _; rw [Nat.sub_zero, Nat.div_eq_of_lt h]; rfl
  | succ k ih =>
    intro hk
    rw [down_succ, gather_snoc, ih (by omega)]
    obtain ⟨j, hj⟩ : ∃ j, n - (k + 1) = j := ⟨_, rfl⟩
    rw [hj, show n - k = j + 1 by omega, show n - 1 - k = j by omega]
    have e : M / pw (j + 1) = M / pw j / 1000000000 := by rw [pw_succ, Nat.div_div_eq_div_mul]
    have e2 : dgi M j = ((M / pw j % 1000000000 : Nat) : Int) := rfl
    rw [e, e2]
    omega
theorem gather_all (M n : Nat) (h : M < pw n) : gather M (down n n) = -(M : Int) := by
  rw [gather_down M n h n (Nat.le_refl _), Nat.sub_self, pw_zero, Nat.div_one]
def KpB (n₀ Bs : Nat) (A B : World) : Prop := Below n₀ A B ∧ B.heap[Bs]? = A.heap[Bs]?
theorem KpB.refl (n₀ Bs : Nat) (A : World) : KpB n₀ Bs A A := ⟨Below.refl _ _, rfl⟩
theorem KpB.trans {n₀ Bs : Nat} {A B C : World} (h : KpB n₀ Bs A B) (k : KpB n₀ Bs B C) : KpB n₀ Bs A C := ⟨h.1.trans k.1, k.2.trans h.2⟩
theorem KpB.back {n₀ Bs : Nat} {w : World} (hn : n₀ ≤ w.heap.size) (hB : Bs < w.heap.size) (W : World) (l : Nat) (o o' : Obj) (hl : w.heap.size ≤ l) (h : W.heap[l]? = some o) (h1 : o.isCells = false) (h2 : o.isWalk = false) : KpB n₀ Bs W (W.putObj l o') := by
  refine ⟨belowK_b hn W l o o' hl h h1 h2, ?_⟩
  have hg := grownBy_putObj' W l o'
  by_cases hlt : Bs < W.heap.size
  · exact hg.block Bs hlt (fun e => by cases e; omega)
  · have hlw : l < W.heap.size := (Array.getElem?_eq_some_iff.1 h).1
    omega
set_option maxHeartbeats 400000 in
theorem bwd_any (a : Option Addr) (n c : Nat) (w : World) :
    Calls Tryz.prog 31 #[.slice a n c] w fun e w' => e = .returned (.func (.func 95) #[] #[.pointer (some ⟨w.heap.size, 0, none⟩)]) ∧ w' = w.alloc (.cells #[.slice a n c] 22) := by
  go_enter Tryz.func31, Tryz.ntmps31
  go_wp2
  go_ret
  exact ⟨rfl, rfl⟩
set_option maxRecDepth 100000 in
set_option maxHeartbeats 2000000 in
theorem bwd1_in (F : Fence) (m : Nat) (hf : F.fn 95) (hro : F.round = none) (hm : 1 ≤ m) (l Bs n₀ M n cap : Nat) (a : Option Addr) (hn : n ≤ 1000000000) (J Jx : List Nat → World → Prop)
    (hY : ∀ pre (x : Nat) W, J pre W → pre.length < n → YieldAt F (m - 1) Tryz.prog l #[.int .i64 (x : Int), .int .u32 (dgi M x)] W fun e W' =>
      (e = .returned (.bool true) ∧ J (pre ++ [x]) W' ∧ KpB n₀ Bs W W') ∨ (e = .returned (.bool false) ∧ Jx (pre ++ [x]) W'))
    (W : World) (hBs : W.rowIs Bs 22 1 (fun _ => .slice a n cap)) (hR : Rd W a n (dgi M)) (hRn : ∀ p, a = some p → 0 < n → p.block < n₀) (h0 : J [] W) :
    CallsIn F m Tryz.prog 95 #[.func (.yield l) #[] #[], .pointer (some ⟨Bs, 0, none⟩)] W fun e W' => (∃ v, e = .returned v) ∧
      ((∃ ys, ys = down n n ∧ J ys W') ∨ (∃ pre, (∃ k, k ≤ n ∧ pre = down n k) ∧ Jx pre W')) := by
  have hbs0 : W.cell? ⟨Bs, 0, none⟩ = some (.slice a n cap) := hBs.cell (i := 0) (by omega)
  refine callsIn_of_wp Tryz.func95 rfl hf ?_ hro
  simp only [Tryz.ntmps95, List.size_toArray, List.length_cons, List.length_nil, Nat.reduceAdd, Nat.reduceSub, Array.replicate_succ, Array.replicate_zero, List.push_toArray, List.append_toArray, List.nil_append, List.cons_append]
  gi_wp2
  gi_loopw [3] (fun i wr => ∃ k : Nat, k ≤ n ∧ i = .int .i64 ((n : Int) - 1 - k) ∧ J (down n k) wr ∧ KpB n₀ Bs W wr)
    (fun i _ => (intOf i + 1).toNat)
  case atStart => exact ⟨0, Nat.zero_le _, by simp, h0, KpB.refl _ _ _⟩
  case round =>
    obtain ⟨k, hk, rfl, hJs, hnx⟩ := hrel
    have hbs : wr.cell? ⟨Bs, 0, none⟩ = some (.slice a n cap) := (hBs.of_block hnx.2).cell (i := 0) (by omega)
    by_cases hlt : k < n
    · obtain ⟨b, off, rfl, hcs⟩ := hR.cells (by omega)
      obtain ⟨j, hj⟩ : ∃ j, n - 1 - k = j := ⟨_, rfl⟩
      have hcx : wr.cell? ⟨b, off + j, none⟩ = some (.int .u32 (dgi M j)) := (hnx.1.cell (p := ⟨b, off + j, none⟩) (hRn ⟨b, off, none⟩ rfl (by omega))).trans (hcs j (by omega))
      obtain ⟨fn, tmps, assign, body, hy, hR2⟩ := hY _ j wr hJs (by rw [down_length]; exact hlt)
      have hdj : ((n : Int) - 1 - (k : Int)) = (j : Int) := by omega
      have hjn : (j : Int) < (n : Int) := by omega
      have hds : down n k ++ [j] = down n (k + 1) := by rw [down_succ, hj]
      rw [hds] at hR2
      rw [hdj]
      clear hcs hds
      gi_wp2
      refine hR2.mono ?_
      rintro e W3 (⟨rfl, hJ3, hk3⟩ | ⟨rfl, hJx3⟩)
      · gi_wp2
        go_roundw
        case rel => exact ⟨k + 1, by omega, by congr 1; omega, hJ3, hnx.trans hk3⟩
        case measure => first | (simp [intOf]; omega) | (simp [intOf]; done)
      · gi_wp2
        refine bodyPost_ret (results_none rfl _ _ _) rfl ?_
        exact ⟨⟨_, rfl⟩, .inr ⟨_, ⟨k + 1, by omega, rfl⟩, hJx3⟩⟩
    · obtain rfl : k = n := by omega
      have hdj : ((k : Int) - 1 - (k : Int)) = -1 := by omega
      rw [hdj]
      gi_wp2
      go_end0
      exact ⟨⟨_, rfl⟩, .inl ⟨_, rfl, hJs⟩⟩
theorem bwd_stops (F : Fence) (m : Nat) (hf : F.fn 95) (hro : F.round = none) (hm : 1 ≤ m) (Bs n₀ M n cap : Nat) (a : Option Addr) (hn : n ≤ 1000000000) (w : World) (hn₀ : n₀ ≤ w.heap.size)
    (hc : w.rowIs Bs 22 1 (fun _ => .slice a n cap)) (hR : Rd w a n (dgi M)) (hRn : ∀ p, a = some p → 0 < n → p.block < n₀) :
    SeqStopsK F m Tryz.prog 95 #[.pointer (some ⟨Bs, 0, none⟩)] (fun x : Nat => #[Value.int .i64 (x : Int), Value.int .u32 (dgi M x)]) (KpB n₀ Bs) (fun ys => ys = down n n) (fun pre => ∃ k, k ≤ n ∧ pre = down n k) n w := fun l J Jx W hW _ _ hY h0 =>
  bwd1_in F m hf hro hm l Bs n₀ M n cap a hn J Jx hY W (hc.of_block (hW.block _ hc.lt)) (hR.below hW) hRn h0
end Go.Proofs.YtefjjhfahebmeaaGreatDoor.Limb
namespace Go.Proofs.YtefjjhfahebmeaaGreatDoor.Limb
open Go.RowKit Go.Sort Go.Fresh Go.Shelf
attribute [local go_sem] Oper.semAt_some
theorem of_min : ∃ mn : Int, mn = -9223372036854775808 ∧ ∀ w, Calls Tryz.prog 13 #[.int .i64 (-9223372036854775808)] w (ResN w mn) := ⟨_, rfl, fun w => of64_any _ w (by omega) (by omega)⟩
theorem of_max : ∃ mx : Int, mx = 9223372036854775807 ∧ ∀ w, Calls Tryz.prog 13 #[.int .i64 9223372036854775807] w (ResN w mx) := ⟨_, rfl, fun w => of64_any _ w (by omega) (by omega)⟩
theorem cmp_can (z y : Int) (a : Option Addr) (c : Nat) (a2 : Option Addr) (c2 : Nat) (w : World) (h1 : Rd w a (lenB z.natAbs) (dgi z.natAbs)) (hn1 : lenB z.natAbs ≤ 100000000) (hc1 : lenB z.natAbs ≤ c) (h2 : Rd w a2 (lenB y.natAbs) (dgi y.natAbs)) (hn2 : lenB y.natAbs ≤ 100000000) (hc2 : lenB y.natAbs ≤ c2) :
    Calls Tryz.prog 30 #[numV (decide (z < 0)) a (lenB z.natAbs) c, numV (decide (y < 0)) a2 (lenB y.natAbs) c2] w fun e w' => e = .returned (.int .i64 (cmpZ z y)) ∧ Below w.heap.size w w' := by
  have h := cmp_any (decide (z < 0)) a (lenB z.natAbs) c (dgi z.natAbs) (decide (y < 0)) a2 (lenB y.natAbs) c2 (dgi y.natAbs) w h1 hn1 hc1 h2 hn2 hc2
  rw [canon_val, canon_val] at h
  exact h
theorem wrap_step (g d : Int) : wrap64 (wrap64 (wrap64 g * 1000000000) - d) = wrap64 (g * 1000000000 - d) := by
  unfold wrap64
  omega
theorem wrap64_in {x : Int} (h : -9223372036854775808 ≤ x ∧ x ≤ 9223372036854775807) : wrap64 x = x := by
  unfold wrap64
  omega
theorem row_new (w : World) (v : Value) (t : TypeId) : (w.alloc (.cells #[v] t)).rowIs w.heap.size t 1 (fun _ => v) := World.rowIs_alloc w #[v] t (fun _ => v) (fun i hi => by
  match i, hi with
  | 0, _ => rfl)
theorem own_num1 {T L b : Nat} {s : Bool} {a : Option Addr} {o : Nat → Int} {w : World} (h : ∃ x : Option Addr, numV s a L L = numV s x L L ∧ Own T w b x L L o) : Own T w b a L L o := by
  obtain ⟨x, e, h1⟩ := h
  simp only [numV, Value.agg.injEq, Array.mk.injEq, List.cons.injEq, Value.slice.injEq, and_true, true_and] at e
  rw [e]; exact h1
open Classical in
set_option maxRecDepth 100000 in
set_option maxHeartbeats 2000000 in
theorem back_ok (z : Int) (a : Option Addr) (cap : Nat) (w : World) (h : Rd w a (lenB z.natAbs) (dgi z.natAbs)) (hcap : lenB z.natAbs ≤ cap) (h1 : -9223372036854775808 ≤ z) (h2 : z ≤ 9223372036854775807) :
    Calls Tryz.prog 9 #[numV (decide (z < 0)) a (lenB z.natAbs) cap] w fun e w' => e = .returned (.tuple #[.int .i64 z, .int .i64 0]) ∧ Below w.heap.size w w' := by
  have HZ := Lib.hid (And.intro h1 h2)
  have hL3 : lenB z.natAbs ≤ 3 := len3 (by omega)
  obtain ⟨mn, hmn, OFN⟩ := of_min
  obtain ⟨mx, hmx, OFX⟩ := of_max
  have hL4 : lenB mn.natAbs ≤ 3 := len3 (by omega)
  have hL5 : lenB mx.natAbs ≤ 3 := len3 (by omega)
  have hc1 : ∃ c, cmpZ z mn = c ∧ decide (c < 0) = false := ⟨_, rfl, decide_eq_false (by unfold cmpZ; split; omega; split <;> omega)⟩
  have hc2 : ∃ c, cmpZ z mx = c ∧ decide (0 < c) = false := ⟨_, rfl, decide_eq_false (by unfold cmpZ; split; omega; split <;> omega)⟩
  obtain ⟨c1, e1, g1⟩ := hc1
  obtain ⟨c2, e2, g2⟩ := hc2
  have HOFN := Lib.hid OFN; have HOFX := Lib.hid OFX
  clear h1 h2 OFN OFX hmn hmx
  have CHK := Lib.hid (fun (w' : World) (hb : Below w.heap.size w w') => check_any (decide (z < 0)) a (lenB z.natAbs) cap (dgi z.natAbs) w' (h.below hb) (by omega))
  rw [decide_eq_true (canon_ok z)] at CHK
  have CM1 := Lib.hid (fun (w' : World) (hb : Below w.heap.size w w') (a2 : Option Addr) (c2 : Nat) (h2 : Rd w' a2 (lenB mn.natAbs) (dgi mn.natAbs)) (hc2 : lenB mn.natAbs ≤ c2) => cmp_can z mn a cap a2 c2 w' (h.below hb) (by omega) hcap h2 (by omega) hc2)
  have CM2 := Lib.hid (fun (w' : World) (hb : Below w.heap.size w w') (a2 : Option Addr) (c2 : Nat) (h2 : Rd w' a2 (lenB mx.natAbs) (dgi mx.natAbs)) (hc2 : lenB mx.natAbs ≤ c2) => cmp_can z mx a cap a2 c2 w' (h.below hb) (by omega) hcap h2 (by omega) hc2)
  rw [e1] at CM1
  rw [e2] at CM2
  have HR := Lib.hid h
  have HB1 := Lib.hid (Bx.new w 24 (.bool (decide (z < 0))) (.slice a (lenB z.natAbs) cap))
  clear h e1 e2
  refine (callsIn_wide (n := 4)).1 (callsIn_of_wp_marks Tryz.func9 rfl trivial ?_ rfl)
  simp only [Tryz.ntmps9, List.size_toArray, List.length_cons, List.length_nil, Nat.reduceAdd, Nat.reduceSub, Array.replicate_succ, Array.replicate_zero, List.push_toArray, List.append_toArray, List.nil_append, List.cons_append]
  refine wpIn_wide.2 ?_
  go_wp2_with fail
  refine (CHK.out _ ?_).mono ?_
  · (repeat' (first | (with_reducible exact Below.refl _ _) | (with_reducible assumption) | (with_reducible refine Below.alloc ?_ ?_ _) | (with_reducible refine Below.drew ?_) | (with_reducible refine bdrewN ?_ _) | (with_reducible refine Below.setCell ?_ ?_ _) | (with_reducible refine Below.frame ?_ _) | go_size))
  rintro e w1 ⟨rfl, hb1⟩
  have HB1 := Lib.hid (HB1.out.below hb1 HB1.out.lt)
  have HG1 := Lib.hid (((Below.refl _ _).alloc (by go_size) _).trans (hb1.mono (by go_size)) : Below w.heap.size w w1)
  clear hb1
  obtain ⟨b10, b11, b12, b13⟩ := HB1.out.all
  go_upto_region 3 with (fail)
  have HS1 := Lib.hid (fun (w' : World) (hb : Below w1.heap.size w1 w') => And.intro (HB1.out.below hb HB1.out.lt).c0 (HB1.out.below hb HB1.out.lt).c1)
  refine wp_region_fresh 9 (spOf [(1, Sp.made (fun x : Option Addr => numV (decide (mn < 0)) x (lenB mn.natAbs) (lenB mn.natAbs)) (fun x w' => Own 54 w' w1.heap.size x (lenB mn.natAbs) (lenB mn.natAbs) (dgi mn.natAbs))), (2, Sp.know (.int .i64 c1)),
      (6, Sp.made (fun x : Option Addr => numV (decide (mx < 0)) x (lenB mx.natAbs) (lenB mx.natAbs)) (fun x w' => Own 54 w' w1.heap.size x (lenB mx.natAbs) (lenB mx.natAbs) (dgi mx.natAbs))), (7, Sp.know (.int .i64 c2))])
    (fun w' => Below w1.heap.size w1 w') (by kernel_rfl) (by kernel_rfl)
    (spOf_cons (Sp.made_keeps fun x w w' h hb => h.below hb) (spOf_cons (Sp.know_keeps _) (spOf_cons (Sp.made_keeps fun x w w' h hb => h.below hb) (spOf_cons (Sp.know_keeps _) spOf_nil)))) (fun _ _ h hb => h.trans (hb.mono h.size)) ((Below.refl _ _).drew) ?_
  simp only [List.take_succ_cons, List.take_zero, List.drop_succ_cons, List.drop_zero]
  (refine wpF_reads rfl rfl ?_ (fun w' hw' => ?_) ?_; rotate_left; · (have hb' := Has.world hw'; (have hs := HS1.out _ hb'); clear hw'; go_simp; try rfl))
  conv => arg 9; simp only [Act.put, List.setIfInBounds_toArray, List.set_cons_succ, List.set_cons_zero]
  (refine wpF_spec rfl rfl (fun w' hw' => ?_) ?_; · (have hb' := Has.world hw'; go_simp; ((refine (HOFN.out w').mono ?_; rintro e w'' ⟨a, rfl, ho, -, hb⟩; exact ⟨_, rfl, ⟨⟨a, rfl⟩, ⟨a, rfl, ho.mono hb'.size⟩⟩, hb⟩))))
  rintro _ ⟨x, rfl⟩
  conv => arg 9; simp only [Act.put, List.setIfInBounds_toArray, List.set_cons_succ, List.set_cons_zero]
  (refine wpF_spec rfl rfl (fun w' hw' => ?_) ?_; · (have hb' := Has.world hw'; go_simp; ((have h7 := own_num1 (T := 54) (a := x) (b := w1.heap.size) (s := decide (mn < 0)) (L := lenB mn.natAbs) (o := dgi mn.natAbs) (hw'.fact 1 (by kernel_rfl)); refine (CM1.out w' (HG1.out.trans (hb'.mono HG1.out.size)) x _ h7.rd (Nat.le_refl _)).mono ?_; rintro e w'' ⟨rfl, hb⟩; exact ⟨_, rfl, rfl, hb⟩))))
  rintro _ rfl
  conv => arg 9; simp only [Act.put, List.setIfInBounds_toArray, List.set_cons_succ, List.set_cons_zero]
  (refine wpF_reads rfl rfl ?_ (fun w' hw' => ?_) ?_; rotate_left; · (have hb' := Has.world hw'; (skip); clear hw'; go_simp; try rfl))
  conv => arg 9; simp only [Act.put, List.setIfInBounds_toArray, List.set_cons_succ, List.set_cons_zero]
  (refine wpF_reads rfl rfl ?_ (fun w' hw' => ?_) ?_; rotate_left; · (have hb' := Has.world hw'; (skip); clear hw'; go_simp; try rfl))
  conv => arg 9; simp only [Act.put, List.setIfInBounds_toArray, List.set_cons_succ, List.set_cons_zero]
  (refine wpF_readsG (by rfl) rfl ?_ (fun w' hw' => ?_) ?_; rotate_left; · (have hb' := Has.world hw'; (have hs := HS1.out _ hb'); clear hw'; go_simp; try rfl))
  conv => arg 9; simp only [Act.put, List.setIfInBounds_toArray, List.set_cons_succ, List.set_cons_zero]
  (refine wpF_gspec (by rfl) rfl (fun w' hw' => ?_) ?_; · (have hb' := Has.world hw'; go_simp; ((refine (HOFX.out w').mono ?_; rintro e w'' ⟨a, rfl, ho, -, hb⟩; exact ⟨_, rfl, ⟨⟨a, rfl⟩, ⟨a, rfl, ho.mono hb'.size⟩⟩, hb⟩))))
  rintro _ ⟨y, rfl⟩
  conv => arg 9; simp only [Act.put, List.setIfInBounds_toArray, List.set_cons_succ, List.set_cons_zero]
  (refine wpF_gspec (by rfl) rfl (fun w' hw' => ?_) ?_; · (have hb' := Has.world hw'; go_simp; ((have h7 := own_num1 (T := 54) (a := y) (b := w1.heap.size) (s := decide (mx < 0)) (L := lenB mx.natAbs) (o := dgi mx.natAbs) (hw'.fact 6 (by kernel_rfl)); refine (CM2.out w' (HG1.out.trans (hb'.mono HG1.out.size)) y _ h7.rd (Nat.le_refl _)).mono ?_; rintro e w'' ⟨rfl, hb⟩; exact ⟨_, rfl, rfl, hb⟩))))
  rintro _ rfl
  conv => arg 9; simp only [Act.put, List.setIfInBounds_toArray, List.set_cons_succ, List.set_cons_zero]
  (refine wpF_readsG (by rfl) rfl ?_ (fun w' hw' => ?_) ?_; rotate_left; · (have hb' := Has.world hw'; (skip); clear hw'; go_simp; try rfl))
  conv => arg 9; simp only [Act.put, List.setIfInBounds_toArray, List.set_cons_succ, List.set_cons_zero]
  refine wpF_nil (fun w2 hb2 hF5 => ?_)
  have HB2 := Lib.hid (HB1.out.below hb2 HB1.out.lt)
  have HG2 := Lib.hid (HG1.out.trans (hb2.mono HG1.out.size))
  clear hF5 hb2 HS1 CHK CM1 CM2 HOFN HOFX b10 b11 b12 b13
  obtain ⟨b10, b11, b12, b13⟩ := HB2.out.all
  go_wp2_with fail
  refine (bwd_any a (lenB z.natAbs) cap _).mono ?_
  rintro e W0 ⟨rfl, hW0⟩
  have hs0 : W0.heap.size = w2.heap.size + 2 := by rw [hW0]; simp
  have hB0 : Below w2.heap.size w2 W0 := by rw [hW0]; exact ((Below.refl _ w2).alloc (Nat.le_refl _) _).alloc (by simp) _
  have hc0 : W0.cell? ⟨w2.heap.size, 0, none⟩ = some (.int .i64 0) := by rw [hW0]; exact (((row_new w2 (.int .i64 0) 2).alloc _).cell (i := 0) (by omega))
  have hf0 : W0.frozen? ⟨w2.heap.size, 0, none⟩ = false := by rw [hW0]; exact (((row_new w2 (.int .i64 0) 2).alloc _).frozen 0)
  have hc1 : W0.rowIs (w2.heap.size + 1) 22 1 (fun _ => .slice a (lenB z.natAbs) cap) := by
    rw [hW0]; have := (row_new (w2.alloc (.cells #[.int .i64 0] 2)) (.slice a (lenB z.natAbs) cap) 22); rw [World.size_alloc] at this; exact this
  rw [World.size_alloc]
  clear hW0
  have hM := lt_pw_lenB z.natAbs
  have hR2 := HR.out.below HG2.out
  have hlt2 : ∀ p, a = some p → 0 < lenB z.natAbs → p.block < w2.heap.size := by
    intro p hp h0
    obtain ⟨b, off, hab, hcs⟩ := hR2.cells h0
    rw [hab] at hp; cases hp
    exact block_lt_of_cell (hcs 0 h0)
  have HH := Lib.hid (And.intro hM (And.intro hR2 hlt2))
  have HC0 := Lib.hid (And.intro hc0 (And.intro hf0 hc1))
  have HB0 := Lib.hid hB0
  have HS0 := Lib.hid hs0
  clear hM hR2 hlt2 hc0 hf0 hc1 hB0 hs0
  go_wp2_with fail
  refine (wpIn_wide (n := 4)).1 ?_
  refine wpIn_rangeFunc_ownF rfl (by omega) (gf := 95) (lb := #[.pointer (some ⟨w2.heap.size + 1, 0, none⟩)]) rfl trivial (enters_of Tryz.func95 (by kernel_rfl) rfl)
    (bwd_stops Fence.wide 3 trivial rfl (by omega) (w2.heap.size + 1) w2.heap.size z.natAbs (lenB z.natAbs) cap a (by omega) W0 HB0.out.size HC0.out.2.2 (HH.out.2.1.below HB0.out) HH.out.2.2) KpB.trans (KpB.back HB0.out.size HC0.out.2.2.lt) (Below.refl _ _) (fun _ => rfl)
    (fun pre W => (W.cell? ⟨w2.heap.size, 0, none⟩ = some (.int .i64 (wrap64 (gather z.natAbs pre))) ∧ W.frozen? ⟨w2.heap.size, 0, none⟩ = false) ∧ Below w2.heap.size w2 W)
    (fun _ _ _ => False)
    (OwnFrom.and (Go.Own.from (fun s A B row hs hg hr => ⟨cell_kept hs.1 hg hr, (frozen_kept hs.1 hg hr).trans hs.2⟩) _) (ownFrom_below (Nat.le_refl _) (by rw [HS0.out]; omega)))
    (fun _ _ _ _ _ hs _ _ => hs)
    ⟨⟨by rw [show gather z.natAbs [] = 0 from rfl, wrap64_in (by omega)]; exact HC0.out.1, HC0.out.2.1⟩, HB0.out⟩
    (fun k => { tmps := #[numV (decide (z < 0)) a (lenB z.natAbs) cap, .pointer (some ⟨w.heap.size, 0, none⟩), .int .i64 0, .int .i64 0, .pointer (some ⟨w2.heap.size, 0, none⟩), undef, .int .u32 (dgi z.natAbs k), .bool false, .agg #[.bool (decide (z < 0)), .slice a (lenB z.natAbs) cap], .bool true, .bool false, .bool false, .agg #[.bool (decide (z < 0)), .slice a (lenB z.natAbs) cap], numV (decide (mn < 0)) x (lenB mn.natAbs) (lenB mn.natAbs), .int .i64 c1, .bool false, .bool false, .agg #[.bool (decide (z < 0)), .slice a (lenB z.natAbs) cap], numV (decide (mx < 0)) y (lenB mx.natAbs) (lenB mx.natAbs), .int .i64 c2, .bool false, .bool false, .pointer (some ⟨w.heap.size, 1, none⟩), .slice a (lenB z.natAbs) cap, .func (.func 95) #[] #[.pointer (some ⟨w2.heap.size + 1, 0, none⟩)], .int .i64 (k : Int), .int .u32 (dgi z.natAbs k), undef, undef, undef, undef, undef, undef, undef, undef, undef, undef, undef], defers := [] }) ?assign ?body ?done ?stop
  case assign =>
    intro l k W K hK
    gi_wp2
    exact hK
  case body =>
    rintro l pre k W ⟨⟨hc, hf⟩, hB⟩ _
    have hd := dgi_Dig z.natAbs (k + 1) k (by omega)
    have u1 := IntWalk.i64_in (dgi z.natAbs k) (by omega)
    have HB := Lib.hid hB
    have hwr := wrap_step (gather z.natAbs pre) (dgi z.natAbs k)
    rw [← gather_snoc] at hwr
    have HW := Lib.hid hwr
    clear hwr hB
    gi_wp2
    refine ⟨KeepsOthers.setCell _ _ _, ⟨(Below.refl w2.heap.size W).setCell (p := ⟨w2.heap.size, 0, none⟩) (Nat.le_refl _) _, Below.heap_setCell _ _ _ _ (by dsimp only; omega)⟩, ⟨?_, by rw [World.frozen?_setCell]; exact hf⟩, HB.out.setCell (p := ⟨w2.heap.size, 0, none⟩) (Nat.le_refl _) _⟩
    rw [← HW.out]
    exact World.cell?_setCell_same' _ _ _ (by rw [hc]; rfl)
  case done =>
    rintro D ys W hD rfl ⟨⟨hc, hf⟩, hB⟩ hK
    rw [gather_all _ _ HH.out.1, wrap64_in (by have := HZ.out; omega)] at hc
    have B3 := HB2.out.below hB HB2.out.lt
    have HG3 := Lib.hid (HG2.out.trans (hB.mono HG2.out.size))
    obtain ⟨b30, b31, b32, b33⟩ := B3.all
    have HD := Lib.hid hD
    have HK := Lib.hid hK
    clear hD hK hB B3
    by_cases hneg : z < 0
    · have hdn : decide (z < 0) = true := decide_eq_true hneg
      have hval : -(z.natAbs : Int) = z := by omega
      rw [hval] at hc
      clear hneg hval
      go_wp2_with fail
      refine ⟨by simp, .inl ⟨_, _, rfl, run_takeDeferred HK.out, ?_⟩⟩
      exact ⟨_, results_tmp2 rfl _ _ _, rfl, HG3.out.trans (belowK_b (w := W0) (Nat.le_trans HG2.out.size HB0.out.size) _ D _ _ HD.out HK.out rfl rfl)⟩
    · have hdn : decide (z < 0) = false := decide_eq_false hneg
      have EW := Lib.hid (show wrap64 (z.natAbs : Int) = z by rw [wrap64_in (by have := HZ.out; omega)]; omega)
      clear hneg
      go_wp2_with fail
      have hK2 := (KeepsOthers.setCell W ⟨w2.heap.size, 0, none⟩ (.int .i64 (wrap64 (z.natAbs : Int)))).same D _ HK.out rfl
      refine ⟨by simp, .inl ⟨_, _, rfl, run_takeDeferred hK2, ?_⟩⟩
      exact ⟨_, results_tmp2 rfl _ _ _, by rw [EW.out]; rfl, (HG3.out.setCell (p := ⟨w2.heap.size, 0, none⟩) HG2.out.size _).trans (belowK_b (w := W0) (Nat.le_trans HG2.out.size HB0.out.size) _ D _ _ HD.out hK2 rfl rfl)⟩
  case stop =>
    rintro D c pre W _ _ h _
    exact h.elim
noncomputable def backE (s : Bool) (n : Nat) (o : Nat → Int) : Int := open Classical in if okN s n o then (if -9223372036854775808 ≤ valN s n o ∧ valN s n o ≤ 9223372036854775807 then 0 else 3) else 1
noncomputable def backV (s : Bool) (n : Nat) (o : Nat → Int) : Int := if backE s n o = 0 then valN s n o else 0
end Go.Proofs.YtefjjhfahebmeaaGreatDoor.Limb
namespace Go.Proofs.YtefjjhfahebmeaaGreatDoor.Limb
open Go.RowKit Go.Sort Go.Fresh
theorem gcd_step (x y : Int) : Int.gcd x y = Int.gcd y (x % y) := by rw [Int.emod_def, Int.gcd_sub_mul_left_right, Int.gcd_comm]
structure RdS (w : World) (lo hi : Nat) (a : Option Addr) (n : Nat) (o : Nat → Int) : Prop where
  rd : Rd w a n o
  far : 0 < n → ∀ p, a = some p → p.block < lo ∨ hi ≤ p.block
theorem RdS.below {w w' : World} {lo hi : Nat} {a : Option Addr} {n : Nat} {o : Nat → Int} (h : RdS w lo hi a n o) (hb : Below w.heap.size w w') : RdS w' lo hi a n o := ⟨h.rd.below hb, h.far⟩
theorem RdS.set {w : World} {lo hi : Nat} {a : Option Addr} {n : Nat} {o : Nat → Int} (h : RdS w lo hi a n o) {p : Addr} (h1 : lo ≤ p.block) (h2 : p.block < hi) (v : Value) : RdS (w.setCell p v) lo hi a n o := by
  refine ⟨⟨fun hn => ?_, h.rd.rng⟩, h.far⟩
  obtain ⟨b, off, ha, hc⟩ := h.rd.cells hn
  refine ⟨b, off, ha, fun i hi' => ?_⟩
  have hf := h.far hn _ ha
  dsimp only at hf
  rw [← hc i hi']
  exact World.cell?_of_block (Below.heap_setCell _ _ _ _ (by dsimp only; omega))
structure Nm (w : World) (lo hi : Nat) (z : Int) (a : Option Addr) (c : Nat) : Prop where
  r : RdS w lo hi a (lenB z.natAbs) (dgi z.natAbs)
  le : lenB z.natAbs ≤ c
  small : lenB z.natAbs ≤ 10000000
theorem Nm.below {w w' : World} {lo hi : Nat} {z : Int} {a : Option Addr} {c : Nat} (h : Nm w lo hi z a c) (hb : Below w.heap.size w w') : Nm w' lo hi z a c := ⟨h.r.below hb, h.le, h.small⟩
theorem Nm.set {w : World} {lo hi : Nat} {z : Int} {a : Option Addr} {c : Nat} (h : Nm w lo hi z a c) {p : Addr} (h1 : lo ≤ p.block) (h2 : p.block < hi) (v : Value) : Nm (w.setCell p v) lo hi z a c := ⟨h.r.set h1 h2 v, h.le, h.small⟩
def gmeas (w : World) (b : Nat) : Nat := match w.cell? ⟨b, 1, none⟩ with
  | some (.slice (some p) n _) => (sumB (fun i => match w.cell? ⟨p.block, p.off + i, none⟩ with | some (.int _ d) => d | _ => 0) n).toNat
  | _ => 0
theorem gmeas_eq {w : World} {b : Nat} {t : TypeId} {s : Value} {a : Option Addr} {c M : Nat} (h : Bx w b t s (.slice a (lenB M) c)) (hr : Rd w a (lenB M) (dgi M)) : gmeas w b = M := by
  unfold gmeas
  rw [h.c1]
  by_cases h0 : 0 < lenB M
  · obtain ⟨g, off, rfl, hc⟩ := hr.cells h0
    dsimp only
    rw [sumB_congr (o' := dgi M) (fun i hi => by rw [hc i hi])]
    rw [sumB_dgi]; omega
  · have hM : M = 0 := lenB_eq_zero.1 (by omega)
    subst hM
    cases a with
    | none => rfl
    | some p =>
      dsimp only
      rw [lenB_zero]; rfl
theorem back_amt (N : Nat) (a : Option Addr) (cap : Nat) (w : World) (h : Rd w a (lenB N) (dgi N)) (hcap : lenB N ≤ cap) (h2 : lenB N ≤ 2) :
    Calls Tryz.prog 9 #[numV false a (lenB N) cap] w fun e w' => e = .returned (.tuple #[.int .i64 (N : Int), .int .i64 0]) ∧ Below w.heap.size w w' := by
  have hN : N < 1000000000000000000 := Nat.lt_of_lt_of_le (lt_pw_lenB N) (pw_le h2)
  have hb := back_ok (N : Int) a cap w (by rw [Int.natAbs_natCast]; exact h) (by rw [Int.natAbs_natCast]; exact hcap) (by omega) (by omega)
  rw [Int.natAbs_natCast, show decide ((N : Int) < 0) = false from decide_eq_false (by omega)] at hb
  exact hb
theorem small_amt {N : Nat} (h : lenB N ≤ 2) : (N : Int) ≤ 999999999999999999 := by
  have hN : N < 1000000000000000000 := Nat.lt_of_lt_of_le (lt_pw_lenB N) (pw_le h)
  omega
open Classical in
set_option maxRecDepth 100000 in
set_option maxHeartbeats 4000000 in
theorem gcd_any (s1 : Bool) (a1 : Option Addr) (n1 c1 : Nat) (o1 : Nat → Int) (s2 : Bool) (a2 : Option Addr) (n2 c2 : Nat) (o2 : Nat → Int) (w : World)
    (h1 : Rd w a1 n1 o1) (hn1 : n1 ≤ 10000000) (hc1 : n1 ≤ c1) (h2 : Rd w a2 n2 o2) (hn2 : n2 ≤ 10000000) (hc2 : n2 ≤ c2) :
    Calls Tryz.prog 90 #[numV s1 a1 n1 c1, numV s2 a2 n2 c2] w (ResN w (Int.gcd (valN s1 n1 o1) (valN s2 n2 o2) : Nat)) := by
  obtain ⟨x1, d1, r1, l1, m1, O1⟩ := of_any s1 a1 n1 c1 o1 w h1 (by omega) hc1
  obtain ⟨x2, d2, r2, l2, m2, O2⟩ := of_any s2 a2 n2 c2 o2 w h2 (by omega) hc2
  generalize valN s1 n1 o1 = z1 at r1 l1 m1 O1 ⊢
  generalize valN s2 n2 o2 = z2 at r2 l2 m2 O2 ⊢
  have N1 : Nm w w.heap.size (w.heap.size + 3) z1 x1 d1 := ⟨⟨r1, fun h0 p hp => Or.inl (by obtain ⟨b, off, e, hc⟩ := r1.cells h0; rw [e] at hp; cases hp; exact block_lt_of_cell (hc 0 h0))⟩, m1, by omega⟩
  have N2 : Nm w w.heap.size (w.heap.size + 3) z2 x2 d2 := ⟨⟨r2, fun h0 p hp => Or.inl (by obtain ⟨b, off, e, hc⟩ := r2.cells h0; rw [e] at hp; cases hp; exact block_lt_of_cell (hc 0 h0))⟩, m2, by omega⟩
  have HN := Lib.hid (And.intro N1 N2)
  have HO1 := Lib.hid O1; have HO2 := Lib.hid O2
  obtain ⟨G, hG⟩ : ∃ G : Nat, G = Int.gcd z1 z2 := ⟨_, rfl⟩
  rw [← hG]
  have HGC := Lib.hid hG
  have B1 := (((Bx.new w 24 (.bool s1) (.slice a1 n1 c1)).alloc (.cells #[.bool s2, .slice a2 n2 c2] 24)).alloc (.cells #[.bool false, .slice none 0 0] 24))
  have B2 := ((Bx.new2 w (.cells #[.bool s1, .slice a1 n1 c1] 24) 24 (.bool s2) (.slice a2 n2 c2)).alloc (.cells #[.bool false, .slice none 0 0] 24))
  have B3 := (Bx.new3 w (.cells #[.bool s1, .slice a1 n1 c1] 24) (.cells #[.bool s2, .slice a2 n2 c2] 24) 24 (.bool false) (.slice none 0 0))
  clear O1 O2 N1 N2 r1 r2 l1 l2 m1 m2 h1 h2 hG
  go_enter Tryz.func90, Tryz.ntmps90
  go_upto_region 1 with (fail)
  obtain ⟨W, hW⟩ : ∃ W, W = (((w.alloc (.cells #[.bool s1, .slice a1 n1 c1] 24)).alloc (.cells #[.bool s2, .slice a2 n2 c2] 24)).alloc (.cells #[.bool false, .slice none 0 0] 24)) := ⟨_, rfl⟩
  have G1 := Lib.hid (((Below.refl _ _).alloc (by go_size) _ |>.alloc (by go_size) _ |>.alloc (by go_size) _) : Below w.heap.size w (((w.alloc (.cells #[.bool s1, .slice a1 n1 c1] 24)).alloc (.cells #[.bool s2, .slice a2 n2 c2] 24)).alloc (.cells #[.bool false, .slice none 0 0] 24)))
  have hWs : w.heap.size + 3 = W.heap.size := by rw [hW]; simp
  rw [← hW] at B1 B2 B3 G1
  rw [show (((w.alloc (.cells #[.bool s1, .slice a1 n1 c1] 24)).alloc (.cells #[.bool s2, .slice a2 n2 c2] 24)).alloc (.cells #[.bool false, .slice none 0 0] 24)) = W from hW.symm]
  have HB1 := Lib.hid B1; have HB2 := Lib.hid B2; have HB3 := Lib.hid B3
  have HWS := Lib.hid hWs
  clear hW B1 B2 B3 hWs
  have HS := Lib.hid (fun (w' : World) (hb : Below W.heap.size W w') => And.intro (HB1.out.below hb HB1.out.lt) (And.intro (HB2.out.below hb HB2.out.lt) (HB3.out.below hb HB3.out.lt)))
  refine wp_region_fresh 3 (spOf [(1, Sp.know (numV (decide (z1 < 0)) x1 (lenB z1.natAbs) d1))]) (fun w' => Below W.heap.size W w') (by kernel_rfl) (by kernel_rfl)
    (spOf_cons (Sp.know_keeps _) spOf_nil) (fun _ _ h hb => h.trans (hb.mono h.size)) ((Below.refl _ _).drew) ?_
  simp only [List.take_succ_cons, List.take_zero, List.drop_succ_cons, List.drop_zero]
  (refine wpF_reads rfl rfl ?_ (fun w' hw' => ?_) ?_; rotate_left; · (have hb' := Has.world hw'; (obtain ⟨y0, y1, y2, y3⟩ := (HS.out _ hb').1.all); clear hw'; go_simp; try rfl))
  conv => arg 9; simp only [Act.put, List.setIfInBounds_toArray, List.set_cons_succ, List.set_cons_zero]
  (refine wpF_spec rfl rfl (fun w' hw' => ?_) ?_; · (have hb' := Has.world hw'; go_simp; ((refine (HO1.out w' (G1.out.trans (hb'.mono G1.out.size))).mono ?_; rintro e w'' ⟨rfl, hb⟩; exact ⟨_, rfl, rfl, hb⟩))))
  rintro _ rfl
  conv => arg 9; simp only [Act.put, List.setIfInBounds_toArray, List.set_cons_succ, List.set_cons_zero]
  (refine wpF_reads rfl rfl ?_ (fun w' hw' => ?_) ?_; rotate_left; · (have hb' := Has.world hw'; (obtain ⟨y0, y1, y2, y3⟩ := (HS.out _ hb').2.1.all); clear hw'; go_simp; try rfl))
  conv => arg 9; simp only [Act.put, List.setIfInBounds_toArray, List.set_cons_succ, List.set_cons_zero]
  refine wpF_nil (fun w1 hb1 hF => ?_)
  have GB := Lib.hid hb1
  clear hF hb1
  go_wp2_with fail
  refine (HO2.out w1 (G1.out.trans (GB.out.mono G1.out.size))).mono ?_
  rintro e w2 ⟨rfl, hb2⟩
  have GB := Lib.hid (GB.out.trans (hb2.mono GB.out.size))
  have M := HS.out _ GB.out
  have HM := Lib.hid M
  clear hb2 HO1 HO2
  obtain ⟨b10, b11, b12, b13⟩ := M.1.all
  obtain ⟨b20, b21, b22, b23⟩ := M.2.1.all
  clear M
  go_wp2_with fail
  have hws := HWS.out
  have K1 := Lib.hid (((HM.out.1.set (.bool (decide (z1 < 0))) (.slice x1 (lenB z1.natAbs) d1)).other (a := ⟨w.heap.size + 1, 0, none⟩) (by dsimp only; omega) (.bool (decide (z2 < 0)))).other (a := ⟨w.heap.size + 1, 1, none⟩) (by dsimp only; omega) (.slice x2 (lenB z2.natAbs) d2))
  have K2 := Lib.hid (((HM.out.2.1.other (a := ⟨w.heap.size, 0, none⟩) (by dsimp only; omega) (.bool (decide (z1 < 0)))).other (a := ⟨w.heap.size, 1, none⟩) (by dsimp only; omega) (.slice x1 (lenB z1.natAbs) d1)).set (.bool (decide (z2 < 0))) (.slice x2 (lenB z2.natAbs) d2))
  have K3 := Lib.hid ((((HM.out.2.2.other (a := ⟨w.heap.size, 0, none⟩) (by dsimp only; omega) (.bool (decide (z1 < 0)))).other (a := ⟨w.heap.size, 1, none⟩) (by dsimp only; omega) (.slice x1 (lenB z1.natAbs) d1)).other (a := ⟨w.heap.size + 1, 0, none⟩) (by dsimp only; omega) (.bool (decide (z2 < 0)))).other (a := ⟨w.heap.size + 1, 1, none⟩) (by dsimp only; omega) (.slice x2 (lenB z2.natAbs) d2))
  have hw2 := G1.out.trans (GB.out.mono G1.out.size)
  have KG := Lib.hid ((((hw2.setCell (p := ⟨w.heap.size, 0, none⟩) (Nat.le_refl _) (.bool (decide (z1 < 0)))).setCell (p := ⟨w.heap.size, 1, none⟩) (Nat.le_refl _) (.slice x1 (lenB z1.natAbs) d1)).setCell (p := ⟨w.heap.size + 1, 0, none⟩) (by dsimp only; omega) (.bool (decide (z2 < 0)))).setCell (p := ⟨w.heap.size + 1, 1, none⟩) (by dsimp only; omega) (.slice x2 (lenB z2.natAbs) d2))
  have KN1 := Lib.hid (((((HN.out.1.below hw2).set (p := ⟨w.heap.size, 0, none⟩) (Nat.le_refl _) (by dsimp only; omega) (.bool (decide (z1 < 0)))).set (p := ⟨w.heap.size, 1, none⟩) (Nat.le_refl _) (by dsimp only; omega) (.slice x1 (lenB z1.natAbs) d1)).set (p := ⟨w.heap.size + 1, 0, none⟩) (by dsimp only; omega) (by dsimp only; omega) (.bool (decide (z2 < 0)))).set (p := ⟨w.heap.size + 1, 1, none⟩) (by dsimp only; omega) (by dsimp only; omega) (.slice x2 (lenB z2.natAbs) d2))
  have KN2 := Lib.hid (((((HN.out.2.below hw2).set (p := ⟨w.heap.size, 0, none⟩) (Nat.le_refl _) (by dsimp only; omega) (.bool (decide (z1 < 0)))).set (p := ⟨w.heap.size, 1, none⟩) (Nat.le_refl _) (by dsimp only; omega) (.slice x1 (lenB z1.natAbs) d1)).set (p := ⟨w.heap.size + 1, 0, none⟩) (by dsimp only; omega) (by dsimp only; omega) (.bool (decide (z2 < 0)))).set (p := ⟨w.heap.size + 1, 1, none⟩) (by dsimp only; omega) (by dsimp only; omega) (.slice x2 (lenB z2.natAbs) d2))
  clear hw2 hws HM HS HN b10 b11 b12 b13 b20 b21 b22 b23
  go_loopw [] (fun wr => ∃ (x y : Int) (ax ay : Option Addr) (dx dy : Nat), Int.gcd x y = G ∧ Nm wr w.heap.size (w.heap.size + 3) x ax dx ∧ Nm wr w.heap.size (w.heap.size + 3) y ay dy ∧
      Bx wr w.heap.size 24 (.bool (decide (x < 0))) (.slice ax (lenB x.natAbs) dx) ∧ Bx wr (w.heap.size + 1) 24 (.bool (decide (y < 0))) (.slice ay (lenB y.natAbs) dy) ∧ Bx wr (w.heap.size + 1 + 1) 24 (.bool false) (.slice none 0 0) ∧ Below w.heap.size w wr) (fun wr => gmeas wr (w.heap.size + 1))
  case atStart => exact ⟨z1, z2, x1, x2, d1, d2, HGC.out.symm, KN1.out, KN2.out, K1.out, K2.out, K3.out, KG.out⟩
  case round =>
    obtain ⟨x, y, ax, ay, dx, dy, hg, hx, hy, hB1, hB2, hB3, hb⟩ := hrel
    obtain ⟨wo, rfl⟩ : ∃ wo : World, wo = wr := ⟨_, rfl⟩
    have HX := Lib.hid hx; have HY := Lib.hid hy; have HG := Lib.hid hg; have HB := Lib.hid hb
    have HB1 := Lib.hid hB1; have HB2 := Lib.hid hB2; have HB3 := Lib.hid hB3
    have HM0 := Lib.hid (gmeas_eq hB2 hy.r.rd)
    obtain ⟨Lx, hLx⟩ : ∃ Lx, Lx = lenB x.natAbs := ⟨_, rfl⟩
    obtain ⟨Ly, hLy⟩ : ∃ Ly, Ly = lenB y.natAbs := ⟨_, rfl⟩
    have hsx : Lx ≤ 10000000 := by rw [hLx]; exact hx.small
    have hsy : Ly ≤ 10000000 := by rw [hLy]; exact hy.small
    have HL := Lib.hid (And.intro hLx hLy)
    obtain ⟨b10, b11, b12, b13⟩ := hB1.all
    obtain ⟨b20, b21, b22, b23⟩ := hB2.all
    obtain ⟨b30, b31, b32, b33⟩ := hB3.all
    rw [← hLx] at b11
    rw [← hLy] at b21
    clear hx hy hg hb hB1 hB2 hB3 hLx hLy
    by_cases hy0 : Ly = 0
    · subst hy0
      have CL := Lib.hid (clone_any ax Lx dx (dgi x.natAbs) wo (by rw [HL.out.1]; exact HX.out.r.rd) (by omega))
      go_wp2_with fail
      refine CL.out.mono ?_
      rintro e w4 ⟨ac, dc, rfl, hO, hn, hb4⟩
      have HA := Lib.hid (show AmtO w4 wo.heap.size ac Lx dc x.natAbs (dgi x.natAbs) from ⟨hO, dgi_Dig _ _, by rw [HL.out.1]; exact sumB_dgi _, by omega, hn⟩)
      have HB4 := Lib.hid hb4
      clear hO hn hb4 CL b10 b11 b12 b13 b20 b21 b22 b23 b30 b31 b32 b33
      have CT := Lib.hid (cut_amt false false ac Lx dc x.natAbs wo.heap.size (dgi x.natAbs) w4 HA.out rfl)
      go_wp2_with fail
      refine CT.out.mono ?_
      rintro e w5 ⟨rfl, hO, hb5⟩
      have hb5' := HB4.out.trans (hb5.mono HB4.out.size)
      have M3 := HB3.out.below hb5' HB3.out.lt
      have HM3 := Lib.hid M3
      have HO5 := Lib.hid hO
      have HB5 := Lib.hid (HB.out.trans (hb5'.mono HB.out.size))
      have HNN := Lib.hid HA.out.none
      clear hO hb5 hb5' CT
      obtain ⟨b30, b31, b32, b33⟩ := M3.all
      clear M3
      go_wp2_with fail
      have hG : (G : Int) = (x.natAbs : Int) := by
        have hy : y = 0 := by have := lenB_eq_zero.1 HL.out.2.symm; omega
        rw [← HG.out, hy, Int.gcd_zero_right]
      have hlt := HB3.out.lt
      have hLG : Lx = lenB ((G : Nat) : Int).natAbs := by rw [Int.natAbs_natCast, HL.out.1]; congr 1; omega
      have hGx : x.natAbs = ((G : Nat) : Int).natAbs := by rw [Int.natAbs_natCast]; omega
      rw [← HL.out.1] at HO5 HNN
      have HH := Lib.hid (HM3.out.set (.bool false) (.slice ac (lenB x.natAbs) (lenB x.natAbs)))
      refine bodyPost_ret (results_cell rfl _ _ _ _ _ _ _ rfl HH.out Tryz.underlying24 rfl (by kernel_rfl)) rfl ⟨ac, ?_, ?_, ?_, ?_⟩
      · rw [← hLG, HL.out.1, decide_eq_false (show ¬ ((G : Nat) : Int) < 0 by omega)]
      · rw [← hLG, ← hGx]; exact ((HO5.out.other (by dsimp only; omega) _).other (by dsimp only; omega) _).mono HB.out.size
      · rw [← hLG]; exact HNN.out
      · exact (HB5.out.setCell (by dsimp only; omega) _).setCell (by dsimp only; omega) _
    · have hy1 : ¬ y = 0 := fun h => hy0 (by rw [HL.out.2, h]; exact lenB_zero)
      have HY1 := Lib.hid hy1
      clear hy1
      have hpos : 0 < Ly := by omega
      by_cases hs1 : Lx ≤ 2
      · have hs1' : (Lx : Int) ≤ 2 := by omega
        have hd1' : decide ((Lx : Int) ≤ 2) = true := decide_eq_true hs1'
        by_cases hs2 : Ly ≤ 2
        · have hs2' : (Ly : Int) ≤ 2 := by omega
          have hd2' : decide ((Ly : Int) ≤ 2) = true := decide_eq_true hs2'
          have S1 := Lib.hid (small_amt (N := x.natAbs) (by rw [← HL.out.1]; exact hs1))
          have S2 := Lib.hid (small_amt (N := y.natAbs) (by rw [← HL.out.2]; exact hs2))
          have HLL := Lib.hid (And.intro hs1 hs2)
          have CL := Lib.hid (clone_any ax Lx dx (dgi x.natAbs) wo (by rw [HL.out.1]; exact HX.out.r.rd) (by omega))
          go_wp2_with fail
          refine CL.out.mono ?_
          rintro e w4 ⟨ac, dc, rfl, hO, hn, hb4⟩
          have HA := Lib.hid (show AmtO w4 wo.heap.size ac Lx dc x.natAbs (dgi x.natAbs) from ⟨hO, dgi_Dig _ _, by rw [HL.out.1]; exact sumB_dgi _, by omega, hn⟩)
          have HB4 := Lib.hid hb4
          clear hO hn hb4 CL b10 b11 b12 b13 b20 b21 b22 b23 b30 b31 b32 b33
          have CT := Lib.hid (cut_amt false false ac Lx dc x.natAbs wo.heap.size (dgi x.natAbs) w4 HA.out rfl)
          go_wp2_with fail
          refine CT.out.mono ?_
          rintro e w5 ⟨rfl, hO, hb5⟩
          have HB4 := Lib.hid (HB4.out.trans (hb5.mono HB4.out.size))
          have BK := Lib.hid (back_amt x.natAbs ac (lenB x.natAbs) w5 hO.rd (Nat.le_refl _) (by rw [← HL.out.1]; exact HLL.out.1))
          clear hO hb5 CT HA
          go_wp2_with fail
          refine BK.out.mono ?_
          rintro e w6 ⟨rfl, hb6⟩
          have HB6 := Lib.hid (HB4.out.trans (hb6.mono HB4.out.size))
          clear hb6 BK HB4
          have M2 := HB2.out.below HB6.out HB2.out.lt
          obtain ⟨b20, b21, b22, b23⟩ := M2.all
          clear M2
          have CL := Lib.hid (clone_any ay (lenB y.natAbs) dy (dgi y.natAbs) w6 (HY.out.r.rd.below HB6.out) (by have := HL.out.2; omega))
          go_wp2_with fail
          refine CL.out.mono ?_
          rintro e w4 ⟨ac2, dc2, rfl, hO, hn, hb4⟩
          have HA := Lib.hid (show AmtO w4 w6.heap.size ac2 (lenB y.natAbs) dc2 y.natAbs (dgi y.natAbs) from ⟨hO, dgi_Dig _ _, sumB_dgi _, by have := HL.out.2; omega, hn⟩)
          have HB4 := Lib.hid (HB6.out.trans (hb4.mono HB6.out.size))
          clear hO hn hb4 CL HB6 b20 b21 b22 b23
          have CT := Lib.hid (cut_amt false false ac2 (lenB y.natAbs) dc2 y.natAbs w6.heap.size (dgi y.natAbs) w4 HA.out rfl)
          go_wp2_with fail
          refine CT.out.mono ?_
          rintro e w5 ⟨rfl, hO, hb5⟩
          have HB4 := Lib.hid (HB4.out.trans (hb5.mono HB4.out.size))
          have BK := Lib.hid (back_amt y.natAbs ac2 (lenB y.natAbs) w5 hO.rd (Nat.le_refl _) (by rw [← HL.out.2]; exact HLL.out.2))
          clear hO hb5 CT HA
          go_wp2_with fail
          refine BK.out.mono ?_
          rintro e w7 ⟨rfl, hb6⟩
          have HB7 := Lib.hid (HB4.out.trans (hb6.mono HB4.out.size))
          clear hb6 BK HB4
          go_wp2_with fail
          go_loopw [5, 7] (fun m n wr => ∃ (p q : Nat), Nat.gcd p q = G ∧ (p : Int) ≤ 999999999999999999 ∧ (q : Int) ≤ 999999999999999999 ∧ m = .int .i64 (p : Int) ∧ n = .int .i64 (q : Int) ∧ Below wo.heap.size wo wr) (fun _ n _ => (intOf n).toNat)
          case atStart => exact ⟨x.natAbs, y.natAbs, HG.out, S1.out, S2.out, rfl, rfl, HB7.out⟩
          case round =>
            obtain ⟨p, q, hpq, hp, hq, rfl, rfl, hbr⟩ := hrel
            have HPQ := Lib.hid hpq; have HBR := Lib.hid hbr
            clear hpq hbr
            by_cases hq0 : 0 < q
            · have hq0' : 0 < (q : Int) := by omega
              have hqn : ¬ (q : Int) = 0 := by omega
              obtain ⟨r, hr⟩ : ∃ r : Nat, r = p % q := ⟨_, rfl⟩
              have t1 : (p : Int).tmod (q : Int) = (r : Int) := by rw [hr, Int.natCast_emod]; exact Int.tmod_eq_emod_of_nonneg (by omega)
              have hrq : r < q := by rw [hr]; exact Nat.mod_lt _ hq0
              have u1 := IntWalk.i64_in (r : Int) (by omega)
              have HR := Lib.hid hr; have HRQ := Lib.hid hrq
              clear hr hrq
              go_wp2_with fail
              go_quiet (fail)
              go_wp2_with fail
              go_roundw
              case rel => exact ⟨q, r, by rw [HR.out, Nat.gcd_comm, ← Nat.gcd_rec, Nat.gcd_comm]; exact HPQ.out, hq, by have := HRQ.out; omega, rfl, rfl, bdrewN HBR.out _⟩
              case measure => simp [intOf]; exact HRQ.out
            · have hq1 : ¬ 0 < (q : Int) := by omega
              have hpG : p = G := by rw [← HPQ.out, show q = 0 by omega, Nat.gcd_zero_right]
              have OF := Lib.hid (fun (w' : World) => of64_any (G : Int) w' (by omega) (by omega))
              have HPG := Lib.hid hpG
              rw [← hpG] at OF
              clear hpG
              go_wp2_with fail
              refine (OF.out _).mono ?_
              rintro e w8 ⟨aG, rfl, hO, hn, hb8⟩
              have hb9 := HBR.out.trans (hb8.mono HBR.out.size)
              have M3 := HB3.out.below hb9 HB3.out.lt
              have HM3 := Lib.hid M3
              have HO8 := Lib.hid (And.intro hO hn)
              have HB9 := Lib.hid (HB.out.trans (hb9.mono HB.out.size))
              have HS9 := Lib.hid HBR.out.size
              clear hO hn hb8 hb9 OF
              obtain ⟨b30, b31, b32, b33⟩ := M3.all
              clear M3
              go_wp2_with fail
              have hlt := HB3.out.lt
              have hs9 := HS9.out
              have hs10 := HB.out.size
              rw [← HPG.out]
              refine bodyPost_ret (results_cell rfl _ _ _ _ _ _ _ rfl (HM3.out.set _ _) Tryz.underlying24 rfl (by kernel_rfl)) rfl ⟨aG, ?_, ?_, HO8.out.2, ?_⟩
              · rw [decide_eq_false (show ¬ ((p : Nat) : Int) < 0 by omega)]; rfl
              · exact ((HO8.out.1.other (by dsimp only; omega) _).other (by dsimp only; omega) _).mono (by omega)
              · exact (HB9.out.setCell (by dsimp only; omega) _).setCell (by dsimp only; omega) _
        · have hs2' : ¬ (Ly : Int) ≤ 2 := by omega
          have hd2' : decide ((Ly : Int) ≤ 2) = false := decide_eq_false hs2'
          have DV := Lib.hid (div_ok x y ax ay dx dy wo HX.out.r.rd HX.out.small HX.out.le HY.out.r.rd HY.out.small HY.out.le HY1.out)
          rw [← HL.out.1, ← HL.out.2] at DV
          go_wp2_with fail
          refine DV.out.mono ?_
          rintro e w4 ⟨aq, ar, rfl, -, hor, -, -, -, hb4⟩
          have hb4' := hb4
          have HOR := Lib.hid hor
          have M1 := HB1.out.below hb4 HB1.out.lt
          have M2 := HB2.out.below hb4 HB2.out.lt
          have M3 := HB3.out.below hb4 HB3.out.lt
          have HM := Lib.hid (And.intro M1 (And.intro M2 M3))
          have HY4 := Lib.hid (HY.out.below hb4)
          have HB4 := Lib.hid hb4
          clear hor hb4 hb4' DV b10 b11 b12 b13 b20 b21 b22 b23 b30 b31 b32 b33
          obtain ⟨b10, b11, b12, b13⟩ := M1.all
          obtain ⟨b20, b21, b22, b23⟩ := M2.all
          clear M1 M2 M3
          obtain ⟨R, hR⟩ : ∃ R, R = x % y := ⟨_, rfl⟩
          obtain ⟨Q, hQ⟩ : ∃ Q, Q = x / y := ⟨_, rfl⟩
          rw [← hR] at HOR ⊢
          rw [← hQ]
          have HRX := Lib.hid hR
          clear hR hQ
          go_upto_region 10 with (fail)
          obtain ⟨U, hU⟩ : ∃ U, U = (w4.alloc (.cells #[.bool (decide (Q < 0)), .slice aq (lenB Q.natAbs) (lenB Q.natAbs)] 24)).alloc (.cells #[.bool (decide (R < 0)), .slice ar (lenB R.natAbs) (lenB R.natAbs)] 24) := ⟨_, rfl⟩
          have hbU : Below w4.heap.size w4 U := by rw [hU]; exact ((Below.refl _ _).alloc (Nat.le_refl _) _).alloc (by simp) _
          have HRB := Lib.hid (show Bx U (w4.heap.size + 1) 24 (.bool (decide (R < 0))) (.slice ar (lenB R.natAbs) (lenB R.natAbs)) by rw [hU]; exact Bx.new2 w4 _ _ _ _)
          rw [show (w4.alloc (.cells #[.bool (decide (Q < 0)), .slice aq (lenB Q.natAbs) (lenB Q.natAbs)] 24)).alloc (.cells #[.bool (decide (R < 0)), .slice ar (lenB R.natAbs) (lenB R.natAbs)] 24) = U from hU.symm]
          have M1 := HM.out.1.below hbU HM.out.1.lt
          have M2 := HM.out.2.1.below hbU HM.out.2.1.lt
          have M3 := HM.out.2.2.below hbU HM.out.2.2.lt
          have HMU := Lib.hid (And.intro M1 (And.intro M2 M3))
          have HYU := Lib.hid (HY4.out.below hbU)
          have HORU := Lib.hid (HOR.out.below hbU)
          have HBU := Lib.hid (HB.out.trans ((HB4.out.trans (hbU.mono HB4.out.size)).mono HB.out.size))
          clear hU hbU b10 b11 b12 b13 b20 b21 b22 b23 M3 HM HY4 HOR
          obtain ⟨b10, b11, b12, b13⟩ := M1.all
          obtain ⟨b20, b21, b22, b23⟩ := M2.all
          obtain ⟨b30, b31, b32, b33⟩ := HRB.out.all
          clear M1 M2
          obtain ⟨br, hbr⟩ : ∃ br, br = w4.heap.size + 1 := ⟨_, rfl⟩
          have hbr2 : w.heap.size + 3 < br := by have h1 := HB3.out.lt; have h2 := HB4.out.size; omega
          rw [← hbr] at b30 b31 b32 b33 ⊢
          have ne1 : ¬ br = w.heap.size := by omega
          have ne2 : ¬ br = w.heap.size + 1 := by omega
          have ne3 : ¬ w.heap.size = br := by omega
          have ne4 : ¬ w.heap.size + 1 = br := by omega
          clear hbr hbr2
          go_region
          clear ne1 ne2 ne3 ne4
          have hwo : w.heap.size + 3 ≤ wo.heap.size := by have := HB3.out.lt; omega
          have m1 := (((HMU.out.1.set (.bool (decide (y < 0))) (.slice ay (lenB y.natAbs) dy)).other (a := ⟨w.heap.size + 1, 0, none⟩) (by dsimp only; omega) (.bool (decide (R < 0)))).other (a := ⟨w.heap.size + 1, 1, none⟩) (by dsimp only; omega) (.slice ar (lenB R.natAbs) (lenB R.natAbs)))
          have m2 := (((HMU.out.2.1.other (a := ⟨w.heap.size, 0, none⟩) (by dsimp only; omega) (.bool (decide (y < 0)))).other (a := ⟨w.heap.size, 1, none⟩) (by dsimp only; omega) (.slice ay (lenB y.natAbs) dy)).set (.bool (decide (R < 0))) (.slice ar (lenB R.natAbs) (lenB R.natAbs)))
          have m3 := ((((HMU.out.2.2.other (a := ⟨w.heap.size, 0, none⟩) (by dsimp only; omega) (.bool (decide (y < 0)))).other (a := ⟨w.heap.size, 1, none⟩) (by dsimp only; omega) (.slice ay (lenB y.natAbs) dy)).other (a := ⟨w.heap.size + 1, 0, none⟩) (by dsimp only; omega) (.bool (decide (R < 0)))).other (a := ⟨w.heap.size + 1, 1, none⟩) (by dsimp only; omega) (.slice ar (lenB R.natAbs) (lenB R.natAbs)))
          have g1 := (((((HBU.out.setCell (p := ⟨w.heap.size, 0, none⟩) (Nat.le_refl _) (.bool (decide (y < 0)))).setCell (p := ⟨w.heap.size, 1, none⟩) (Nat.le_refl _) (.slice ay (lenB y.natAbs) dy)).setCell (p := ⟨w.heap.size + 1, 0, none⟩) (by dsimp only; omega) (.bool (decide (R < 0)))).setCell (p := ⟨w.heap.size + 1, 1, none⟩) (by dsimp only; omega) (.slice ar (lenB R.natAbs) (lenB R.natAbs))).drew)
          have n1 := ((((HYU.out.set (p := ⟨w.heap.size, 0, none⟩) (Nat.le_refl _) (by dsimp only; omega) (.bool (decide (y < 0)))).set (p := ⟨w.heap.size, 1, none⟩) (Nat.le_refl _) (by dsimp only; omega) (.slice ay (lenB y.natAbs) dy)).set (p := ⟨w.heap.size + 1, 0, none⟩) (by dsimp only; omega) (by dsimp only; omega) (.bool (decide (R < 0)))).set (p := ⟨w.heap.size + 1, 1, none⟩) (by dsimp only; omega) (by dsimp only; omega) (.slice ar (lenB R.natAbs) (lenB R.natAbs)))
          have hRs : R.natAbs < y.natAbs := by have h1 := Int.emod_nonneg x HY1.out; have h2 := Int.emod_lt x HY1.out; have h3 := HRX.out; omega
          have n2a : Nm U w.heap.size (w.heap.size + 3) R ar (lenB R.natAbs) := ⟨⟨HORU.out.rd, fun h0 p hp => Or.inr (Nat.le_trans hwo (HORU.out.blk hp).2.1)⟩, Nat.le_refl _, Nat.le_trans (lenB_mono (Nat.le_of_lt hRs)) HY.out.small⟩
          have n2 := ((((n2a.set (p := ⟨w.heap.size, 0, none⟩) (Nat.le_refl _) (by dsimp only; omega) (.bool (decide (y < 0)))).set (p := ⟨w.heap.size, 1, none⟩) (Nat.le_refl _) (by dsimp only; omega) (.slice ay (lenB y.natAbs) dy)).set (p := ⟨w.heap.size + 1, 0, none⟩) (by dsimp only; omega) (by dsimp only; omega) (.bool (decide (R < 0)))).set (p := ⟨w.heap.size + 1, 1, none⟩) (by dsimp only; omega) (by dsimp only; omega) (.slice ar (lenB R.natAbs) (lenB R.natAbs)))
          have P1 := Lib.hid m1; have P2 := Lib.hid m2; have P3 := Lib.hid m3; have PG := Lib.hid g1; have PN1 := Lib.hid n1; have PN2 := Lib.hid n2; have HRS := Lib.hid hRs
          clear m1 m2 m3 g1 n1 n2 n2a hRs hwo b10 b11 b12 b13 b20 b21 b22 b23 b30 b31 b32 b33
          go_wp2_with fail
          go_roundw
          case rel =>
            refine ⟨y, R, ay, ar, dy, lenB R.natAbs, ?_, PN1.out.below (Below.refl _ _).drew, PN2.out.below (Below.refl _ _).drew, ?_, P2.out, P3.out, PG.out⟩
            · rw [HRX.out, ← gcd_step]; exact HG.out
            · exact P1.out
          case measure =>
            rw [HM0.out]
            have h := gmeas_eq (M := R.natAbs) P2.out PN2.out.r.rd
            exact Nat.lt_of_le_of_lt (Nat.le_of_eq h) HRS.out
      · have hs1' : ¬ (Lx : Int) ≤ 2 := by omega
        have hd1' : decide ((Lx : Int) ≤ 2) = false := decide_eq_false hs1'
        have DV := Lib.hid (div_ok x y ax ay dx dy wo HX.out.r.rd HX.out.small HX.out.le HY.out.r.rd HY.out.small HY.out.le HY1.out)
        rw [← HL.out.1, ← HL.out.2] at DV
        go_wp2_with fail
        refine DV.out.mono ?_
        rintro e w4 ⟨aq, ar, rfl, -, hor, -, -, -, hb4⟩
        have hb4' := hb4
        have HOR := Lib.hid hor
        have M1 := HB1.out.below hb4 HB1.out.lt
        have M2 := HB2.out.below hb4 HB2.out.lt
        have M3 := HB3.out.below hb4 HB3.out.lt
        have HM := Lib.hid (And.intro M1 (And.intro M2 M3))
        have HY4 := Lib.hid (HY.out.below hb4)
        have HB4 := Lib.hid hb4
        clear hor hb4 hb4' DV b10 b11 b12 b13 b20 b21 b22 b23 b30 b31 b32 b33
        obtain ⟨b10, b11, b12, b13⟩ := M1.all
        obtain ⟨b20, b21, b22, b23⟩ := M2.all
        clear M1 M2 M3
        obtain ⟨R, hR⟩ : ∃ R, R = x % y := ⟨_, rfl⟩
        obtain ⟨Q, hQ⟩ : ∃ Q, Q = x / y := ⟨_, rfl⟩
        rw [← hR] at HOR ⊢
        rw [← hQ]
        have HRX := Lib.hid hR
        clear hR hQ
        go_upto_region 10 with (fail)
        obtain ⟨U, hU⟩ : ∃ U, U = (w4.alloc (.cells #[.bool (decide (Q < 0)), .slice aq (lenB Q.natAbs) (lenB Q.natAbs)] 24)).alloc (.cells #[.bool (decide (R < 0)), .slice ar (lenB R.natAbs) (lenB R.natAbs)] 24) := ⟨_, rfl⟩
        have hbU : Below w4.heap.size w4 U := by rw [hU]; exact ((Below.refl _ _).alloc (Nat.le_refl _) _).alloc (by simp) _
        have HRB := Lib.hid (show Bx U (w4.heap.size + 1) 24 (.bool (decide (R < 0))) (.slice ar (lenB R.natAbs) (lenB R.natAbs)) by rw [hU]; exact Bx.new2 w4 _ _ _ _)
        rw [show (w4.alloc (.cells #[.bool (decide (Q < 0)), .slice aq (lenB Q.natAbs) (lenB Q.natAbs)] 24)).alloc (.cells #[.bool (decide (R < 0)), .slice ar (lenB R.natAbs) (lenB R.natAbs)] 24) = U from hU.symm]
        have M1 := HM.out.1.below hbU HM.out.1.lt
        have M2 := HM.out.2.1.below hbU HM.out.2.1.lt
        have M3 := HM.out.2.2.below hbU HM.out.2.2.lt
        have HMU := Lib.hid (And.intro M1 (And.intro M2 M3))
        have HYU := Lib.hid (HY4.out.below hbU)
        have HORU := Lib.hid (HOR.out.below hbU)
        have HBU := Lib.hid (HB.out.trans ((HB4.out.trans (hbU.mono HB4.out.size)).mono HB.out.size))
        clear hU hbU b10 b11 b12 b13 b20 b21 b22 b23 M3 HM HY4 HOR
        obtain ⟨b10, b11, b12, b13⟩ := M1.all
        obtain ⟨b20, b21, b22, b23⟩ := M2.all
        obtain ⟨b30, b31, b32, b33⟩ := HRB.out.all
        clear M1 M2
        obtain ⟨br, hbr⟩ : ∃ br, br = w4.heap.size + 1 := ⟨_, rfl⟩
        have hbr2 : w.heap.size + 3 < br := by have h1 := HB3.out.lt; have h2 := HB4.out.size; omega
        rw [← hbr] at b30 b31 b32 b33 ⊢
        have ne1 : ¬ br = w.heap.size := by omega
        have ne2 : ¬ br = w.heap.size + 1 := by omega
        have ne3 : ¬ w.heap.size = br := by omega
        have ne4 : ¬ w.heap.size + 1 = br := by omega
        clear hbr hbr2
        go_region
        clear ne1 ne2 ne3 ne4
        have hwo : w.heap.size + 3 ≤ wo.heap.size := by have := HB3.out.lt; omega
        have m1 := (((HMU.out.1.set (.bool (decide (y < 0))) (.slice ay (lenB y.natAbs) dy)).other (a := ⟨w.heap.size + 1, 0, none⟩) (by dsimp only; omega) (.bool (decide (R < 0)))).other (a := ⟨w.heap.size + 1, 1, none⟩) (by dsimp only; omega) (.slice ar (lenB R.natAbs) (lenB R.natAbs)))
        have m2 := (((HMU.out.2.1.other (a := ⟨w.heap.size, 0, none⟩) (by dsimp only; omega) (.bool (decide (y < 0)))).other (a := ⟨w.heap.size, 1, none⟩) (by dsimp only; omega) (.slice ay (lenB y.natAbs) dy)).set (.bool (decide (R < 0))) (.slice ar (lenB R.natAbs) (lenB R.natAbs)))
        have m3 := ((((HMU.out.2.2.other (a := ⟨w.heap.size, 0, none⟩) (by dsimp only; omega) (.bool (decide (y < 0)))).other (a := ⟨w.heap.size, 1, none⟩) (by dsimp only; omega) (.slice ay (lenB y.natAbs) dy)).other (a := ⟨w.heap.size + 1, 0, none⟩) (by dsimp only; omega) (.bool (decide (R < 0)))).other (a := ⟨w.heap.size + 1, 1, none⟩) (by dsimp only; omega) (.slice ar (lenB R.natAbs) (lenB R.natAbs)))
        have g1 := (((((HBU.out.setCell (p := ⟨w.heap.size, 0, none⟩) (Nat.le_refl _) (.bool (decide (y < 0)))).setCell (p := ⟨w.heap.size, 1, none⟩) (Nat.le_refl _) (.slice ay (lenB y.natAbs) dy)).setCell (p := ⟨w.heap.size + 1, 0, none⟩) (by dsimp only; omega) (.bool (decide (R < 0)))).setCell (p := ⟨w.heap.size + 1, 1, none⟩) (by dsimp only; omega) (.slice ar (lenB R.natAbs) (lenB R.natAbs))).drew)
        have n1 := ((((HYU.out.set (p := ⟨w.heap.size, 0, none⟩) (Nat.le_refl _) (by dsimp only; omega) (.bool (decide (y < 0)))).set (p := ⟨w.heap.size, 1, none⟩) (Nat.le_refl _) (by dsimp only; omega) (.slice ay (lenB y.natAbs) dy)).set (p := ⟨w.heap.size + 1, 0, none⟩) (by dsimp only; omega) (by dsimp only; omega) (.bool (decide (R < 0)))).set (p := ⟨w.heap.size + 1, 1, none⟩) (by dsimp only; omega) (by dsimp only; omega) (.slice ar (lenB R.natAbs) (lenB R.natAbs)))
        have hRs : R.natAbs < y.natAbs := by have h1 := Int.emod_nonneg x HY1.out; have h2 := Int.emod_lt x HY1.out; have h3 := HRX.out; omega
        have n2a : Nm U w.heap.size (w.heap.size + 3) R ar (lenB R.natAbs) := ⟨⟨HORU.out.rd, fun h0 p hp => Or.inr (Nat.le_trans hwo (HORU.out.blk hp).2.1)⟩, Nat.le_refl _, Nat.le_trans (lenB_mono (Nat.le_of_lt hRs)) HY.out.small⟩
        have n2 := ((((n2a.set (p := ⟨w.heap.size, 0, none⟩) (Nat.le_refl _) (by dsimp only; omega) (.bool (decide (y < 0)))).set (p := ⟨w.heap.size, 1, none⟩) (Nat.le_refl _) (by dsimp only; omega) (.slice ay (lenB y.natAbs) dy)).set (p := ⟨w.heap.size + 1, 0, none⟩) (by dsimp only; omega) (by dsimp only; omega) (.bool (decide (R < 0)))).set (p := ⟨w.heap.size + 1, 1, none⟩) (by dsimp only; omega) (by dsimp only; omega) (.slice ar (lenB R.natAbs) (lenB R.natAbs)))
        have P1 := Lib.hid m1; have P2 := Lib.hid m2; have P3 := Lib.hid m3; have PG := Lib.hid g1; have PN1 := Lib.hid n1; have PN2 := Lib.hid n2; have HRS := Lib.hid hRs
        clear m1 m2 m3 g1 n1 n2 n2a hRs hwo b10 b11 b12 b13 b20 b21 b22 b23 b30 b31 b32 b33
        go_wp2_with fail
        go_roundw
        case rel =>
          refine ⟨y, R, ay, ar, dy, lenB R.natAbs, ?_, PN1.out.below (Below.refl _ _).drew, PN2.out.below (Below.refl _ _).drew, ?_, P2.out, P3.out, PG.out⟩
          · rw [HRX.out, ← gcd_step]; exact HG.out
          · exact P1.out
        case measure =>
          rw [HM0.out]
          have h := gmeas_eq (M := R.natAbs) P2.out PN2.out.r.rd
          exact Nat.lt_of_le_of_lt (Nat.le_of_eq h) HRS.out
def Bxs (w : World) (b : Nat) (t : TypeId) (l : List Value) : Prop := w.heap[b]? = some (.cells l.toArray t (0, 0))
theorem Bxs.cell {w : World} {b : Nat} {t : TypeId} {l : List Value} (h : Bxs w b t l) {i : Nat} {v : Value} (hi : l[i]? = some v) : w.cell? ⟨b, i, none⟩ = some v := by
  rw [cell_of_row _ _ _ _ _ _ h]
  simpa using hi
theorem Bxs.fz {w : World} {b : Nat} {t : TypeId} {l : List Value} (h : Bxs w b t l) (i : Nat) : w.frozen? ⟨b, i, none⟩ = false := by
  simp only [World.frozen?]
  have h' : w.heap[b]? = some (.cells l.toArray t (0, 0)) := h
  simp [h']
theorem Bxs.lt {w : World} {b : Nat} {t : TypeId} {l : List Value} (h : Bxs w b t l) : b < w.heap.size := (Array.getElem?_eq_some_iff.1 h).1
theorem Bxs.of {w w' : World} {b : Nat} {t : TypeId} {l : List Value} (h : Bxs w b t l) (e : w'.heap[b]? = w.heap[b]?) : Bxs w' b t l := e.trans h
theorem Bxs.below {W w : World} {b B : Nat} {t : TypeId} {l : List Value} (h : Bxs W b t l) (hb : Below B W w) (hlt : b < B) : Bxs w b t l := h.of (hb.block b hlt)
theorem Bxs.alloc {w : World} {b : Nat} {t : TypeId} {l : List Value} (h : Bxs w b t l) (o : Obj) : Bxs (w.alloc o) b t l := h.of (heap_alloc_old w o h.lt)
theorem Bxs.other {w : World} {b : Nat} {t : TypeId} {l : List Value} (h : Bxs w b t l) {a : Addr} (ha : b ≠ a.block) (v : Value) : Bxs (w.setCell a v) b t l := h.of (Below.heap_setCell _ _ _ _ ha)
theorem Bxs.new (w : World) (t : TypeId) (l : List Value) : Bxs (w.alloc (.cells l.toArray t)) w.heap.size t l := heap_alloc_new w _
theorem Bxs.put {w : World} {b : Nat} {t : TypeId} {l : List Value} (h : Bxs w b t l) (i : Nat) (v : Value) : Bxs (w.setCell ⟨b, i, none⟩ v) b t (l.set i v) := by
  have h1 := heap_setCell_same w b i l.toArray t v h
  rw [List.setIfInBounds_toArray] at h1
  exact h1
theorem Bxs.drew {w : World} {b : Nat} {t : TypeId} {l : List Value} (h : Bxs w b t l) : Bxs w.drew b t l := h
abbrev fracV (s1 : Bool) (a1 : Option Addr) (n1 c1 : Nat) (s2 : Bool) (a2 : Option Addr) (n2 c2 : Nat) : Value := .agg #[.bool s1, .slice a1 n1 c1, .bool s2, .slice a2 n2 c2]
end Go.Proofs.YtefjjhfahebmeaaGreatDoor.Limb
