/-
  The walks of the law's helpers: TwinLimbs, TwinNum, greatNum.
-/
import Derived.Test.YtebobpbcllideaaGreatDoorLimbT
import Derived.Test.YtebobpbcllideaaGreatDoorBookG
import Derived.Laws.MakeOwn
namespace Go.Proofs.YtebobpbcllideaaGreatDoor.Limb
open Go.RowKit Go.Sort Go.Fresh

theorem Own.made (w : World) (n : Nat) (o : Nat → Int) : Own 57 (w.alloc (.cells (madeCells #[Value.int .u32 0] n) 57)) w.heap.size (some ⟨w.heap.size, 0, none⟩) 0 n o :=
  ⟨Nat.zero_le _, Or.inr ⟨_, _, rfl, Nat.le_refl _, heap_alloc_new w _, by rw [size_madeCells]; exact Nat.le_refl _, fun i hi => by omega⟩, fun i hi => by omega⟩

theorem twin_step {w wr w2 : World} {base g k N : Nat} {o : Nat → Int} {a' : Option Addr} {c' : Nat} {x : Obj} {v : Int} (hG : Below base w wr) (hbw : base ≤ wr.heap.size) (hg : base ≤ g)
    (hown : Own 57 w2 base a' (k + 1) c' (upd o k v)) (hk : k + 1 ≤ N)
    (hcase : (a' = some ⟨g, 0, none⟩ ∧ c' = N ∧ (wr.alloc x).grownBy w2 (some g)) ∨ ((∃ g', a' = some ⟨g', 0, none⟩ ∧ wr.heap.size + 1 ≤ g') ∧ (wr.alloc x).grownBy w2 none ∧ N < k + 1)) :
    a' = some ⟨g, 0, none⟩ ∧ c' = N ∧ Below base w w2 := by
  rcases hcase with ⟨rfl, rfl, h⟩ | ⟨_, _, h⟩
  · exact ⟨rfl, rfl, (hG.alloc hbw x).grown h (by simp; omega) (fun q hq => by cases hq; exact hg)⟩
  · omega

set_option maxHeartbeats 2000000 in
theorem twinLimbs_any (a : Option Addr) (n ca : Nat) (o : Nat → Int) (w : World) (ha : Rd w a n o) (hn : n ≤ 100000000) :
    Calls Tryz.prog 27 #[.slice a n ca] w fun e w' => ∃ g, e = .returned (.slice (some ⟨g, 0, none⟩) n (n + 1)) ∧ Own 57 w' w.heap.size (some ⟨g, 0, none⟩) (n + 1) (n + 1) (tw o n) ∧ Below w.heap.size w w' := by
  obtain ⟨i0, hi, hz0, hz1, hz2⟩ := info_parts info32
  have e1 := IntWalk.i64_in ((n : Int) + 1) (by omega)
  have hmk : ∀ w : World, (Instr.makeSlice 22 (.int .i64 0) (.int .i64 ((n : Int) + 1))).run Tryz.prog w = .ok (.slice (some ⟨w.heap.size, 0, none⟩) 0 (n + 1)) (w.alloc (.cells (madeCells #[Value.int .u32 0] (n + 1)) 57)) := by
    intro w
    have h := run_make (P := Tryz.prog) w 22 57 i0 _ Tryz.underlying22 hi hz0 .i64 .i64 0 ((n : Int) + 1) (by omega) (by omega) (by rw [hz2]; omega) (by omega)
    rw [hz1, show ((n : Int) + 1).toNat = n + 1 by omega, Nat.mul_one] at h
    exact h
  have HA := Lib.hid ha
  clear ha hz0 hz1 hz2 hi
  go_enter Tryz.func27, Tryz.ntmps27
  go_wp2_with fail
  go_loopw [3, 4] (fun t i wr => ∃ k : Nat, k ≤ n ∧ i = .int .i64 k ∧ t = .slice (some ⟨w.heap.size, 0, none⟩) k (n + 1) ∧ (∃ p, (∀ q, q < k → p q = o q) ∧ Own 57 wr w.heap.size (some ⟨w.heap.size, 0, none⟩) k (n + 1) p) ∧ Below w.heap.size w wr) (fun _ i _ => n - (intOf i).toNat)
  case atStart => exact ⟨0, by omega, rfl, rfl, ⟨o, fun _ _ => rfl, Own.made w (n + 1) o⟩, by (repeat' (first | (with_reducible exact Below.refl _ _) | (with_reducible assumption) | (with_reducible refine Below.alloc ?_ ?_ _) | (with_reducible refine Below.drew ?_) | (with_reducible refine bdrewN ?_ _) | (with_reducible refine Below.setCell ?_ ?_ _) | (with_reducible refine Below.frame ?_ _) | go_size))⟩
  case round =>
    obtain ⟨k, hk, rfl, rfl, ⟨p, hp, hO⟩, hG⟩ := hrel
    have HP := Lib.hid hp; have HO := Lib.hid hO; have HG := Lib.hid hG
    clear hp hO hG hmk
    by_cases hkn : k < n
    · obtain ⟨b1, o1, rfl, hc1⟩ := (HA.out.below HG.out).cells (by omega)
      have c1 : wr.cell? ⟨b1, o1 + k, none⟩ = some (.int .u32 (o k)) := hc1 k hkn
      have rng := HA.out.rng k hkn
      clear hc1
      go_wp2_with (first
        | (at_builtin; refine Book.wpList_push rfl _ _ rfl (by rfl) (HO.out.allocd _) (by omega) (by have := HG.out.size; simp; omega) (v := o k) (by rfl) ?c1 rng (by rfl) ?_))
      case c1 => simp
      intro a' c' w2 hown hcase
      obtain ⟨rfl, rfl, hb2⟩ := twin_step (N := n + 1) HG.out HG.out.size (Nat.le_refl _) hown (by omega) (hcase.imp id fun ⟨h1, h2, h3⟩ => ⟨h1, h2, by omega⟩)
      have NO := Lib.hid hown; have NG := Lib.hid hb2
      clear hown hcase hb2
      go_wp2_with fail
      go_roundw
      case rel =>
        refine ⟨k + 1, by omega, by go_num, rfl, ⟨_, fun q hq => ?_, NO.out⟩, NG.out⟩
        by_cases e : q = k
        · subst e; exact upd_same _ _ _
        · rw [upd_ne _ _ e]; exact HP.out q (by omega)
      case measure => simp [intOf]; omega
    · obtain rfl : k = n := by omega
      go_wp2_with (first
        | (at_builtin; refine Book.wpList_push rfl _ _ rfl (by rfl) (HO.out.allocd _) (by omega) (by have := HG.out.size; simp; omega) (v := 77) (by rfl) ?c1 (by omega) (by rfl) ?_))
      case c1 => simp
      intro a' c' w2 hown q1 q2 q3
      subst q1
      subst q2
      have NO := Lib.hid hown
      have NG := Lib.hid ((HG.out.alloc HG.out.size (.cells #[Value.int .u32 77] 57)).grown q3 (by have := HG.out.size; simp; omega) (fun q hq => by cases hq; exact Nat.le_refl _))
      have x1 : (k : Int) ≤ (k : Int) + 1 := by omega
      clear hown q3
      go_wp2_with fail
      go_ret
      refine ⟨_, rfl, NO.out.congr fun i hi => ?_, NG.out⟩
      show _ = if i < k then o i else 77
      by_cases e : i < k
      · rw [if_pos e, upd_ne _ _ (by omega)]; exact HP.out i e
      · rw [if_neg e, show i = k by omega]; exact upd_same _ _ _

set_option maxHeartbeats 2000000 in
theorem twinNum_any (s : Bool) (a : Option Addr) (n ca : Nat) (o : Nat → Int) (w : World) (ha : Rd w a n o) (hn : n ≤ 100000000) :
    Calls Tryz.prog 6 #[numV s a n ca] w fun e w' => ∃ g, e = .returned (numV s (some ⟨g, 0, none⟩) n (n + 1)) ∧ Own 57 w' w.heap.size (some ⟨g, 0, none⟩) (n + 1) (n + 1) (tw o n) ∧ Below w.heap.size w w' := by
  have HR := Lib.hid ha
  have B1 := ((Bx.new w 24 (.bool s) (.slice a n ca)).alloc (.cells #[.bool false, .slice none 0 0] 24))
  have B2 := (Bx.new2 w (.cells #[.bool s, .slice a n ca] 24) 24 (.bool false) (.slice none 0 0))
  clear ha
  go_enter Tryz.func6, Tryz.ntmps6
  go_upto_region 1 with (fail)
  obtain ⟨W, hW⟩ : ∃ W, W = ((w.alloc (.cells #[.bool s, .slice a n ca] 24)).alloc (.cells #[.bool false, .slice none 0 0] 24)) := ⟨_, rfl⟩
  have G1 := Lib.hid (((Below.refl _ _).alloc (by go_size) _ |>.alloc (by go_size) _) : Below w.heap.size w ((w.alloc (.cells #[.bool s, .slice a n ca] 24)).alloc (.cells #[.bool false, .slice none 0 0] 24)))
  rw [← hW] at B1 B2 G1
  rw [show ((w.alloc (.cells #[.bool s, .slice a n ca] 24)).alloc (.cells #[.bool false, .slice none 0 0] 24)) = W from hW.symm]
  have HB1 := Lib.hid B1; have HB2 := Lib.hid B2
  clear hW B1 B2
  have HS1 := Lib.hid (fun (w' : World) (hb : Below W.heap.size W w') => And.intro (HB1.out.below hb HB1.out.lt).c0 (HB1.out.below hb HB1.out.lt).c1)
  have TW := Lib.hid (fun (w' : World) (hb : Below W.heap.size W w') => twinLimbs_any a n ca o w' (HR.out.below (G1.out.trans (hb.mono G1.out.size))) hn)
  refine wp_region_fresh 6 (spOf [(4, Sp.made (fun g : Nat => .slice (some ⟨g, 0, none⟩) n (n + 1)) (fun g w' => Own 57 w' W.heap.size (some ⟨g, 0, none⟩) (n + 1) (n + 1) (tw o n)))])
    (fun w' => Below W.heap.size W w') (by kernel_rfl) (by kernel_rfl)
    (spOf_cons (Sp.made_keeps fun x w w' h hb => h.below hb) spOf_nil) (fun _ _ h hb => h.trans (hb.mono h.size)) ((Below.refl _ _).drew) ?_
  simp only [List.take_succ_cons, List.take_zero, List.drop_succ_cons, List.drop_zero]
  (refine wpF_reads rfl rfl ?_ (fun w' hw' => ?_) ?_; rotate_left; · (have hb' := Has.world hw'; (skip); clear hw'; go_simp; try rfl))
  (refine wpF_reads rfl rfl ?_ (fun w' hw' => ?_) ?_; rotate_left; · (have hb' := Has.world hw'; (have hs := HS1.out _ hb'); clear hw'; go_simp; try rfl))
  (refine wpF_reads rfl rfl ?_ (fun w' hw' => ?_) ?_; rotate_left; · (have hb' := Has.world hw'; (skip); clear hw'; go_simp; try rfl))
  (refine wpF_reads rfl rfl ?_ (fun w' hw' => ?_) ?_; rotate_left; · (have hb' := Has.world hw'; (have hs := HS1.out _ hb'); clear hw'; go_simp; try rfl))
  (refine wpF_spec rfl rfl (fun w' hw' => ?_) ?_; · (have hb' := Has.world hw'; go_simp; ((refine (TW.out w' hb').mono ?_; rintro e w'' ⟨g, rfl, hO, hb⟩; exact ⟨_, rfl, ⟨⟨g, rfl⟩, ⟨g, rfl, hO.mono hb'.size⟩⟩, hb⟩))))
  rintro _ ⟨g, rfl⟩
  (refine wpF_reads rfl rfl ?_ (fun w' hw' => ?_) ?_; rotate_left; · (have hb' := Has.world hw'; (skip); clear hw'; go_simp; try rfl))
  refine wpF_nil (fun w5 hb5 hF5 => ?_)
  have OA : Own 57 w5 W.heap.size (some ⟨g, 0, none⟩) (n + 1) (n + 1) (tw o n) := by
    obtain ⟨x, e, h⟩ := hF5 4
    cases e
    exact h
  have HO := Lib.hid OA
  have B2 := HB2.out.below hb5 HB2.out.lt
  have HB5 := Lib.hid B2
  obtain ⟨b30, b31, b32, b33⟩ := B2.all
  have HG5 := Lib.hid (G1.out.trans (hb5.mono G1.out.size))
  have hz4 := HB2.out.lt
  have hz5 := G1.out.size
  clear hF5 OA B2 hb5 HS1 TW
  go_wp2_with fail
  refine bodyPost_ret (results_cell rfl _ _ _ _ _ _ _ rfl (HB5.out.set _ _) Tryz.underlying24 rfl (by kernel_rfl)) rfl ⟨g, rfl, ?_, ?_⟩
  · exact ((HO.out.other (by dsimp only; omega) _).other (by dsimp only; omega) _).mono hz5
  · exact (HG5.out.setCell (by dsimp only; omega) _).setCell (by dsimp only; omega) _

open Classical in
set_option maxHeartbeats 1000000 in
theorem great_any (M g k c : Nat) (A : Nat → Option Addr) (N C : Nat → Nat) (w : World) (hc : ∀ i, i < k → w.cell? ⟨g, i * 2 + 1, none⟩ = some (.slice (A i) (N i) (C i))) (hk : k ≤ 1000) :
    Calls Tryz.prog 5 #[.int .i64 M, .slice (some ⟨g, 0, none⟩) k c] w fun e w' => e = .returned (.bool (decide (∃ i, i < k ∧ M < N i))) ∧ w' = w := by
  have HC := Lib.hid hc
  have Y := Lib.hid (fun i (hi : i < k) (h : M < N i) => (decide_eq_true ⟨i, hi, h⟩ : decide (∃ i, i < k ∧ M < N i) = true))
  have Z := Lib.hid (fun (h : ∀ i, i < k → N i ≤ M) => (decide_eq_false (fun ⟨i, hi, h1⟩ => by have := h i hi; omega) : decide (∃ i, i < k ∧ M < N i) = false))
  clear hc
  go_enter Tryz.func5, Tryz.ntmps5
  go_wp2_with fail
  go_loopw [5] (fun v wr => ∃ i : Nat, i ≤ k ∧ v = .int .i64 i ∧ (∀ j, j < i → N j ≤ M) ∧ wr = w) (fun v _ => k - (intOf v).toNat)
  case atStart => exact ⟨0, by omega, rfl, fun j hj => by omega, rfl⟩
  case round =>
    obtain ⟨i, hi, rfl, hM, rfl⟩ := hrel
    have HM := Lib.hid hM
    clear hM
    by_cases hik : i < k
    · have c1 := HC.out i hik
      obtain ⟨n, hn⟩ : ∃ n, n = N i := ⟨_, rfl⟩
      rw [← hn] at c1
      have EN := Lib.hid hn
      clear hn
      by_cases hg : M < n
      · have x1 : (n : Int) > (M : Int) := by omega
        have E := Lib.hid (Y.out i hik (by rw [← EN.out]; exact hg))
        go_wp2_with fail
        go_ret
        exact ⟨by rw [E.out]; rfl, rfl⟩
      · have x1 : ¬ (n : Int) > (M : Int) := by omega
        go_wp2_with fail
        go_roundw
        case rel =>
          refine ⟨i + 1, by omega, by go_num, fun j hj => ?_, by trivial⟩
          by_cases e : j = i
          · subst e; have := EN.out; omega
          · exact HM.out j (by omega)
        case measure => simp [intOf]; omega
    · obtain rfl : i = k := by omega
      have E := Lib.hid (Z.out HM.out)
      go_wp2_with fail
      go_ret
      exact ⟨by rw [E.out]; rfl, rfl⟩
end Go.Proofs.YtebobpbcllideaaGreatDoor.Limb
