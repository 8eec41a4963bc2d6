/-
  The walks of Div, of limbs and of the document's answer, where it is refused.
-/
import Derived.Test.YtefjjhfahebmeaaGreatDoorRsC
import Derived.RegionTactic
import Derived.Deep.CutBlock
set_option linter.unusedSimpArgs false
set_option linter.unusedVariables false
namespace Go.Proofs.YtefjjhfahebmeaaGreatDoor.Limb
open Go.RowKit Go.Sort Go.Fresh
theorem Bx.new4 (w : World) (p q r : Obj) (t : TypeId) (x y : Value) : Bx ((((w.alloc p).alloc q).alloc r).alloc (.cells #[x, y] t)) (w.heap.size + 1 + 1 + 1) t x y := by
  have h := Bx.new (((w.alloc p).alloc q).alloc r) t x y
  simp only [World.size_alloc] at h
  exact h
theorem results_cct {P : Program} {fn : Func} {p q t : Tmp} {ty : TypeId} (h : fn.results = #[.cell p ty, .cell q ty, .tmp t]) (tmps : Array Value) (w : World) (g g2 : Nat) (ta tb : TypeId) (cs cs2 : Array Value) (fr fr2 : Nat × Nat) (d : TypeDesc)
    (hp : tmps.getD p undef = .pointer (some ⟨g, 0, none⟩)) (hg : w.heap[g]? = some (.cells cs ta fr)) (hq : tmps.getD q undef = .pointer (some ⟨g2, 0, none⟩)) (hg2 : w.heap[g2]? = some (.cells cs2 tb fr2))
    (hu : P.underlying ty = some d) (hd : (match d with | .struct _ | .array _ _ => true | _ => false) = true) (hi : (P.info? ty).map (·.size) = some cs.size) (hi2 : (P.info? ty).map (·.size) = some cs2.size) :
    (results fn tmps).run P w = .ok (.tuple #[.agg cs, .agg cs2, tmps.getD t undef]) w := by
  have hp' : tmps[p]?.getD undef = .pointer (some ⟨g, 0, none⟩) := by simpa using hp
  have hq' : tmps[q]?.getD undef = .pointer (some ⟨g2, 0, none⟩) := by simpa using hq
  simp [results, h, hp', hq', asAddr, run_loadVar_row w g ta ty cs fr d hg hu hd hi, run_loadVar_row w g2 tb ty cs2 fr2 d hg2 hu hd hi2]
def Apart2 (a b : Option Addr) : Prop := ∀ p q, a = some p → b = some q → p.block ≠ q.block
def DivR (w : World) (x y : Int) (e : Ending) (w' : World) : Prop :=
  ∃ aq ar, e = .returned (.tuple #[numV (decide (x / y < 0)) aq (lenB (x / y).natAbs) (lenB (x / y).natAbs), numV (decide (x % y < 0)) ar (lenB (x % y).natAbs) (lenB (x % y).natAbs), .int .i64 0]) ∧
    Own 54 w' w.heap.size aq (lenB (x / y).natAbs) (lenB (x / y).natAbs) (dgi (x / y).natAbs) ∧ Own 54 w' w.heap.size ar (lenB (x % y).natAbs) (lenB (x % y).natAbs) (dgi (x % y).natAbs) ∧
    Apart2 aq ar ∧ (aq = none → lenB (x / y).natAbs = 0) ∧ (ar = none → lenB (x % y).natAbs = 0) ∧ Below w.heap.size w w'
structure AmtO (w : World) (lo : Nat) (a : Option Addr) (K c N : Nat) (o : Nat → Int) : Prop where
  own : Own 54 w lo a K c o
  dig : Dig o K
  sum : sumB o K = (N : Int)
  le : K ≤ 100000001
  nil : a = none → c = 0
theorem AmtO.below {w w' : World} {lo : Nat} {a : Option Addr} {K c N : Nat} {o : Nat → Int} (h : AmtO w lo a K c N o) (hb : Below w.heap.size w w') : AmtO w' lo a K c N o := ⟨h.own.below hb, h.dig, h.sum, h.le, h.nil⟩
theorem AmtO.other {w : World} {lo : Nat} {a : Option Addr} {K c N : Nat} {o : Nat → Int} (h : AmtO w lo a K c N o) {p : Addr} (hp : p.block < lo) (v : Value) : AmtO (w.setCell p v) lo a K c N o := ⟨h.own.other hp v, h.dig, h.sum, h.le, h.nil⟩
theorem AmtO.num {w : World} {lo : Nat} {a : Option Addr} {K c N : Nat} {o : Nat → Int} (h : AmtO w lo a K c N o) : Own 54 w lo a (lenB N) (lenB N) (dgi N) := by
  have hs : (sumB o K).toNat = N := by rw [h.sum]; omega
  have hl := lenB_le_of h.dig
  rw [hs] at hl
  refine h.own.cut hl fun i hi => ?_
  have := dg_sumB h.dig i (by omega)
  rw [hs] at this
  exact this.symm
theorem AmtO.none {w : World} {lo : Nat} {a : Option Addr} {K c N : Nat} {o : Nat → Int} (h : AmtO w lo a K c N o) (ha : a = none) : lenB N = 0 := by
  have hs : (sumB o K).toNat = N := by rw [h.sum]; omega
  have hl := lenB_le_of h.dig
  rw [hs] at hl
  have h1 := h.nil ha
  have h2 := h.own.le
  omega
theorem cut_amt (s sB : Bool) (a : Option Addr) (K c N lo : Nat) (o : Nat → Int) (w : World) (h : AmtO w lo a K c N o) (hB : (s && decide (0 < lenB N)) = sB) :
    Calls Tryz.prog 36 #[.bool s, .slice a K c] w fun e w' => e = .returned (numV sB a (lenB N) (lenB N)) ∧ Own 54 w' lo a (lenB N) (lenB N) (dgi N) ∧ Below w.heap.size w w' := by
  have hC := cut_any s a K c o w h.own.rd h.dig (by have := h.le; omega) h.own.le h.nil
  have hs : (sumB o K).toNat = N := by rw [h.sum]; omega
  rw [hs, hB] at hC
  refine hC.mono ?_
  rintro e w' ⟨rfl, hb⟩
  refine ⟨rfl, (h.own.below hb).cut ?_ ?_, hb⟩
  · rw [← hs]; exact lenB_le_of h.dig
  · intro i hi
    have := dg_sumB h.dig i (by have := lenB_le_of h.dig; rw [hs] at this; omega)
    rw [hs] at this
    exact this.symm
theorem short_of {g n b : Nat} {A R : Int} {w : World} (h : ∃ x : Nat, Value.tuple #[.slice (some ⟨g, 0, none⟩) n n, .int .u32 R] = .tuple #[.slice (some ⟨x, 0, none⟩) n n, .int .u32 R] ∧ ∃ p, Dig p n ∧ sumB p n = A ∧ Own 54 w b (some ⟨x, 0, none⟩) n n p) :
    ∃ p, Dig p n ∧ sumB p n = A ∧ Own 54 w b (some ⟨g, 0, none⟩) n n p := by
  obtain ⟨x, e, h⟩ := h
  simp only [Value.tuple.injEq, Array.mk.injEq, List.cons.injEq, Value.slice.injEq, Option.some.injEq, Addr.mk.injEq, and_true] at e
  rw [e]; exact h
open Classical in
set_option maxRecDepth 100000 in
set_option maxHeartbeats 4000000 in
theorem div_ok (z1 z2 : Int) (a1 a2 : Option Addr) (c1 c2 : Nat) (w : World) (h1 : Rd w a1 (lenB z1.natAbs) (dgi z1.natAbs)) (hn1 : lenB z1.natAbs ≤ 10000000) (hc1 : lenB z1.natAbs ≤ c1) (h2 : Rd w a2 (lenB z2.natAbs) (dgi z2.natAbs)) (hn2 : lenB z2.natAbs ≤ 10000000) (hc2 : lenB z2.natAbs ≤ c2) (hz : z2 ≠ 0) :
    Calls Tryz.prog 25 #[numV (decide (z1 < 0)) a1 (lenB z1.natAbs) c1, numV (decide (z2 < 0)) a2 (lenB z2.natAbs) c2] w (DivR w z1 z2) := by
  obtain ⟨N1, hN1⟩ : ∃ N1, N1 = lenB z1.natAbs := ⟨_, rfl⟩
  obtain ⟨N2, hN2⟩ : ∃ N2, N2 = lenB z2.natAbs := ⟨_, rfl⟩
  obtain ⟨s1, hs1⟩ : ∃ s1, s1 = decide (z1 < 0) := ⟨_, rfl⟩
  obtain ⟨s2, hs2⟩ : ∃ s2, s2 = decide (z2 < 0) := ⟨_, rfl⟩
  have hpos : 0 < N2 := by rw [hN2]; exact pos_of_len.2 (by omega)
  have ok1 := canon_ok z1
  have ok2 := canon_ok z2
  have HZ := Lib.hid hz
  rw [← hN1, ← hs1] at ok1
  rw [← hN2, ← hs2] at ok2
  rw [← hN1] at h1 hn1 hc1 ⊢
  rw [← hN2] at h2 hn2 hc2 ⊢
  rw [← hs1, ← hs2]
  have CK1 := Lib.hid (fun (w' : World) (hb : Below w.heap.size w w') => check_any s1 a1 N1 c1 (dgi z1.natAbs) w' (h1.below hb) (by omega))
  have CK2 := Lib.hid (fun (w' : World) (hb : Below w.heap.size w w') => check_any s2 a2 N2 c2 (dgi z2.natAbs) w' (h2.below hb) (by omega))
  rw [decide_eq_true ok1] at CK1
  rw [decide_eq_true ok2] at CK2
  have HR := Lib.hid (And.intro h1 h2)
  have HE := Lib.hid (And.intro (And.intro hN1 hN2) (And.intro hs1 hs2))
  have B1 := ((((Bx.new w 24 (.bool s1) (.slice a1 N1 c1)).alloc (.cells #[.bool s2, .slice a2 N2 c2] 24)).alloc (.cells #[.bool false, .slice none 0 0] 24)).alloc (.cells #[.bool false, .slice none 0 0] 24))
  have B2 := (((Bx.new2 w (.cells #[.bool s1, .slice a1 N1 c1] 24) 24 (.bool s2) (.slice a2 N2 c2)).alloc (.cells #[.bool false, .slice none 0 0] 24)).alloc (.cells #[.bool false, .slice none 0 0] 24))
  have B3 := ((Bx.new3 w (.cells #[.bool s1, .slice a1 N1 c1] 24) (.cells #[.bool s2, .slice a2 N2 c2] 24) 24 (.bool false) (.slice none 0 0)).alloc (.cells #[.bool false, .slice none 0 0] 24))
  have B4 := (Bx.new4 w (.cells #[.bool s1, .slice a1 N1 c1] 24) (.cells #[.bool s2, .slice a2 N2 c2] 24) (.cells #[.bool false, .slice none 0 0] 24) 24 (.bool false) (.slice none 0 0))
  clear ok1 ok2 h1 h2 hN1 hN2 hs1 hs2 hz
  go_enter Tryz.func25, Tryz.ntmps25
  go_upto_region 1 with (fail)
  obtain ⟨W, hW⟩ : ∃ W, W = ((((w.alloc (.cells #[.bool s1, .slice a1 N1 c1] 24)).alloc (.cells #[.bool s2, .slice a2 N2 c2] 24)).alloc (.cells #[.bool false, .slice none 0 0] 24)).alloc (.cells #[.bool false, .slice none 0 0] 24)) := ⟨_, rfl⟩
  have G1 := Lib.hid (((Below.refl _ _).alloc (by go_size) _ |>.alloc (by go_size) _ |>.alloc (by go_size) _ |>.alloc (by go_size) _) : Below w.heap.size w ((((w.alloc (.cells #[.bool s1, .slice a1 N1 c1] 24)).alloc (.cells #[.bool s2, .slice a2 N2 c2] 24)).alloc (.cells #[.bool false, .slice none 0 0] 24)).alloc (.cells #[.bool false, .slice none 0 0] 24)))
  have hWs : w.heap.size + 1 + 1 + 1 + 1 = W.heap.size := by rw [hW]; simp
  rw [← hW] at B1 B2 B3 B4 G1
  rw [show ((((w.alloc (.cells #[.bool s1, .slice a1 N1 c1] 24)).alloc (.cells #[.bool s2, .slice a2 N2 c2] 24)).alloc (.cells #[.bool false, .slice none 0 0] 24)).alloc (.cells #[.bool false, .slice none 0 0] 24)) = W from hW.symm]
  clear hW
  have HB1 := Lib.hid B1; have HB2 := Lib.hid B2; have HB3 := Lib.hid B3; have HB4 := Lib.hid B4
  have HWS := Lib.hid hWs
  clear B1 B2 B3 B4 hWs
  have fb := fun (w' : World) (hb : Below W.heap.size W w') => And.intro (HB1.out.below hb HB1.out.lt) (And.intro (HB2.out.below hb HB2.out.lt) (And.intro (HB3.out.below hb HB3.out.lt) (HB4.out.below hb HB4.out.lt)))
  have FB := Lib.hid fb
  clear fb
  obtain ⟨b10, b11, b12, b13⟩ := HB1.out.all
  obtain ⟨b20, b21, b22, b23⟩ := HB2.out.all
  go_wp2_with fail
  refine (CK1.out _ G1.out).mono ?_
  rintro e w1 ⟨rfl, hb1⟩
  have K := FB.out _ hb1
  have GB := Lib.hid hb1
  clear b10 b11 b12 b13 b20 b21 b22 b23 hb1
  obtain ⟨b20, b21, b22, b23⟩ := K.2.1.all
  clear K
  go_wp2_with fail
  refine (CK2.out _ (G1.out.trans (GB.out.mono G1.out.size))).mono ?_
  rintro e w2 ⟨rfl, hb2⟩
  have GB := Lib.hid (GB.out.trans (hb2.mono GB.out.size))
  have K := FB.out _ GB.out
  clear b20 b21 b22 b23 hb2 CK1 CK2
  obtain ⟨b10, b11, b12, b13⟩ := K.1.all
  obtain ⟨b20, b21, b22, b23⟩ := K.2.1.all
  clear K
  have hne0 : decide ((N2 : Int) = 0) = false := decide_eq_false (by omega)
  have hne1 : ((N2 : Int) == 0) = false := by simp; omega
  have AM := Lib.hid (amounts_any z1.natAbs z2.natAbs a1 a2 c1 c2 w2 (by rw [← HE.out.1.1]; exact HR.out.1.below (G1.out.trans (GB.out.mono G1.out.size))) (by rw [← HE.out.1.2]; exact HR.out.2.below (G1.out.trans (GB.out.mono G1.out.size))) (by have := HE.out.1.1; omega) (by have := HE.out.1.2; omega))
  rw [← HE.out.1.1, ← HE.out.1.2] at AM
  obtain ⟨cz, hcz⟩ : ∃ cz, cz = cmpZ (z1.natAbs : Int) (z2.natAbs : Int) := ⟨_, rfl⟩
  rw [← hcz] at AM
  have HCZ := Lib.hid hcz
  clear hcz
  go_upto_block 1 with (fail)
  go_cut [7, 8] (fun v7 v8 wx => ∃ o1 K1 d1 p1 o2 K2 d2 p2, v7 = .slice o1 K1 d1 ∧ v8 = .slice o2 K2 d2 ∧ AmtO wx W.heap.size o1 K1 d1 (z1.natAbs / z2.natAbs) p1 ∧ AmtO wx W.heap.size o2 K2 d2 (z1.natAbs % z2.natAbs) p2 ∧ Apart2 o1 o2 ∧ Below W.heap.size W wx)
  case first =>
    go_wp2_with fail
    refine AM.out.mono ?_
    rintro e w3 ⟨rfl, m, rfl⟩
    obtain ⟨w3, hw3⟩ : ∃ w3, w3 = w2.drewN m := ⟨_, rfl⟩
    rw [← hw3]
    have GB := Lib.hid (show Below W.heap.size W w3 by rw [hw3]; exact bdrewN GB.out m)
    clear hw3 AM b10 b11 b12 b13 b20 b21 b22 b23
    have K := FB.out _ GB.out
    obtain ⟨b10, b11, b12, b13⟩ := K.1.all
    obtain ⟨b20, b21, b22, b23⟩ := K.2.1.all
    clear K
    have HRR := Lib.hid (And.intro (HR.out.1.below (G1.out.trans (GB.out.mono G1.out.size))) (HR.out.2.below (G1.out.trans (GB.out.mono G1.out.size))))
    by_cases hlt : cz < 0
    · have CL := Lib.hid (clone_any a1 N1 c1 (dgi z1.natAbs) w3 HRR.out.1 (by omega))
      go_wp2_with fail
      refine CL.out.mono ?_
      rintro e w4 ⟨x, d, rfl, hO, hn, hb⟩
      have HO := Lib.hid (And.intro (hO.mono GB.out.size) hn)
      have GB := Lib.hid (GB.out.trans (hb.mono GB.out.size))
      clear hO hn hb CL b10 b11 b12 b13 b20 b21 b22 b23
      go_wp2_with fail
      go_meet
      case rel =>
        have hAB : z1.natAbs < z2.natAbs := by
          have h := HCZ.out
          rcases Nat.lt_or_ge z1.natAbs z2.natAbs with h1 | h1
          · exact h1
          · exfalso
            rcases Nat.lt_or_ge z2.natAbs z1.natAbs with h2 | h2
            · rw [cmpZ_gt (by omega)] at h; omega
            · rw [cmpZ_eq (by omega)] at h; omega
        refine ⟨none, 0, 0, fun _ => 0, x, N1, d, dgi z1.natAbs, rfl, rfl, ⟨⟨Nat.le_refl _, Or.inl ⟨rfl, rfl, rfl⟩, fun i hi => by omega⟩, fun i hi => by omega, by rw [Nat.div_eq_of_lt hAB]; rfl, by omega, fun _ => rfl⟩,
          ⟨HO.out.1, dgi_Dig _ _, by rw [Nat.mod_eq_of_lt hAB, HE.out.1.1]; exact sumB_dgi _, by omega, HO.out.2⟩, (fun p q h => by cases h), GB.out⟩
    · have hdl : decide (cz < 0) = false := decide_eq_false hlt
      have hBA : z2.natAbs ≤ z1.natAbs := by
        have h := HCZ.out
        rcases Nat.lt_or_ge z1.natAbs z2.natAbs with h1 | h1
        · rw [cmpZ_lt (by omega)] at h; omega
        · exact h1
      have HBA := Lib.hid hBA
      clear hBA
      by_cases hone : N2 = 1
      · subst hone
        obtain ⟨bb, bo, rfl, hcell⟩ := HRR.out.2.cells (by omega)
        have e0 : z2.natAbs < 1000000000 := by have := lt_pw_lenB z2.natAbs; rw [← HE.out.1.2] at this; exact this
        have e1 : dgi z2.natAbs 0 = (z2.natAbs : Int) := by show ((dg z2.natAbs 0 : Nat) : Int) = _; rw [dg_zero]; omega
        have cc : w3.cell? ⟨bb, bo, none⟩ = some (.int .u32 (z2.natAbs : Int)) := by have := hcell 0 (by omega); rw [Nat.add_zero] at this; rw [this]; show some (Value.int .u32 (dgi z2.natAbs 0)) = _; rw [e1]
        have SHT := Lib.hid (fun (w' : World) (hb : Below w3.heap.size w3 w') => short_any a1 N1 c1 (dgi z1.natAbs) (z2.natAbs : Int) w' (HRR.out.1.below hb) (dgi_Dig _ _) (by omega) (by have := HZ.out; omega) (by omega))
        have HQ := Lib.hid (show sumB (dgi z1.natAbs) N1 = (z1.natAbs : Int) by rw [HE.out.1.1]; exact sumB_dgi _)
        rw [HQ.out] at SHT
        clear hcell e1
        have hbb : bb < w3.heap.size := block_lt_of_cell cc
        have HN := Lib.hid e0
        clear e0
        go_wp2_with fail
        have GB3 := GB
        refine wp_region_fresh 11 (spOf [(6, Sp.made (fun g : Nat => .tuple #[.slice (some ⟨g, 0, none⟩) N1 N1, .int .u32 ((z1.natAbs : Int) % (z2.natAbs : Int))]) (fun g w' => ∃ p, Dig p N1 ∧ sumB p N1 = (z1.natAbs : Int) / (z2.natAbs : Int) ∧ Own 54 w' w3.heap.size (some ⟨g, 0, none⟩) N1 N1 p))]) (fun w' => Below w3.heap.size w3 w') (by kernel_rfl) (by kernel_rfl)
          (spOf_cons (Sp.made_keeps fun x w w' h hb => by obtain ⟨p, d1, d2, d3⟩ := h; exact ⟨p, d1, d2, d3.below hb⟩) spOf_nil) (fun _ _ h hb => h.trans (hb.mono h.size)) ((Below.refl _ _).drew) ?_
        simp only [List.take_succ_cons, List.take_zero, List.drop_succ_cons, List.drop_zero]
        (refine wpF_reads rfl rfl ?_ (fun w' hw' => ?_) ?_; rotate_left; · (have hb' := Has.world hw'; (skip); clear hw'; go_simp; try rfl))
        conv => arg 9; simp only [Act.put, List.setIfInBounds_toArray, List.set_cons_succ, List.set_cons_zero]
        (refine wpF_reads rfl rfl ?_ (fun w' hw' => ?_) ?_; rotate_left; · (have hb' := Has.world hw'; (have hs := (bcell hb').1 w.heap.size 1 (by omega)); clear hw'; go_simp; try rfl))
        conv => arg 9; simp only [Act.put, List.setIfInBounds_toArray, List.set_cons_succ, List.set_cons_zero]
        (refine wpF_reads rfl rfl ?_ (fun w' hw' => ?_) ?_; rotate_left; · (have hb' := Has.world hw'; (skip); clear hw'; go_simp; try rfl))
        conv => arg 9; simp only [Act.put, List.setIfInBounds_toArray, List.set_cons_succ, List.set_cons_zero]
        (refine wpF_reads rfl rfl ?_ (fun w' hw' => ?_) ?_; rotate_left; · (have hb' := Has.world hw'; (have hs := (bcell hb').1 (w.heap.size + 1) 1 (by omega)); clear hw'; go_simp; try rfl))
        conv => arg 9; simp only [Act.put, List.setIfInBounds_toArray, List.set_cons_succ, List.set_cons_zero]
        (refine wpF_reads rfl rfl ?_ (fun w' hw' => ?_) ?_; rotate_left; · (have hb' := Has.world hw'; (skip); clear hw'; go_simp; try rfl))
        conv => arg 9; simp only [Act.put, List.setIfInBounds_toArray, List.set_cons_succ, List.set_cons_zero]
        (refine wpF_reads rfl rfl ?_ (fun w' hw' => ?_) ?_; rotate_left; · (have hb' := Has.world hw'; (have hs := (bcell hb').1 bb bo (by omega)); clear hw'; go_simp; try rfl))
        conv => arg 9; simp only [Act.put, List.setIfInBounds_toArray, List.set_cons_succ, List.set_cons_zero]
        (refine wpF_spec rfl rfl (fun w' hw' => ?_) ?_; · (have hb' := Has.world hw'; go_simp; ((refine (SHT.out w' hb').mono ?_; rintro e w'' ⟨p, rfl, d1, d2, d3, hb⟩; exact ⟨_, rfl, ⟨⟨_, rfl⟩, ⟨_, rfl, p, d1, d2, d3.mono hb'.size⟩⟩, hb⟩))))
        rintro _ ⟨g, rfl⟩
        conv => arg 9; simp only [Act.put, List.setIfInBounds_toArray, List.set_cons_succ, List.set_cons_zero]
        (refine wpF_reads rfl rfl ?_ (fun w' hw' => ?_) ?_; rotate_left; · (have hb' := Has.world hw'; (skip); clear hw'; go_simp; try rfl))
        conv => arg 9; simp only [Act.put, List.setIfInBounds_toArray, List.set_cons_succ, List.set_cons_zero]
        (refine wpF_reads rfl rfl ?_ (fun w' hw' => ?_) ?_; rotate_left; · (have hb' := Has.world hw'; (skip); clear hw'; go_simp; try rfl))
        conv => arg 9; simp only [Act.put, List.setIfInBounds_toArray, List.set_cons_succ, List.set_cons_zero]
        (refine wpF_reads rfl rfl ?_ (fun w' hw' => ?_) ?_; rotate_left; · (have hb' := Has.world hw'; (skip); clear hw'; go_simp; try rfl))
        conv => arg 9; simp only [Act.put, List.setIfInBounds_toArray, List.set_cons_succ, List.set_cons_zero]
        (refine wpF_reads rfl rfl ?_ (fun w' hw' => ?_) ?_; rotate_left; · (have hb' := Has.world hw'; (skip); clear hw'; go_simp; try rfl))
        conv => arg 9; simp only [Act.put, List.setIfInBounds_toArray, List.set_cons_succ, List.set_cons_zero]
        refine wpF_nil (fun w4 hb4 hF => ?_)
        obtain ⟨p, d1, d2, d3⟩ := short_of (hF 6)
        have HO := Lib.hid (And.intro d1 (And.intro d2 d3))
        have hg4 := (d3.blk rfl).2.2
        have HGL := Lib.hid (show g < w4.heap.size from hg4)
        have GB := Lib.hid (GB.out.trans (hb4.mono GB.out.size))
        have HS3 := Lib.hid hb4.size
        clear hF d1 d2 d3 hb4 hg4 SHT b10 b11 b12 b13 b20 b21 b22 b23 cc
        go_wp2_with fail
        go_meet
        case rel =>
          have hgl := HGL.out
          have hgs := GB.out.size
          have hr0 : 0 ≤ (z1.natAbs : Int) % (z2.natAbs : Int) ∧ (z1.natAbs : Int) % (z2.natAbs : Int) < 1000000000 := ⟨Int.emod_nonneg _ (by have := HZ.out; omega), by have := Int.emod_lt_of_pos (z1.natAbs : Int) (b := (z2.natAbs : Int)) (by have := HZ.out; omega); have := HN.out; omega⟩
          refine ⟨some ⟨g, 0, none⟩, N1, N1, p, some ⟨w4.heap.size, 0, none⟩, 1, 1, fun _ => (z1.natAbs : Int) % (z2.natAbs : Int), rfl, rfl, ⟨(HO.out.2.2.mono GB3.out.size).allocd _, HO.out.1, by rw [HO.out.2.1]; exact (Int.natCast_ediv _ _).symm, by omega, fun h => by cases h⟩,
            ⟨Own.of_rowIs (row_one w4 _ _) hgs (fun i hi => by omega), fun i hi => hr0, ?_, by omega, fun h => by cases h⟩, (fun p q hp hq => by cases hp; cases hq; dsimp only; omega), GB.out.alloc hgs _⟩
          show 0 + (z1.natAbs : Int) % (z2.natAbs : Int) * ((pw 0 : Nat) : Int) = _
          rw [pw_zero, Int.natCast_emod]; omega
      · obtain ⟨n, hn⟩ : ∃ n, N2 = n + 1 := ⟨N2 - 1, by omega⟩
        obtain ⟨m, hm⟩ : ∃ m, n = m + 1 := ⟨n - 1, by omega⟩
        obtain ⟨M, hM⟩ : ∃ M, M + N2 = N1 + 1 := ⟨N1 + 1 - N2, by have := lenB_mono HBA.out; rw [← HE.out.1.1, ← HE.out.1.2] at this; omega⟩
        have DV := Lib.hid (divide_any a1 a2 N1 c1 N2 n m c2 (N1 + 1) M (dgi z1.natAbs) (dgi z2.natAbs) w3 HRR.out.1 HRR.out.2 (dgi_Dig _ _) (dgi_Dig _ _) (by omega) hn hm rfl hM (by have := lenB_mono HBA.out; rw [← HE.out.1.1, ← HE.out.1.2] at this; exact this)
          (by have h := dg_last (m := z2.natAbs) (by have := HZ.out; omega); rw [← HE.out.1.2, hn, Nat.add_sub_cancel] at h; show ((dg z2.natAbs n : Nat) : Int) ≠ 0; omega))
        have hone1 : ((N2 : Int) == 1) = false := by simp; omega
        have HM := Lib.hid hM
        have HNN := Lib.hid hn
        clear hn hm hM
        go_wp2_with fail
        refine DV.out.mono ?_
        rintro e w4 ⟨gq, gr, qp, rp, rfl, hne, d1, d2, d3, d4, d5, d6, hb⟩
        have HO := Lib.hid (And.intro (And.intro d1 (And.intro d2 d5)) (And.intro d3 (And.intro d4 d6)))
        have HNE := Lib.hid hne
        have hgs := GB.out.size
        have GB4 := Lib.hid (GB.out.trans (hb.mono GB.out.size))
        clear hne d1 d2 d3 d4 d5 d6 hb DV hgs b10 b11 b12 b13 b20 b21 b22 b23
        go_wp2_with fail
        go_meet
        case rel =>
          have e1 : sumB (dgi z1.natAbs) N1 = (z1.natAbs : Int) := by rw [HE.out.1.1]; exact sumB_dgi _
          have e2 : sumB (dgi z2.natAbs) N2 = (z2.natAbs : Int) := by rw [HE.out.1.2]; exact sumB_dgi _
          exact ⟨some ⟨gq, 0, none⟩, M, M, qp, some ⟨gr, 0, none⟩, N2, N2, rp, rfl, rfl, ⟨HO.out.1.2.2.mono GB.out.size, HO.out.1.1, by rw [HO.out.1.2.1, e1, e2]; exact (Int.natCast_ediv _ _).symm, by have := HM.out; omega, fun h => by cases h⟩,
            ⟨HO.out.2.2.2.mono GB.out.size, HO.out.2.1, by rw [HO.out.2.2.1, e1, e2]; exact (Int.natCast_emod _ _).symm, by omega, fun h => by cases h⟩, (fun p q hp hq => by cases hp; cases hq; exact HNE.out), GB4.out⟩
  case rest =>
    obtain ⟨o1, K1, d1, p1, o2, K2, d2, p2, rfl, rfl, A1, A2, hap, hb⟩ := hcut
    obtain ⟨w4, rfl⟩ : ∃ w4, w4 = wc := ⟨_, rfl⟩
    have GB := Lib.hid hb
    have HA1 := Lib.hid A1; have HA2 := Lib.hid A2; have HAP := Lib.hid hap
    clear A1 A2 hap hb AM HCZ
    obtain ⟨sq, hsq⟩ : ∃ sq, sq = decide (q0 z1 z2 < 0) := ⟨_, rfl⟩
    obtain ⟨sr, hsr⟩ : ∃ sr, sr = decide (r0 z1 z2 < 0) := ⟨_, rfl⟩
    obtain ⟨Lq, hLq⟩ : ∃ Lq, Lq = lenB (z1.natAbs / z2.natAbs) := ⟨_, rfl⟩
    obtain ⟨Lr, hLr⟩ : ∃ Lr, Lr = lenB (z1.natAbs % z2.natAbs) := ⟨_, rfl⟩
    have CQ := Lib.hid (fun (w' : World) (hb : Below w4.heap.size w4 w') => cut_amt (!(s1 == s2)) sq o1 K1 d1 _ W.heap.size p1 w' (HA1.out.below hb) (by rw [HE.out.2.1, HE.out.2.2, hsq]; exact q0_sign z1 z2))
    have CR := Lib.hid (fun (w' : World) (hb : Below w4.heap.size w4 w') => cut_amt s1 sr o2 K2 d2 _ W.heap.size p2 w' (HA2.out.below hb) (by rw [HE.out.2.1, hsr]; exact r0_sign z1 z2))
    rw [← hLq] at CQ
    rw [← hLr] at CR
    have HSQ := Lib.hid (And.intro (And.intro hsq hsr) (And.intro hLq hLr))
    clear hsq hsr hLq hLr
    have HS := Lib.hid (fun (w' : World) (hb : Below w4.heap.size w4 w') => And.intro (FB.out w' (GB.out.trans (hb.mono GB.out.size))).1.all.1 (FB.out w' (GB.out.trans (hb.mono GB.out.size))).2.1.all.1)
    go_upto_region 12 with (fail)
    refine wp_region_fresh 10 (spOf [(6, Sp.know (numV sq o1 Lq Lq))]) (fun w' => Below w4.heap.size w4 w') (by kernel_rfl) (by kernel_rfl)
      (spOf_cons (Sp.know_keeps _) spOf_nil) (fun _ _ h hb => h.trans (hb.mono h.size)) ((Below.refl _ _).drew) ?_
    simp only [List.take_succ_cons, List.take_zero, List.drop_succ_cons, List.drop_zero]
    (refine wpF_reads rfl rfl ?_ (fun w' hw' => ?_) ?_; rotate_left; · (have hb' := Has.world hw'; (skip); clear hw'; go_simp; try rfl))
    conv => arg 9; simp only [Act.put, List.setIfInBounds_toArray, List.set_cons_succ, List.set_cons_zero]
    (refine wpF_reads rfl rfl ?_ (fun w' hw' => ?_) ?_; rotate_left; · (have hb' := Has.world hw'; (have hs := (HS.out _ hb').1); clear hw'; go_simp; try rfl))
    conv => arg 9; simp only [Act.put, List.setIfInBounds_toArray, List.set_cons_succ, List.set_cons_zero]
    (refine wpF_reads rfl rfl ?_ (fun w' hw' => ?_) ?_; rotate_left; · (have hb' := Has.world hw'; (skip); clear hw'; go_simp; try rfl))
    conv => arg 9; simp only [Act.put, List.setIfInBounds_toArray, List.set_cons_succ, List.set_cons_zero]
    (refine wpF_reads rfl rfl ?_ (fun w' hw' => ?_) ?_; rotate_left; · (have hb' := Has.world hw'; (have hs := (HS.out _ hb').2); clear hw'; go_simp; try rfl))
    conv => arg 9; simp only [Act.put, List.setIfInBounds_toArray, List.set_cons_succ, List.set_cons_zero]
    (refine wpF_reads rfl rfl ?_ (fun w' hw' => ?_) ?_; rotate_left; · (have hb' := Has.world hw'; (skip); clear hw'; go_simp; try rfl))
    conv => arg 9; simp only [Act.put, List.setIfInBounds_toArray, List.set_cons_succ, List.set_cons_zero]
    (refine wpF_reads rfl rfl ?_ (fun w' hw' => ?_) ?_; rotate_left; · (have hb' := Has.world hw'; (skip); clear hw'; go_simp; try rfl))
    conv => arg 9; simp only [Act.put, List.setIfInBounds_toArray, List.set_cons_succ, List.set_cons_zero]
    (refine wpF_spec rfl rfl (fun w' hw' => ?_) ?_; · (have hb' := Has.world hw'; go_simp; ((refine (CQ.out w' hb').mono ?_; rintro e w'' ⟨rfl, ho, hb⟩; exact ⟨_, rfl, rfl, hb⟩))))
    rintro _ rfl
    conv => arg 9; simp only [Act.put, List.setIfInBounds_toArray, List.set_cons_succ, List.set_cons_zero]
    (refine wpF_reads rfl rfl ?_ (fun w' hw' => ?_) ?_; rotate_left; · (have hb' := Has.world hw'; (skip); clear hw'; go_simp; try rfl))
    conv => arg 9; simp only [Act.put, List.setIfInBounds_toArray, List.set_cons_succ, List.set_cons_zero]
    (refine wpF_reads rfl rfl ?_ (fun w' hw' => ?_) ?_; rotate_left; · (have hb' := Has.world hw'; (have hs := (HS.out _ hb').1); clear hw'; go_simp; try rfl))
    conv => arg 9; simp only [Act.put, List.setIfInBounds_toArray, List.set_cons_succ, List.set_cons_zero]
    (refine wpF_reads rfl rfl ?_ (fun w' hw' => ?_) ?_; rotate_left; · (have hb' := Has.world hw'; (skip); clear hw'; go_simp; try rfl))
    conv => arg 9; simp only [Act.put, List.setIfInBounds_toArray, List.set_cons_succ, List.set_cons_zero]
    refine wpF_nil (fun w5 hb5 hF => ?_)
    have hG5 := GB.out.trans (hb5.mono GB.out.size)
    have CR5 := Lib.hid (CR.out w5 hb5)
    have HB5 := Lib.hid hb5
    clear hF hb5 CR CQ HS
    go_wp2_with fail
    refine CR5.out.mono ?_
    rintro e w6 ⟨rfl, -, hb6⟩
    have GB := Lib.hid (hG5.trans (hb6.mono hG5.size))
    have HX := Lib.hid (HB5.out.trans (hb6.mono HB5.out.size))
    have HA1 := Lib.hid (HA1.out.below HX.out); have HA2 := Lib.hid (HA2.out.below HX.out)
    clear HB5 HX hb6 hG5 CR5
    have K := FB.out _ GB.out
    obtain ⟨b10, b11, b12, b13⟩ := K.1.all
    obtain ⟨b20, b21, b22, b23⟩ := K.2.1.all
    obtain ⟨b30, b31, b32, b33⟩ := K.2.2.1.all
    obtain ⟨b40, b41, b42, b43⟩ := K.2.2.2.all
    have HK := Lib.hid K
    clear K
    go_upto_if 79 with (fail)
    obtain ⟨V, hV⟩ : ∃ V, V = ((((w6.setCell ⟨w.heap.size + 1 + 1, 0, none⟩ (.bool sq)).setCell ⟨w.heap.size + 1 + 1, 1, none⟩ (.slice o1 Lq Lq)).setCell ⟨w.heap.size + 1 + 1 + 1, 0, none⟩ (.bool sr)).setCell ⟨w.heap.size + 1 + 1 + 1, 1, none⟩ (.slice o2 Lr Lr)) := ⟨_, rfl⟩
    rw [← hV]
    have hws := HWS.out
    have HV1 := Lib.hid (show Bx V w.heap.size 24 (.bool s1) (.slice a1 N1 c1) by rw [hV]; exact (((HK.out.1.other (by dsimp only; omega) _).other (by dsimp only; omega) _).other (by dsimp only; omega) _).other (by dsimp only; omega) _)
    have HV2 := Lib.hid (show Bx V (w.heap.size + 1) 24 (.bool s2) (.slice a2 N2 c2) by rw [hV]; exact (((HK.out.2.1.other (by dsimp only; omega) _).other (by dsimp only; omega) _).other (by dsimp only; omega) _).other (by dsimp only; omega) _)
    have HV3 := Lib.hid (show Bx V (w.heap.size + 1 + 1) 24 (.bool sq) (.slice o1 Lq Lq) by rw [hV]; exact ((HK.out.2.2.1.set _ _).other (by dsimp only; omega) _).other (by dsimp only; omega) _)
    have HV4 := Lib.hid (show Bx V (w.heap.size + 1 + 1 + 1) 24 (.bool sr) (.slice o2 Lr Lr) by rw [hV]; exact ((HK.out.2.2.2.other (by dsimp only; omega) _).other (by dsimp only; omega) _).set _ _)
    have HQ := Lib.hid (show AmtO V W.heap.size o1 K1 d1 (z1.natAbs / z2.natAbs) p1 by rw [hV]; exact (((HA1.out.other (by dsimp only; omega) _).other (by dsimp only; omega) _).other (by dsimp only; omega) _).other (by dsimp only; omega) _)
    have HRM := Lib.hid (show AmtO V W.heap.size o2 K2 d2 (z1.natAbs % z2.natAbs) p2 by rw [hV]; exact (((HA2.out.other (by dsimp only; omega) _).other (by dsimp only; omega) _).other (by dsimp only; omega) _).other (by dsimp only; omega) _)
    have HGV := Lib.hid (show Below w.heap.size w V by
      rw [hV]
      have h := G1.out.trans (GB.out.mono G1.out.size)
      exact (((h.setCell (by dsimp only; omega) _).setCell (by dsimp only; omega) _).setCell (by dsimp only; omega) _).setCell (by dsimp only; omega) _)
    have HSV := Lib.hid (show W.heap.size ≤ V.heap.size by rw [hV]; simp only [World.size_setCell]; exact GB.out.size)
    clear hV HA1 HA2 HK GB FB b10 b11 b12 b13 b20 b21 b22 b23 b30 b31 b32 b33 b40 b41 b42 b43 HB1 HB2 HB3 HB4 G1 hws
    obtain ⟨b10, b11, b12, b13⟩ := HV1.out.all
    obtain ⟨b20, b21, b22, b23⟩ := HV2.out.all
    obtain ⟨b30, b31, b32, b33⟩ := HV3.out.all
    obtain ⟨b40, b41, b42, b43⟩ := HV4.out.all
    go_cut [] (fun wx => ∃ aq ar, Bx wx (w.heap.size + 1 + 1) 24 (.bool (decide (z1 / z2 < 0))) (.slice aq (lenB (z1 / z2).natAbs) (lenB (z1 / z2).natAbs)) ∧ Bx wx (w.heap.size + 1 + 1 + 1) 24 (.bool (decide (z1 % z2 < 0))) (.slice ar (lenB (z1 % z2).natAbs) (lenB (z1 % z2).natAbs)) ∧
      Own 54 wx W.heap.size aq (lenB (z1 / z2).natAbs) (lenB (z1 / z2).natAbs) (dgi (z1 / z2).natAbs) ∧ Own 54 wx W.heap.size ar (lenB (z1 % z2).natAbs) (lenB (z1 % z2).natAbs) (dgi (z1 % z2).natAbs) ∧ Apart2 aq ar ∧ (aq = none → lenB (z1 / z2).natAbs = 0) ∧ (ar = none → lenB (z1 % z2).natAbs = 0) ∧ Below w.heap.size w wx)
    case first =>
      by_cases hng : r0 z1 z2 < 0
      · have esr : sr = true := HSQ.out.1.2.trans (decide_eq_true hng)
        have HNG := Lib.hid hng
        obtain ⟨y, hy⟩ : ∃ y : Int, y = if z2 < 0 then 1 else -1 := ⟨_, rfl⟩
        have hy1 : y.natAbs = 1 := by rw [hy]; split <;> rfl
        have hy2 : (!s2) = decide (y < 0) := by
          rw [HE.out.2.2, hy]
          by_cases h : z2 < 0
          · rw [if_pos h, decide_eq_true h]; rfl
          · rw [if_neg h, decide_eq_false h]; rfl
        have HY := Lib.hid (And.intro hy (And.intro hy1 hy2))
        have OF := Lib.hid (of64_any 1 V (by omega) (by omega))
        clear hng hy hy1 hy2
        subst esr
        go_wp2_with fail
        refine OF.out.mono ?_
        rintro e w7 ⟨ay, rfl, hoy, -, hb7⟩
        rw [show (1 : Int).natAbs = 1 from rfl] at hoy
        have HOY := Lib.hid hoy
        have HB7 := Lib.hid hb7
        have M1 := HV1.out.below hb7 HV1.out.lt
        have M2 := HV2.out.below hb7 HV2.out.lt
        have M3 := HV3.out.below hb7 HV3.out.lt
        have M4 := HV4.out.below hb7 HV4.out.lt
        have HM2 := Lib.hid M2; have HM3 := Lib.hid M3; have HM4 := Lib.hid M4
        clear hoy hb7 OF b10 b11 b12 b13 b20 b21 b22 b23 b30 b31 b32 b33 b40 b41 b42 b43
        obtain ⟨b20, b21, b22, b23⟩ := M2.all
        obtain ⟨b30, b31, b32, b33⟩ := M3.all
        obtain ⟨b40, b41, b42, b43⟩ := M4.all
        clear M1 M2 M3 M4
        go_upto_region 18 with (fail)
        obtain ⟨U, hU⟩ : ∃ U, U = (w7.alloc (.cells #[.bool (!s2), .slice ay (lenB 1) (lenB 1)] 24)).alloc (.cells #[.bool false, .slice a2 N2 c2] 24) := ⟨_, rfl⟩
        have hbU : Below V.heap.size V U := by rw [hU]; exact (HB7.out.alloc HB7.out.size _).alloc (by simp; have := HB7.out.size; omega) _
        have hx1 : Bx U w7.heap.size 24 (.bool (!s2)) (.slice ay (lenB 1) (lenB 1)) := by rw [hU]; exact (Bx.new w7 _ _ _).alloc _
        have hx2 : Bx U (w7.heap.size + 1) 24 (.bool false) (.slice a2 N2 c2) := by rw [hU]; exact Bx.new2 w7 _ _ _ _
        have hoU : Own 54 U V.heap.size ay (lenB 1) (lenB 1) (dgi 1) := by rw [hU]; exact (HOY.out.allocd _).allocd _
        rw [show (w7.alloc (.cells #[.bool (!s2), .slice ay (lenB 1) (lenB 1)] 24)).alloc (.cells #[.bool false, .slice a2 N2 c2] 24) = U from hU.symm]
        have HBU := Lib.hid hbU; have HX1 := Lib.hid hx1; have HX2 := Lib.hid hx2; have HOU := Lib.hid hoU
        have HU3 := Lib.hid (HV3.out.below hbU HV3.out.lt)
        have HU4 := Lib.hid (HV4.out.below hbU HV4.out.lt)
        clear hU hbU hx1 hx2 hoU HOY HB7 HM2 HM3 HM4 b20 b21 b22 b23 b30 b31 b32 b33 b40 b41 b42 b43
        have DS := Lib.hid (div_down HZ.out HNG.out)
        obtain ⟨Q, hQ⟩ : ∃ Q, Q = z1 / z2 := ⟨_, rfl⟩
        obtain ⟨R, hR⟩ : ∃ R, R = z1 % z2 := ⟨_, rfl⟩
        have e1 : valN sq Lq (dgi (z1.natAbs / z2.natAbs)) + valN (!s2) (lenB 1) (dgi 1) = Q := by
          rw [hQ, DS.out.1, HSQ.out.1.1, HSQ.out.2.1, ← q0_abs, canon_val, HY.out.2.2, ← HY.out.2.1, canon_val, HY.out.1]
        have e2 : valN true Lr (dgi (z1.natAbs % z2.natAbs)) + valN false N2 (dgi z2.natAbs) = R := by
          have h := canon_val ((z2.natAbs : Nat) : Int)
          rw [show decide (((z2.natAbs : Nat) : Int) < 0) = false from decide_eq_false (by omega), Int.natAbs_natCast] at h
          rw [hR, DS.out.2, HSQ.out.1.2, HSQ.out.2.2, ← r0_abs, canon_val, HE.out.1.2, h]
        have hl1 : Lq ≤ 10000000 := by have := lenB_mono (Nat.div_le_self z1.natAbs z2.natAbs); rw [← HSQ.out.2.1, ← HE.out.1.1] at this; omega
        have hl2 : Lr ≤ 10000000 := by have := lenB_mono (Nat.le_of_lt (Nat.mod_lt z1.natAbs (show 0 < z2.natAbs by have := HZ.out; omega))); rw [← HSQ.out.2.2, ← HE.out.1.2] at this; omega
        have hl3 : lenB 1 ≤ 1 := lenB_le (by decide)
        have ho1 : Rd V o1 Lq (dgi (z1.natAbs / z2.natAbs)) := by rw [HSQ.out.2.1]; exact HQ.out.num.rd
        have ho2 : Rd V o2 Lr (dgi (z1.natAbs % z2.natAbs)) := by rw [HSQ.out.2.2]; exact HRM.out.num.rd
        have AD1 := Lib.hid (fun (w' : World) (hb : Below U.heap.size U w') => add_res sq o1 Lq Lq (dgi (z1.natAbs / z2.natAbs)) (!s2) ay (lenB 1) (lenB 1) (dgi 1) w' ((ho1.below HBU.out).below hb) (by omega) (Nat.le_refl _) (HOU.out.rd.below hb) (by omega) (Nat.le_refl _))
        have AD2 := Lib.hid (fun (w' : World) (hb : Below U.heap.size U w') => add_res true o2 Lr Lr (dgi (z1.natAbs % z2.natAbs)) false a2 N2 c2 (dgi z2.natAbs) w' ((ho2.below HBU.out).below hb) (by omega) (Nat.le_refl _) (HR.out.2.below ((HGV.out.trans (HBU.out.mono HGV.out.size)).trans (hb.mono (Nat.le_trans HGV.out.size HBU.out.size)))) (by omega) hc2)
        rw [e1] at AD1
        rw [e2] at AD2
        have HQR := Lib.hid (And.intro hQ hR)
        clear hQ hR e1 e2 hl1 hl2 hl3 ho1 ho2
        have HS := Lib.hid (fun (w' : World) (hb : Below U.heap.size U w') => And.intro (And.intro (HU3.out.below hb HU3.out.lt) (HU4.out.below hb HU4.out.lt)) (And.intro (HX1.out.below hb HX1.out.lt) (HX2.out.below hb HX2.out.lt)))
        refine wp_region_fresh 5 (spOf [(2, Sp.made (fun x : Option Addr => numV (decide (Q < 0)) x (lenB Q.natAbs) (lenB Q.natAbs)) (fun x w' => Own 54 w' U.heap.size x (lenB Q.natAbs) (lenB Q.natAbs) (dgi Q.natAbs) ∧ (x = none → lenB Q.natAbs = 0)))]) (fun w' => Below U.heap.size U w') (by kernel_rfl) (by kernel_rfl)
          (spOf_cons (Sp.made_keeps fun x w w' h hb => ⟨h.1.below hb, h.2⟩) spOf_nil) (fun _ _ h hb => h.trans (hb.mono h.size)) ((Below.refl _ _).drew) ?_
        simp only [List.take_succ_cons, List.take_zero, List.drop_succ_cons, List.drop_zero]
        (refine wpF_reads rfl rfl ?_ (fun w' hw' => ?_) ?_; rotate_left; · (have hb' := Has.world hw'; (obtain ⟨x0, x1, x2, x3⟩ := (HS.out _ hb').1.1.all); clear hw'; go_simp; try rfl))
        conv => arg 9; simp only [Act.put, List.setIfInBounds_toArray, List.set_cons_succ, List.set_cons_zero]
        (refine wpF_reads rfl rfl ?_ (fun w' hw' => ?_) ?_; rotate_left; · (have hb' := Has.world hw'; (obtain ⟨x0, x1, x2, x3⟩ := (HS.out _ hb').2.1.all); clear hw'; go_simp; try rfl))
        conv => arg 9; simp only [Act.put, List.setIfInBounds_toArray, List.set_cons_succ, List.set_cons_zero]
        (refine wpF_spec rfl rfl (fun w' hw' => ?_) ?_; · (have hb' := Has.world hw'; go_simp; ((refine (AD1.out w' hb').mono ?_; rintro e w'' ⟨a, rfl, ho, hn, hb⟩; exact ⟨_, rfl, ⟨⟨a, rfl⟩, ⟨a, rfl, ho.mono hb'.size, hn⟩⟩, hb⟩))))
        rintro _ ⟨x, rfl⟩
        conv => arg 9; simp only [Act.put, List.setIfInBounds_toArray, List.set_cons_succ, List.set_cons_zero]
        (refine wpF_reads rfl rfl ?_ (fun w' hw' => ?_) ?_; rotate_left; · (have hb' := Has.world hw'; (obtain ⟨x0, x1, x2, x3⟩ := (HS.out _ hb').1.2.all); clear hw'; go_simp; try rfl))
        conv => arg 9; simp only [Act.put, List.setIfInBounds_toArray, List.set_cons_succ, List.set_cons_zero]
        (refine wpF_reads rfl rfl ?_ (fun w' hw' => ?_) ?_; rotate_left; · (have hb' := Has.world hw'; (obtain ⟨x0, x1, x2, x3⟩ := (HS.out _ hb').2.2.all); clear hw'; go_simp; try rfl))
        conv => arg 9; simp only [Act.put, List.setIfInBounds_toArray, List.set_cons_succ, List.set_cons_zero]
        refine wpF_nil (fun w8 hb8 hF => ?_)
        have hX := own_num (T := 54) (b := U.heap.size) (s := decide (Q < 0)) (L := lenB Q.natAbs) (o := dgi Q.natAbs) (a := x) (p := fun x => x = none → lenB Q.natAbs = 0) (hF 2)
        have HXQ := Lib.hid hX
        have A2 := Lib.hid (AD2.out w8 hb8)
        have HB8 := Lib.hid hb8
        clear hF hX hb8 AD1 AD2
        go_wp2_with fail
        refine A2.out.mono ?_
        rintro e w9 ⟨y9, rfl, hoy, hny, hb9⟩
        have HB9 := Lib.hid (HB8.out.trans (hb9.mono HB8.out.size))
        have HXQ9 := Lib.hid (HXQ.out.1.below hb9)
        have HLT := Lib.hid (show ∀ p, x = some p → p.block < w8.heap.size from fun p hp => (HXQ.out.1.blk hp).2.2)
        have HOY := Lib.hid (And.intro hoy hny)
        have M := HS.out _ HB9.out
        have HM := Lib.hid M
        clear hoy hny hb9 A2
        obtain ⟨b30, b31, b32, b33⟩ := M.1.1.all
        obtain ⟨b40, b41, b42, b43⟩ := M.1.2.all
        clear M
        go_wp2_with fail
        go_meet
        case rel =>
          have s1' := HB8.out.size
          have s2' := HBU.out.size
          have s3' := HSV.out
          have s4' := HWS.out
          rw [← HQR.out.1, ← HQR.out.2]
          refine ⟨x, y9, ((HM.out.1.1.set _ _).other (by dsimp only; omega) _).other (by dsimp only; omega) _, ((HM.out.1.2.other (by dsimp only; omega) _).other (by dsimp only; omega) _).set _ _, ?_, ?_, ?_, HXQ.out.2, HOY.out.2, ?_⟩
          · exact ((((HXQ9.out.other (by dsimp only; omega) _).other (by dsimp only; omega) _).other (by dsimp only; omega) _).other (by dsimp only; omega) _).mono (by omega)
          · exact ((((HOY.out.1.other (by dsimp only; omega) _).other (by dsimp only; omega) _).other (by dsimp only; omega) _).other (by dsimp only; omega) _).mono (by omega)
          · intro p q hp hq e
            have h1 := HLT.out p hp
            have h2 := (HOY.out.1.blk hq).2.1
            omega
          · have h := (HGV.out.trans (HBU.out.mono HGV.out.size)).trans (HB9.out.mono (Nat.le_trans HGV.out.size HBU.out.size))
            exact (((h.setCell (by dsimp only; omega) _).setCell (by dsimp only; omega) _).setCell (by dsimp only; omega) _).setCell (by dsimp only; omega) _
      · have esr : sr = false := HSQ.out.1.2.trans (decide_eq_false hng)
        have DP := Lib.hid (div_plain HZ.out hng)
        subst esr
        clear hng
        go_wp2_with fail
        go_meet
        case rel =>
          have e1 : (z1 / z2).natAbs = z1.natAbs / z2.natAbs := by rw [DP.out.1, q0_abs]
          have e2 : (z1 % z2).natAbs = z1.natAbs % z2.natAbs := by rw [DP.out.2, r0_abs]
          refine ⟨o1, o2, ?_, ?_, ?_, ?_, HAP.out, ?_, ?_, HGV.out⟩
          · rw [e1, ← HSQ.out.2.1, DP.out.1, ← HSQ.out.1.1]; exact HV3.out
          · rw [e2, ← HSQ.out.2.2, DP.out.2, ← HSQ.out.1.2]; exact HV4.out
          · rw [e1]; exact HQ.out.num
          · rw [e2]; exact HRM.out.num
          · rw [e1]; exact HQ.out.none
          · rw [e2]; exact HRM.out.none
    case rest =>
      obtain ⟨aq, ar, B3, B4, hoq, hor, hap, hnq, hnr, hb⟩ := hcut
      obtain ⟨w8, rfl⟩ : ∃ w8, w8 = wc := ⟨_, rfl⟩
      have K3 := Lib.hid B3; have K4 := Lib.hid B4
      have HOQ := Lib.hid (And.intro hoq (And.intro hor (And.intro hap (And.intro hnq (And.intro hnr hb)))))
      clear hoq hor hap hnq hnr hb
      clear b10 b11 b12 b13 b20 b21 b22 b23 b30 b31 b32 b33 b40 b41 b42 b43
      obtain ⟨b30, b31, b32, b33⟩ := B3.all
      obtain ⟨b40, b41, b42, b43⟩ := B4.all
      clear B3 B4
      go_upto_region 19 with (fail)
      go_region
      go_wp2_with fail
      have hws := HWS.out
      have k3 := ((K3.out.set (.bool (decide (z1 / z2 < 0))) (.slice aq (lenB (z1 / z2).natAbs) (lenB (z1 / z2).natAbs))).other (a := ⟨w.heap.size + 1 + 1 + 1, 0, none⟩) (by dsimp only; omega) (.bool (decide (z1 % z2 < 0)))).other (a := ⟨w.heap.size + 1 + 1 + 1, 1, none⟩) (by dsimp only; omega) (.slice ar (lenB (z1 % z2).natAbs) (lenB (z1 % z2).natAbs))
      have k4 := ((K4.out.other (a := ⟨w.heap.size + 1 + 1, 0, none⟩) (by dsimp only; omega) (.bool (decide (z1 / z2 < 0)))).other (a := ⟨w.heap.size + 1 + 1, 1, none⟩) (by dsimp only; omega) (.slice aq (lenB (z1 / z2).natAbs) (lenB (z1 / z2).natAbs))).set (.bool (decide (z1 % z2 < 0))) (.slice ar (lenB (z1 % z2).natAbs) (lenB (z1 % z2).natAbs))
      refine bodyPost_ret (results_cct rfl _ _ _ _ _ _ _ _ _ _ _ rfl k3 rfl k4 Tryz.underlying24 rfl (by kernel_rfl) (by kernel_rfl)) rfl ⟨aq, ar, rfl, ?_, ?_, HOQ.out.2.2.1, HOQ.out.2.2.2.1, HOQ.out.2.2.2.2.1, ?_⟩
      · exact ((((((HOQ.out.1.other (by dsimp only; omega) _).other (by dsimp only; omega) _).other (by dsimp only; omega) _).other (by dsimp only; omega) _)).below (Below.refl _ _).drew).mono (by omega)
      · exact ((((((HOQ.out.2.1.other (by dsimp only; omega) _).other (by dsimp only; omega) _).other (by dsimp only; omega) _).other (by dsimp only; omega) _)).below (Below.refl _ _).drew).mono (by omega)
      · have h := HOQ.out.2.2.2.2.2
        exact ((((h.setCell (by dsimp only; omega) _).setCell (by dsimp only; omega) _).setCell (by dsimp only; omega) _).setCell (by dsimp only; omega) _).drew
open Classical in
set_option maxRecDepth 100000 in
set_option maxHeartbeats 2000000 in
theorem dive_3 (s1 : Bool) (a1 : Option Addr) (n1 c1 : Nat) (o1 : Nat → Int) (s2 : Bool) (a2 : Option Addr) (n2 c2 : Nat) (o2 : Nat → Int) (w : World)
    (h1 : Rd w a1 n1 o1) (hn1 : n1 ≤ 10000000) (h2 : Rd w a2 n2 o2) (hn2 : n2 ≤ 10000000) (hk1 : okN s1 n1 o1) (hk2 : okN s2 n2 o2) (hz : n2 = 0) :
    Calls Tryz.prog 25 #[numV s1 a1 n1 c1, numV s2 a2 n2 c2] w fun e w' => e = .returned (.tuple #[numV false none 0 0, numV false none 0 0, .int .i64 6]) ∧ Below w.heap.size w w' := by
  have CK1 := Lib.hid (fun (w' : World) (hb : Below w.heap.size w w') => check_any s1 a1 n1 c1 o1 w' (h1.below hb) (by omega))
  have CK2 := Lib.hid (fun (w' : World) (hb : Below w.heap.size w w') => check_any s2 a2 n2 c2 o2 w' (h2.below hb) (by omega))
  rw [decide_eq_true hk1] at CK1
  rw [decide_eq_true hk2] at CK2
  clear hk1 hk2
  subst hz
  have B1 := ((((Bx.new w 24 (.bool s1) (.slice a1 n1 c1)).alloc (.cells #[.bool s2, .slice a2 0 c2] 24)).alloc (.cells #[.bool false, .slice none 0 0] 24)).alloc (.cells #[.bool false, .slice none 0 0] 24))
  have B2 := (((Bx.new2 w (.cells #[.bool s1, .slice a1 n1 c1] 24) 24 (.bool s2) (.slice a2 0 c2)).alloc (.cells #[.bool false, .slice none 0 0] 24)).alloc (.cells #[.bool false, .slice none 0 0] 24))
  have B3 := ((Bx.new3 w (.cells #[.bool s1, .slice a1 n1 c1] 24) (.cells #[.bool s2, .slice a2 0 c2] 24) 24 (.bool false) (.slice none 0 0)).alloc (.cells #[.bool false, .slice none 0 0] 24))
  have B4 := (Bx.new4 w (.cells #[.bool s1, .slice a1 n1 c1] 24) (.cells #[.bool s2, .slice a2 0 c2] 24) (.cells #[.bool false, .slice none 0 0] 24) 24 (.bool false) (.slice none 0 0))
  clear h1 h2
  go_enter Tryz.func25, Tryz.ntmps25
  go_upto_region 1 with (fail)
  obtain ⟨W, hW⟩ : ∃ W, W = ((((w.alloc (.cells #[.bool s1, .slice a1 n1 c1] 24)).alloc (.cells #[.bool s2, .slice a2 0 c2] 24)).alloc (.cells #[.bool false, .slice none 0 0] 24)).alloc (.cells #[.bool false, .slice none 0 0] 24)) := ⟨_, rfl⟩
  have G1 := Lib.hid (((Below.refl _ _).alloc (by go_size) _ |>.alloc (by go_size) _ |>.alloc (by go_size) _ |>.alloc (by go_size) _) : Below w.heap.size w ((((w.alloc (.cells #[.bool s1, .slice a1 n1 c1] 24)).alloc (.cells #[.bool s2, .slice a2 0 c2] 24)).alloc (.cells #[.bool false, .slice none 0 0] 24)).alloc (.cells #[.bool false, .slice none 0 0] 24)))
  have hWs : w.heap.size + 1 + 1 + 1 + 1 = W.heap.size := by rw [hW]; simp
  rw [← hW] at B1 B2 B3 B4 G1
  rw [show ((((w.alloc (.cells #[.bool s1, .slice a1 n1 c1] 24)).alloc (.cells #[.bool s2, .slice a2 0 c2] 24)).alloc (.cells #[.bool false, .slice none 0 0] 24)).alloc (.cells #[.bool false, .slice none 0 0] 24)) = W from hW.symm]
  clear hW
  have HB1 := Lib.hid B1; have HB2 := Lib.hid B2; have HB3 := Lib.hid B3; have HB4 := Lib.hid B4
  have HWS := Lib.hid hWs
  clear B1 B2 B3 B4 hWs
  have fb := fun (w' : World) (hb : Below W.heap.size W w') => And.intro (HB1.out.below hb HB1.out.lt) (And.intro (HB2.out.below hb HB2.out.lt) (And.intro (HB3.out.below hb HB3.out.lt) (HB4.out.below hb HB4.out.lt)))
  have FB := Lib.hid fb
  clear fb
  obtain ⟨b10, b11, b12, b13⟩ := HB1.out.all
  obtain ⟨b20, b21, b22, b23⟩ := HB2.out.all
  go_wp2_with fail
  refine (CK1.out _ G1.out).mono ?_
  rintro e w1 ⟨rfl, hb1⟩
  have GB := Lib.hid hb1
  clear b10 b11 b12 b13 b20 b21 b22 b23 hb1
  have K := FB.out _ GB.out
  obtain ⟨b20, b21, b22, b23⟩ := K.2.1.all
  clear K
  go_wp2_with fail
  refine (CK2.out _ (G1.out.trans (GB.out.mono G1.out.size))).mono ?_
  rintro e w2 ⟨rfl, hb2⟩
  have GB := Lib.hid (GB.out.trans (hb2.mono GB.out.size))
  clear b20 b21 b22 b23 hb2
  have K := FB.out _ GB.out
  obtain ⟨b20, b21, b22, b23⟩ := K.2.1.all
  clear K
  have HK := Lib.hid (FB.out _ GB.out)
  obtain ⟨b30, b31, b32, b33⟩ := HK.out.2.2.1.all
  obtain ⟨b40, b41, b42, b43⟩ := HK.out.2.2.2.all
  go_upto_region 4 with (fail)
  go_region
  go_wp2_with fail
  have hws := HWS.out
  have k3 := ((HK.out.2.2.1.set (.bool false) (.slice none 0 0)).other (a := ⟨w.heap.size + 1 + 1 + 1, 0, none⟩) (by dsimp only; omega) (.bool false)).other (a := ⟨w.heap.size + 1 + 1 + 1, 1, none⟩) (by dsimp only; omega) (.slice none 0 0)
  have k4 := ((HK.out.2.2.2.other (a := ⟨w.heap.size + 1 + 1, 0, none⟩) (by dsimp only; omega) (.bool false)).other (a := ⟨w.heap.size + 1 + 1, 1, none⟩) (by dsimp only; omega) (.slice none 0 0)).set (.bool false) (.slice none 0 0)
  have h := G1.out.trans (GB.out.mono G1.out.size)
  exact bodyPost_ret (results_cct rfl _ _ _ _ _ _ _ _ _ _ _ rfl k3 rfl k4 Tryz.underlying24 rfl (by kernel_rfl) (by kernel_rfl)) rfl ⟨rfl, (((((h.setCell (by dsimp only; omega) _).setCell (by dsimp only; omega) _).setCell (by dsimp only; omega) _).setCell (by dsimp only; omega) _)).drew⟩
end Go.Proofs.YtefjjhfahebmeaaGreatDoor.Limb
