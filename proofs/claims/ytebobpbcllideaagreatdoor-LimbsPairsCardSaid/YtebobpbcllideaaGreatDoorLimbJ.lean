/-
  The walk of Mul of package limbs.
-/
import Derived.Test.YtebobpbcllideaaGreatDoorLimbI
import Derived.Test.YtebobpbcllideaaGreatDoorLimbPlain3
namespace Go.Proofs.YtebobpbcllideaaGreatDoor.Limb
open Go.RowKit Go.Sort Go.Fresh

theorem rows_upd {w : World} {g n j : Nat} {p : Nat → Int} (h : w.rowIs g 57 n (uc p)) (v : Int) : (w.setCell ⟨g, j, none⟩ (.int .u32 v)).rowIs g 57 n (uc (upd p j v)) :=
  (h.set j (.int .u32 v)).congr fun i hi => by
    by_cases e : i = j
    · subst e; rw [if_pos rfl]; show _ = Value.int .u32 (upd p i v i); rw [upd_same]
    · rw [if_neg e]; show Value.int .u32 (p i) = Value.int .u32 (upd p j v i); rw [upd_ne p v e]
theorem mul_sign (z1 z2 : Int) : ((!(decide (z1 < 0) == decide (z2 < 0))) && decide (0 < lenB (z1 * z2).natAbs)) = decide (z1 * z2 < 0) := by
  have e0 := pos_len (z := z1 * z2)
  rcases Int.lt_trichotomy z1 0 with h1 | h1 | h1
  · rcases Int.lt_trichotomy z2 0 with h2 | h2 | h2
    · have := Int.mul_pos_of_neg_of_neg h1 h2
      simp [h1, h2]; omega
    · subst h2; simp [h1, lenB_zero]
    · have := Int.mul_neg_of_neg_of_pos h1 h2
      have h3 : ¬ z2 < 0 := by omega
      simp only [h1, h3, decide_true, decide_false, Bool.true_beq, Bool.not_false, Bool.true_and]
      exact decide_eq_decide.2 (e0.trans (by omega))
  · subst h1; simp [lenB_zero]
  · rcases Int.lt_trichotomy z2 0 with h2 | h2 | h2
    · have := Int.mul_neg_of_pos_of_neg h1 h2
      have h3 : ¬ z1 < 0 := by omega
      simp only [h2, h3, decide_true, decide_false, Bool.false_beq, Bool.not_true, Bool.not_false, Bool.true_and]
      exact decide_eq_decide.2 (e0.trans (by omega))
    · subst h2; simp [lenB_zero]
    · have := Int.mul_pos h1 h2
      have h3 : ¬ z1 < 0 := by omega
      have h4 : ¬ z2 < 0 := by omega
      simp [h3, h4]; omega

set_option maxHeartbeats 2000000 in
theorem mul_any (s1 : Bool) (a1 : Option Addr) (n1 c1 : Nat) (o1 : Nat → Int) (s2 : Bool) (a2 : Option Addr) (n2 c2 : Nat) (o2 : Nat → Int) (w : World)
    (h1 : Rd w a1 n1 o1) (hn1 : n1 ≤ 100000000) (hc1 : n1 ≤ c1) (h2 : Rd w a2 n2 o2) (hn2 : n2 ≤ 100000000) (hc2 : n2 ≤ c2) :
    Calls Tryz.prog 9 #[numV s1 a1 n1 c1, numV s2 a2 n2 c2] w (ResN w (valN s1 n1 o1 * valN s2 n2 o2)) := by
  obtain ⟨x1, d1, r1, l1, m1, O1⟩ := of_any s1 a1 n1 c1 o1 w h1 (by omega) hc1
  obtain ⟨x2, d2, r2, l2, m2, O2⟩ := of_any s2 a2 n2 c2 o2 w h2 (by omega) hc2
  generalize valN s1 n1 o1 = z1 at r1 l1 m1 O1 ⊢
  have HO1 := Lib.hid O1; clear O1
  generalize valN s2 n2 o2 = z2 at r2 l2 m2 O2 ⊢
  have HO2 := Lib.hid O2; clear O2
  have B1 := (((Bx.new w 24 (.bool s1) (.slice a1 n1 c1)).alloc (.cells #[.bool s2, .slice a2 n2 c2] 24)).alloc (.cells #[.bool false, .slice none 0 0] 24))
  have B2 := ((Bx.new2 w (.cells #[.bool s1, .slice a1 n1 c1] 24) 24 (.bool s2) (.slice a2 n2 c2)).alloc (.cells #[.bool false, .slice none 0 0] 24))
  have B3 := (Bx.new3 w (.cells #[.bool s1, .slice a1 n1 c1] 24) (.cells #[.bool s2, .slice a2 n2 c2] 24) 24 (.bool false) (.slice none 0 0))
  go_enter Tryz.func9, Tryz.ntmps9
  go_upto_region 1 with (fail)
  obtain ⟨W, hW⟩ : ∃ W, W = (((w.alloc (.cells #[.bool s1, .slice a1 n1 c1] 24)).alloc (.cells #[.bool s2, .slice a2 n2 c2] 24)).alloc (.cells #[.bool false, .slice none 0 0] 24)) := ⟨_, rfl⟩
  have G1 := Lib.hid (((Below.refl _ _).alloc (by go_size) _ |>.alloc (by go_size) _ |>.alloc (by go_size) _) : Below w.heap.size w (((w.alloc (.cells #[.bool s1, .slice a1 n1 c1] 24)).alloc (.cells #[.bool s2, .slice a2 n2 c2] 24)).alloc (.cells #[.bool false, .slice none 0 0] 24)))
  rw [← hW] at B1 B2 B3 G1
  rw [show (((w.alloc (.cells #[.bool s1, .slice a1 n1 c1] 24)).alloc (.cells #[.bool s2, .slice a2 n2 c2] 24)).alloc (.cells #[.bool false, .slice none 0 0] 24)) = W from hW.symm]
  clear hW
  go_cut [] (fun wx => Bx wx w.heap.size 24 (.bool (decide (z1 < 0))) (.slice x1 (lenB z1.natAbs) d1) ∧ Bx wx (w.heap.size + 1) 24 (.bool (decide (z2 < 0))) (.slice x2 (lenB z2.natAbs) d2) ∧
    Bx wx (w.heap.size + 1 + 1) 24 (.bool false) (.slice none 0 0) ∧ Below w.heap.size w wx)
  case first =>
    have HS1 := Lib.hid (fun (w' : World) (hb : Below W.heap.size W w') => And.intro (B1.below hb B1.lt).c0 (B1.below hb B1.lt).c1)
    have HS2 := Lib.hid (fun (w' : World) (hb : Below W.heap.size W w') => And.intro (B2.below hb B2.lt).c0 (B2.below hb B2.lt).c1)
    have HB1 := Lib.hid B1; have HB2 := Lib.hid B2; have HB3 := Lib.hid B3
    clear B1 B2 B3
    refine wp_region_fresh 4 (spOf [(1, Sp.know (numV (decide (z1 < 0)) x1 (lenB z1.natAbs) d1)), (3, Sp.know (numV (decide (z2 < 0)) x2 (lenB z2.natAbs) d2))]) (fun w' => Below W.heap.size W w') (by kernel_rfl) (by kernel_rfl)
      (spOf_cons (Sp.know_keeps _) (spOf_cons (Sp.know_keeps _) spOf_nil)) (fun _ _ h hb => h.trans (hb.mono h.size)) ((Below.refl _ _).drew) ?_
    simp only [List.take_succ_cons, List.take_zero, List.drop_succ_cons, List.drop_zero]
    (refine wpF_reads rfl rfl ?_ (fun w' hw' => ?_) ?_; rotate_left; · (have hb' := Has.world hw'; (have hs := HS1.out _ hb'); clear hw'; go_simp; try rfl))
    (refine wpF_spec rfl rfl (fun w' hw' => ?_) ?_; · (have hb' := Has.world hw'; go_simp; ((refine (HO1.out w' (G1.out.trans (hb'.mono G1.out.size))).mono ?_; rintro e w'' ⟨rfl, hb⟩; exact ⟨_, rfl, rfl, hb⟩))))
    rintro _ rfl
    (refine wpF_reads rfl rfl ?_ (fun w' hw' => ?_) ?_; rotate_left; · (have hb' := Has.world hw'; (have hs := HS2.out _ hb'); clear hw'; go_simp; try rfl))
    (refine wpF_spec rfl rfl (fun w' hw' => ?_) ?_; · (have hb' := Has.world hw'; go_simp; ((refine (HO2.out w' (G1.out.trans (hb'.mono G1.out.size))).mono ?_; rintro e w'' ⟨rfl, hb⟩; exact ⟨_, rfl, rfl, hb⟩))))
    rintro _ rfl
    refine wpF_nil (fun w1 hb1 hF => ?_)
    clear hF
    have C1 := HB1.out.below hb1 HB1.out.lt
    have C2 := HB2.out.below hb1 HB2.out.lt
    have C3 := HB3.out.below hb1 HB3.out.lt
    have G2 := G1.out.trans (hb1.mono G1.out.size)
    have K1 := Lib.hid C1; have K2 := Lib.hid C2; have K3 := Lib.hid C3
    obtain ⟨b10, b11, b12, b13⟩ := C1.all
    obtain ⟨b20, b21, b22, b23⟩ := C2.all
    have KG := Lib.hid G2
    clear C1 C2 C3 hb1 HS1 HS2 G2
    go_wp2_with fail
    go_meet
    case rel =>
      exact ⟨((K1.out.set _ _).other (by dsimp only; omega) _).other (by dsimp only; omega) _, ((K2.out.other (by dsimp only; omega) _).other (by dsimp only; omega) _).set _ _, (((K3.out.other (by dsimp only; omega) _).other (by dsimp only; omega) _).other (by dsimp only; omega) _).other (by dsimp only; omega) _,
        (((KG.out.setCell (by simp) _).setCell (by simp) _).setCell (by simp) _).setCell (by simp) _⟩
  case rest =>
    obtain ⟨B1, B2, B3, G1⟩ := hcut
    obtain ⟨w1, rfl⟩ : ∃ w1, w1 = wc := ⟨_, rfl⟩
    have HR1 := Lib.hid r1
    have HR2 := Lib.hid r2
    have KG := Lib.hid G1
    have K1 := Lib.hid B1; have K2 := Lib.hid B2; have K3 := Lib.hid B3
    obtain ⟨b10, b11, b12, b13⟩ := B1.all
    obtain ⟨b20, b21, b22, b23⟩ := B2.all
    obtain ⟨n, hn⟩ : ∃ n, n = lenB z1.natAbs + lenB z2.natAbs := ⟨_, rfl⟩
    have HN := Lib.hid hn
    have hnb : n ≤ 200000000 := by omega
    have ew : ((lenB z1.natAbs : Nat) : Int) + ((lenB z2.natAbs : Nat) : Int) = (n : Int) := by omega
    have hmk := run_make_row' (P := Tryz.prog) 22 57 (.int .u32 0) 4 Tryz.underlying22 info32 rfl .i64 .i64 n (by omega) (by omega)
    clear B1 B2 B3 G1 r1 r2 h1 h2 HO1 HO2 hn
    obtain ⟨X, hX⟩ : ∃ X, X = lenB z1.natAbs := ⟨_, rfl⟩
    obtain ⟨Y, hY⟩ : ∃ Y, Y = lenB z2.natAbs := ⟨_, rfl⟩
    rw [← hX] at b11 HR1 ew l1 m1 HN
    rw [← hY] at b21 HR2 ew l2 m2 HN
    have HX := Lib.hid hX; have HY := Lib.hid hY
    have hz1 := K3.out.lt
    clear hX hY
    obtain ⟨fx, hfx⟩ : ∃ fx, fx = dgi z1.natAbs := ⟨_, rfl⟩
    obtain ⟨fy, hfy⟩ : ∃ fy, fy = dgi z2.natAbs := ⟨_, rfl⟩
    have DX := Lib.hid (show Dig fx X by rw [hfx]; exact dgi_Dig _ _)
    have DY := Lib.hid (show Dig fy Y by rw [hfy]; exact dgi_Dig _ _)
    have SX := Lib.hid (show sumB fx X = z1.natAbs by rw [hfx, HX.out]; exact sumB_dgi _)
    have SY := Lib.hid (show sumB fy Y = z2.natAbs by rw [hfy, HY.out]; exact sumB_dgi _)
    rw [← hfx] at HR1
    rw [← hfy] at HR2
    clear hfx hfy
    go_wp2_with fail
    go_loopw [26] (fun i wr => ∃ k : Nat, k ≤ X ∧ i = .int .i64 k ∧ (∃ o, MulRow fx fy Y n k o ∧ wr.rowIs w1.heap.size 57 n (uc o)) ∧
      Bx wr w.heap.size 24 (.bool (decide (z1 < 0))) (.slice x1 X d1) ∧ Bx wr (w.heap.size + 1) 24 (.bool (decide (z2 < 0))) (.slice x2 Y d2) ∧
      Bx wr (w.heap.size + 1 + 1) 24 (.bool false) (.slice none 0 0) ∧ Below w.heap.size w wr) (fun i _ => X - (intOf i).toNat)
    case atStart =>
      exact ⟨0, by omega, rfl, ⟨_, MulRow.start _ _ _ _, World.rowIs_made w1 (.int .u32 0) n 57⟩, (HX.out ▸ K1.out).alloc _, (HY.out ▸ K2.out).alloc _, K3.out.alloc _, KG.out.alloc KG.out.size _⟩
    case round =>
      obtain ⟨k, hk, rfl, ⟨o, hM, hR⟩, B1, B2, B3, G⟩ := hrel
      have KM := Lib.hid hM; have KR := Lib.hid hR; have KG1 := Lib.hid G
      have J1 := Lib.hid B1; have J2 := Lib.hid B2; have J3 := Lib.hid B3
      obtain ⟨b20, b21, b22, b23⟩ := B2.all
      obtain ⟨b10, b11, b12, b13⟩ := B1.all
      clear hM hR G B1 B2 B3 hmk
      by_cases hkX : k < X
      · obtain ⟨pb, po, rfl, hc⟩ := (HR1.out.below KG1.out).cells (by omega)
        have c1 := hc k hkX
        clear hc
        go_wp2_with fail
        go_loopw [8, 34] (fun on i wr2 => ∃ j : Nat, j ≤ Y ∧ i = .int .i64 j ∧ (∃ p v, on = .int .u64 v ∧ MulIn fx fy Y n k j p v ∧ wr2.rowIs w1.heap.size 57 n (uc p)) ∧
          Bx wr2 w.heap.size 24 (.bool (decide (z1 < 0))) (.slice (some ⟨pb, po, none⟩) X d1) ∧ Bx wr2 (w.heap.size + 1) 24 (.bool (decide (z2 < 0))) (.slice x2 Y d2) ∧
          Bx wr2 (w.heap.size + 1 + 1) 24 (.bool false) (.slice none 0 0) ∧ Below w.heap.size w wr2) (fun _ i _ => Y - (intOf i).toNat)
        case atStart => exact ⟨0, by omega, rfl, ⟨_, _, rfl, KM.out.inner, KR.out⟩, J1.out, J2.out, J3.out, KG1.out⟩
        case round =>
          obtain ⟨j, hj, rfl, ⟨p, v, rfl, hI, hR⟩, B1, B2, B3, G⟩ := hrel
          have LM := Lib.hid hI; have LR := Lib.hid hR; have LG := Lib.hid G
          have L1 := Lib.hid B1; have L2 := Lib.hid B2; have L3 := Lib.hid B3
          clear b10 b11 b12 b13 b20 b21 b22 b23 c1
          obtain ⟨b20, b21, b22, b23⟩ := B2.all
          have hfz := hR.frozen
          clear hI hR G B1 B2 B3
          by_cases hjY : j < Y
          · obtain ⟨qb, qo, rfl, hc⟩ := (HR2.out.below LG.out).cells (by omega)
            have c2 : wr.cell? ⟨qb, qo + j, none⟩ = some (.int .u32 (fy j)) := hc j hjY
            have c3 : wr.cell? ⟨w1.heap.size, k + j, none⟩ = some (.int .u32 (p (k + j))) := LR.out.cell (i := k + j) (by have := HN.out; omega)
            have hx := DX.out k hkX
            have hy := DY.out j hjY
            obtain ⟨hT, hS⟩ := LM.out.step hx hy hjY (by have := HN.out; omega)
            have hpd := LM.out.dig (k + j) (by have := HN.out; omega)
            have hon := LM.out.on0
            have hb := mul_bd hx hy
            have hkn : k + j < n := by have := HN.out; omega
            have HSt := Lib.hid hS
            have w1' := IntWalk.u64_in (fx k) (by omega)
            have w2' := IntWalk.u64_in (fy j) (by omega)
            have w3' := IntWalk.u64_in (p (k + j)) (by omega)
            have w4' := IntWalk.u64_in (fx k * fy j) (by omega)
            have w5' := IntWalk.u64_in (fx k * fy j + p (k + j)) (by omega)
            have w6' := IntWalk.u64_in (v + (fx k * fy j + p (k + j))) (by omega)
            have t1 : (v + (fx k * fy j + p (k + j))).tmod 1000000000 = (v + (fx k * fy j + p (k + j))) % 1000000000 := Int.tmod_eq_emod_of_nonneg hT.1
            have t2 : (v + (fx k * fy j + p (k + j))).tdiv 1000000000 = (v + (fx k * fy j + p (k + j))) / 1000000000 := Int.tdiv_eq_ediv_of_nonneg hT.1
            have w7' := IntWalk.u32_in ((v + (fx k * fy j + p (k + j))) % 1000000000) (by omega)
            have w8' := IntWalk.u64_in ((v + (fx k * fy j + p (k + j))) / 1000000000) (by omega)
            clear hc hS hT hpd hon hb hx hy
            dsimp only [uc]
            go_wp2_with fail
            go_roundw
            case rel => exact ⟨j + 1, by omega, by go_num, ⟨_, _, rfl, HSt.out, rows_upd LR.out _⟩, L1.out.other (by dsimp only; omega) _, L2.out.other (by dsimp only; omega) _, L3.out.other (by dsimp only; omega) _, LG.out.setCell (by dsimp only; omega) _⟩
            case measure => simp [intOf]; omega
          · obtain rfl : j = Y := by omega
            obtain ⟨vo, hco⟩ : ∃ vo, wr.cell? ⟨w1.heap.size, k + j, none⟩ = some vo := ⟨_, LR.out.cell (i := k + j) (by have := HN.out; omega)⟩
            have hkn : k + j < n := by have := HN.out; omega
            have hon := LM.out.on0
            have w7' := IntWalk.u32_in v (by omega)
            have HSt := Lib.hid (LM.out.row hkn)
            go_wp2_with fail
            go_roundw
            case rel => exact ⟨k + 1, by omega, by go_num, ⟨_, HSt.out, rows_upd LR.out _⟩, L1.out.other (by dsimp only; omega) _, L2.out.other (by dsimp only; omega) _, L3.out.other (by dsimp only; omega) _, LG.out.setCell (by dsimp only; omega) _⟩
            case measure => simp [intOf]; omega
      · obtain rfl : k = X := by omega
        have hM := KM.out
        have hR := KR.out
        have ht : (sumB o n).toNat = (z1 * z2).natAbs := by
          rw [hM.sum, SX.out, SY.out, Int.natAbs_mul, ← Int.natCast_mul, Int.toNat_natCast]
        have OW := Lib.hid (Own.of_rowIs hR (Nat.le_refl _) (fun i hi => by have := hM.dig i hi; omega))
        have C := cut_any (!(decide (z1 < 0) == decide (z2 < 0))) (some ⟨w1.heap.size, 0, none⟩) n n o wr OW.out.rd hM.dig (by omega) (Nat.le_refl _) (fun h => by cases h)
        have hL := lenB_le_of hM.dig
        have hD := fun i hi => dg_sumB hM.dig i hi
        rw [ht, mul_sign] at C
        rw [ht] at hL hD
        obtain ⟨sB, hsB⟩ : ∃ sB, sB = decide (z1 * z2 < 0) := ⟨_, rfl⟩
        obtain ⟨L, hLL⟩ : ∃ L, L = lenB (z1 * z2).natAbs := ⟨_, rfl⟩
        rw [← hsB, ← hLL] at C
        rw [← hLL] at hL
        have HC := Lib.hid C; have HL := Lib.hid hL; have HD := Lib.hid hD; have HSB := Lib.hid hsB; have HLL := Lib.hid hLL
        clear hM hR ht C hL hD hsB hLL
        go_wp2_with fail
        refine HC.out.mono ?_
        rintro e w2 ⟨rfl, hb2⟩
        have B3 := J3.out.below hb2 J3.out.lt
        have K5 := Lib.hid B3
        have O2 := Lib.hid ((OW.out.below hb2).cut HL.out (fun i hi => (HD.out i (by have := HL.out; omega)).symm))
        have G2 := Lib.hid (KG1.out.trans (hb2.mono KG1.out.size))
        have hz2 := KG.out.size
        obtain ⟨b30, b31, b32, b33⟩ := B3.all
        clear B3 hb2 b10 b11 b12 b13 b20 b21 b22 b23
        go_wp2_with fail
        unfold ResN
        rw [← HSB.out, ← HLL.out]
        refine bodyPost_ret (results_cell rfl _ _ _ _ _ _ _ rfl (K5.out.set _ _) Tryz.underlying24 rfl (by kernel_rfl)) rfl ⟨_, rfl, ?_, (fun h => by cases h), ?_⟩
        · exact ((O2.out.other (by dsimp only; omega) _).other (by dsimp only; omega) _).mono hz2
        · exact (G2.out.setCell (by dsimp only; omega) _).setCell (by dsimp only; omega) _
end Go.Proofs.YtebobpbcllideaaGreatDoor.Limb
