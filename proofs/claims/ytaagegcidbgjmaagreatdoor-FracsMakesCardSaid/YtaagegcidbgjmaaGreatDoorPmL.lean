/-
  The document's answer for fracs: lowest.
  The document's answer for fracs: Make, Sign, Neg.
-/
import Derived.Test.YtaagegcidbgjmaaGreatDoorPmK
namespace Go.Proofs.YtaagegcidbgjmaaGreatDoor.Limb
open Go.RowKit Go.Sort Go.Fresh

/-- Only blocks from lo to hi have turned. -/
def Sin (lo hi : Nat) (w V : World) : Prop := ∀ b, (b < lo ∨ hi ≤ b) → V.heap[b]? = w.heap[b]?
theorem Sin.refl (lo hi : Nat) (w : World) : Sin lo hi w w := fun _ _ => rfl
theorem Sin.set {lo hi : Nat} {w V : World} (h : Sin lo hi w V) {p : Addr} (h1 : lo ≤ p.block) (h2 : p.block < hi) (v : Value) : Sin lo hi w (V.setCell p v) := fun b hb =>
  (Below.heap_setCell _ _ _ _ (by omega)).trans (h b hb)
theorem RdS.sin {w V : World} {lo hi : Nat} {a : Option Addr} {n : Nat} {o : Nat → Int} (h : RdS w lo hi a n o) (hs : Sin lo hi w V) : RdS V lo hi a n o := by
  refine ⟨⟨fun hn => ?_, h.rd.rng⟩, h.far⟩
  obtain ⟨b, off, ha, hc⟩ := h.rd.cells hn
  exact ⟨b, off, ha, fun i hi => (World.cell?_of_block (hs b (h.far hn _ ha))).trans (hc i hi)⟩
theorem FracI.sin {w V : World} {lo hi : Nat} {p q : Int} {x : Option Addr × Nat × Option Addr × Nat} (h : FracI w lo hi p q x) (hs : Sin lo hi w V) : FracI V lo hi p q x := ⟨h.r1.sin hs, h.c1, h.r2.sin hs, h.c2⟩
theorem Own.sin {T : Nat} {w V : World} {lo hi : Nat} {a : Option Addr} {n cap : Nat} {o : Nat → Int} (h : Own T w hi a n cap o) (hs : Sin lo hi w V) : Own T V hi a n cap o := by
  refine ⟨h.le, h.place.imp id fun ⟨g, cur, ha, hg, hc, hr⟩ => ⟨g, cur, ha, hg, (hs g (Or.inr hg)).trans hc, hr⟩, h.rng⟩

theorem low_tl (z1 z2 t l : Int) (hz : z2 ≠ 0) (h : (z2 < 0 ∧ t = -z1 ∧ l = -z2) ∨ (¬ z2 < 0 ∧ t = z1 ∧ l = z2)) :
    0 < l ∧ ((Int.gcd t l : Nat) : Int) ≠ 0 ∧ t / ((Int.gcd t l : Nat) : Int) = (Rat.divInt z1 z2).num ∧ l / ((Int.gcd t l : Nat) : Int) = ((Rat.divInt z1 z2).den : Int) ∧ (l = 1 → (Rat.divInt z1 z2).num = t ∧ ((Rat.divInt z1 z2).den : Int) = l) := by
  have hl : 0 < l := by omega
  have e : Rat.divInt t l = Rat.divInt z1 z2 := by
    rcases h with ⟨_, rfl, rfl⟩ | ⟨_, rfl, rfl⟩
    · exact Rat.neg_divInt_neg _ _
    · rfl
  have h1 := low_num t l (by omega)
  have h2 := low_den t l (by omega)
  have h3 := low_gcd t l (by omega)
  rw [if_neg (by omega)] at h1 h2 h3
  rw [e] at h1 h2
  refine ⟨hl, h3, h1, h2, fun h => ?_⟩
  rw [← e]
  exact div_one_num hl (by rw [h]; exact Int.gcd_one_right _)

open Classical in
set_option maxRecDepth 100000 in
set_option maxHeartbeats 4000000 in
theorem rlowest_any (z1 z2 : Int) (a1 a2 : Option Addr) (c1 c2 : Nat) (w : World) (h1 : Rd w a1 (lenB z1.natAbs) (dgi z1.natAbs)) (hn1 : lenB z1.natAbs ≤ 4000000) (hc1 : lenB z1.natAbs ≤ c1) (h2 : Rd w a2 (lenB z2.natAbs) (dgi z2.natAbs)) (hn2 : lenB z2.natAbs ≤ 4000000) (hc2 : lenB z2.natAbs ≤ c2) (hz : z2 ≠ 0) :
    Calls Tryz.prog 36 #[numV (decide (z1 < 0)) a1 (lenB z1.natAbs) c1, numV (decide (z2 < 0)) a2 (lenB z2.natAbs) c2] w (FracF w (Rat.divInt z1 z2).num ((Rat.divInt z1 z2).den : Int)) := by
  have hfar : ∀ {a : Option Addr} {n : Nat} {o : Nat → Int}, Rd w a n o → 0 < n → ∀ p, a = some p → p.block < w.heap.size := fun h h0 p hp => by
    obtain ⟨b, off, e, hc⟩ := h.cells h0
    rw [e] at hp; cases hp
    exact block_lt_of_cell (hc 0 h0)
  obtain ⟨P, hP⟩ : ∃ P, P = (Rat.divInt z1 z2).num := ⟨_, rfl⟩
  obtain ⟨Q, hQ⟩ : ∃ Q : Int, Q = ((Rat.divInt z1 z2).den : Int) := ⟨_, rfl⟩
  rw [← hP, ← hQ]
  have HPE := Lib.hid (And.intro hP hQ)
  clear hP hQ
  have HB1 := Lib.hid (((Bxs.new (w) 24 [.bool (decide (z1 < 0)), .slice a1 (lenB z1.natAbs) c1]).alloc (.cells #[.bool (decide (z2 < 0)), .slice a2 (lenB z2.natAbs) c2] 24)).alloc (.cells #[.bool false, .slice none 0 0, .bool false, .slice none 0 0] 27))
  have HB2 := Lib.hid ((Bxs.new (w.alloc (.cells #[.bool (decide (z1 < 0)), .slice a1 (lenB z1.natAbs) c1] 24)) 24 [.bool (decide (z2 < 0)), .slice a2 (lenB z2.natAbs) c2]).alloc (.cells #[.bool false, .slice none 0 0, .bool false, .slice none 0 0] 27))
  have HB3 := Lib.hid (Bxs.new ((w.alloc (.cells #[.bool (decide (z1 < 0)), .slice a1 (lenB z1.natAbs) c1] 24)).alloc (.cells #[.bool (decide (z2 < 0)), .slice a2 (lenB z2.natAbs) c2] 24)) 27 [.bool false, .slice none 0 0, .bool false, .slice none 0 0])
  obtain ⟨W, hW⟩ : ∃ W, W = ((w.alloc (.cells #[.bool (decide (z1 < 0)), .slice a1 (lenB z1.natAbs) c1] 24)).alloc (.cells #[.bool (decide (z2 < 0)), .slice a2 (lenB z2.natAbs) c2] 24)).alloc (.cells #[.bool false, .slice none 0 0, .bool false, .slice none 0 0] 27) := ⟨_, rfl⟩
  have KG := Lib.hid (show Below w.heap.size w W by rw [hW]; exact (((Below.refl _ _).alloc (Nat.le_refl _) _).alloc (by go_size) _).alloc (by go_size) _)
  have HWS := Lib.hid (show w.heap.size + 3 ≤ W.heap.size by rw [hW]; simp only [World.size_alloc]; omega)
  have HB1 := Lib.hid (show Bxs W (w.heap.size) 24 [.bool (decide (z1 < 0)), .slice a1 (lenB z1.natAbs) c1] by have h := HB1.out; rw [hW]; exact h)
  have HB2 := Lib.hid (show Bxs W (w.heap.size + 1) 24 [.bool (decide (z2 < 0)), .slice a2 (lenB z2.natAbs) c2] by have h := HB2.out; simp only [World.size_alloc] at h; rw [hW]; exact h)
  have HB3 := Lib.hid (show Bxs W (w.heap.size + 1 + 1) 27 [.bool false, .slice none 0 0, .bool false, .slice none 0 0] by have h := HB3.out; simp only [World.size_alloc] at h; rw [hW]; exact h)
  have HW := Lib.hid hW
  clear hW
  have HX1 := Lib.hid (show RdS W w.heap.size (w.heap.size + 3) a1 (lenB z1.natAbs) (dgi z1.natAbs) from ⟨h1.below KG.out, fun h0 p hp => Or.inl (hfar h1 h0 p hp)⟩)
  have HX2 := Lib.hid (show RdS W w.heap.size (w.heap.size + 3) a2 (lenB z2.natAbs) (dgi z2.natAbs) from ⟨h2.below KG.out, fun h0 p hp => Or.inl (hfar h2 h0 p hp)⟩)
  have HC1 := Lib.hid hc1
  have HC2 := Lib.hid hc2
  clear h1 h2 hc1 hc2 hfar
  obtain ⟨cs, hcs⟩ : ∃ cs, cs = cmpZ z2 0 := ⟨_, rfl⟩
  have SG := Lib.hid (rsign_any (decide (z2 < 0)) a2 (lenB z2.natAbs) c2 (dgi z2.natAbs) W HX2.out.rd (by omega) HC2.out)
  rw [canon_val, ← hcs] at SG
  by_cases hneg : z2 < 0
  · have hc : cs < 0 := by rw [hcs, cmpZ_lt hneg]; omega
    obtain ⟨t, ht⟩ : ∃ t, t = -z1 := ⟨_, rfl⟩
    obtain ⟨l, hl⟩ : ∃ l, l = -z2 := ⟨_, rfl⟩
    have HLOW := Lib.hid (low_tl z1 z2 t l hz (Or.inl ⟨hneg, ht, hl⟩))
    have HT := Lib.hid (And.intro ht hl)
    have HN0 := Lib.hid (And.intro hn1 hn2)
    have HN := Lib.hid (show lenB t.natAbs ≤ 4000000 ∧ lenB l.natAbs ≤ 4000000 by rw [ht, hl, Int.natAbs_neg, Int.natAbs_neg]; exact HN0.out)
    clear hcs hneg hz hn1 hn2 ht hl
    go_enter Tryz.func36, Tryz.ntmps36
    go_upto_region 1 with (fail)
    rw [show ((w.alloc (.cells #[.bool (decide (z1 < 0)), .slice a1 (lenB z1.natAbs) c1] 24)).alloc (.cells #[.bool (decide (z2 < 0)), .slice a2 (lenB z2.natAbs) c2] 24)).alloc (.cells #[.bool false, .slice none 0 0, .bool false, .slice none 0 0] 27) = W from HW.out.symm]
    clear HW
    have b2c0 := HB2.out.cell (i := 0) rfl
    have b2c1 := HB2.out.cell (i := 1) rfl
    have b2f := HB2.out.fz
    have b2l := HB2.out.lt
    go_wp2_with fail
    with_reducible refine (SG.out).mono ?_
    rintro e w1 ⟨rfl, hb⟩
    clear b2c0 b2c1 b2f b2l
    have HB1 := Lib.hid (HB1.out.below hb HB1.out.lt)
    have HB2 := Lib.hid (HB2.out.below hb HB2.out.lt)
    have HB3 := Lib.hid (HB3.out.below hb HB3.out.lt)
    have HX1 := Lib.hid (HX1.out.below hb)
    have HX2 := Lib.hid (HX2.out.below hb)
    have HWS := Lib.hid (Nat.le_trans HWS.out hb.size)
    have KG := Lib.hid (KG.out.trans (hb.mono KG.out.size))
    clear hb
    clear SG
    have NG := Lib.hid (fun (w' : World) (hb : Below w1.heap.size w1 w') => rneg_any (decide (z1 < 0)) a1 (lenB z1.natAbs) c1 (dgi z1.natAbs) w' (HX1.out.rd.below hb) (by have := HN0.out; omega) HC1.out)
    rw [canon_val, ← HT.out.1] at NG
    have b1c0 := HB1.out.cell (i := 0) rfl
    have b1c1 := HB1.out.cell (i := 1) rfl
    have b1f := HB1.out.fz
    have b1l := HB1.out.lt
    go_wp2_with fail
    with_reducible refine (NG.out _ (Below.refl _ _)).mono ?_
    rintro e w2 ⟨x1, d1, rfl, ho, hb⟩
    have HX1 := Lib.hid (ho.rdS w.heap.size (w.heap.size + 3) HWS.out)
    have HC1 := Lib.hid ho.le
    clear ho
    clear b1c0 b1c1 b1f b1l
    have HB1 := Lib.hid (HB1.out.below hb HB1.out.lt)
    have HB2 := Lib.hid (HB2.out.below hb HB2.out.lt)
    have HB3 := Lib.hid (HB3.out.below hb HB3.out.lt)
    have HX2 := Lib.hid (HX2.out.below hb)
    have HWS := Lib.hid (Nat.le_trans HWS.out hb.size)
    have KG := Lib.hid (KG.out.trans (hb.mono KG.out.size))
    clear hb
    clear NG
    have b1c0 := HB1.out.cell (i := 0) rfl
    have b1c1 := HB1.out.cell (i := 1) rfl
    have b1f := HB1.out.fz
    have b1l := HB1.out.lt
    go_upto_region 3 with (fail)
    obtain ⟨v3, hV⟩ : ∃ V, V = (w2.setCell ⟨w.heap.size, 0, none⟩ (.bool (decide (t < 0)))).setCell ⟨w.heap.size, 1, none⟩ (.slice x1 (lenB t.natAbs) d1) := ⟨_, rfl⟩
    have HB1 := Lib.hid (show Bxs v3 (w.heap.size) 24 [.bool (decide (t < 0)), .slice x1 (lenB t.natAbs) d1] by rw [hV]; exact ((HB1.out).put 0 _).put 1 _)
    have HB2 := Lib.hid (show Bxs v3 (w.heap.size + 1) 24 [.bool (decide (z2 < 0)), .slice a2 (lenB z2.natAbs) c2] by rw [hV]; exact ((HB2.out).other (by dsimp only; omega) _).other (by dsimp only; omega) _)
    have HB3 := Lib.hid (show Bxs v3 (w.heap.size + 1 + 1) 27 [.bool false, .slice none 0 0, .bool false, .slice none 0 0] by rw [hV]; exact ((HB3.out).other (by dsimp only; omega) _).other (by dsimp only; omega) _)
    have hsin : Sin w.heap.size (w.heap.size + 3) w2 v3 := by rw [hV]; exact ((Sin.refl _ _ _).set (by dsimp only; omega) (by dsimp only; omega) _).set (by dsimp only; omega) (by dsimp only; omega) _
    have HX2 := Lib.hid (HX2.out.sin hsin)
    have HX1 := Lib.hid (HX1.out.sin hsin)
    clear hsin
    have KG := Lib.hid (show Below w.heap.size w v3 by rw [hV]; exact ((KG.out).setCell (by dsimp only; omega) _).setCell (by dsimp only; omega) _)
    have HWS := Lib.hid (show w.heap.size + 3 ≤ v3.heap.size by rw [hV]; simp only [World.size_setCell]; have := HWS.out; omega)
    rw [show (w2.setCell ⟨w.heap.size, 0, none⟩ (.bool (decide (t < 0)))).setCell ⟨w.heap.size, 1, none⟩ (.slice x1 (lenB t.natAbs) d1) = v3 from hV.symm]
    clear hV
    clear b1c0 b1c1 b1f b1l
    have NG := Lib.hid (fun (w' : World) (hb : Below v3.heap.size v3 w') => rneg_any (decide (z2 < 0)) a2 (lenB z2.natAbs) c2 (dgi z2.natAbs) w' (HX2.out.rd.below hb) (by have := HN0.out; omega) HC2.out)
    rw [canon_val, ← HT.out.2] at NG
    have b2c0 := HB2.out.cell (i := 0) rfl
    have b2c1 := HB2.out.cell (i := 1) rfl
    have b2f := HB2.out.fz
    have b2l := HB2.out.lt
    go_wp2_with fail
    with_reducible refine (NG.out _ (Below.refl _ _)).mono ?_
    rintro e w4 ⟨x2, d2, rfl, ho, hb⟩
    have HX2 := Lib.hid (ho.rdS w.heap.size (w.heap.size + 3) HWS.out)
    have HC2 := Lib.hid ho.le
    clear ho
    clear b2c0 b2c1 b2f b2l
    have HB1 := Lib.hid (HB1.out.below hb HB1.out.lt)
    have HB2 := Lib.hid (HB2.out.below hb HB2.out.lt)
    have HB3 := Lib.hid (HB3.out.below hb HB3.out.lt)
    have HX1 := Lib.hid (HX1.out.below hb)
    have HWS := Lib.hid (Nat.le_trans HWS.out hb.size)
    have KG := Lib.hid (KG.out.trans (hb.mono KG.out.size))
    clear hb
    clear NG
    have b2c0 := HB2.out.cell (i := 0) rfl
    have b2c1 := HB2.out.cell (i := 1) rfl
    have b2f := HB2.out.fz
    have b2l := HB2.out.lt
    go_upto_region 4 with (fail)
    obtain ⟨v5, hV⟩ : ∃ V, V = (w4.setCell ⟨w.heap.size + 1, 0, none⟩ (.bool (decide (l < 0)))).setCell ⟨w.heap.size + 1, 1, none⟩ (.slice x2 (lenB l.natAbs) d2) := ⟨_, rfl⟩
    have HB1 := Lib.hid (show Bxs v5 (w.heap.size) 24 [.bool (decide (t < 0)), .slice x1 (lenB t.natAbs) d1] by rw [hV]; exact ((HB1.out).other (by dsimp only; omega) _).other (by dsimp only; omega) _)
    have HB2 := Lib.hid (show Bxs v5 (w.heap.size + 1) 24 [.bool (decide (l < 0)), .slice x2 (lenB l.natAbs) d2] by rw [hV]; exact ((HB2.out).put 0 _).put 1 _)
    have HB3 := Lib.hid (show Bxs v5 (w.heap.size + 1 + 1) 27 [.bool false, .slice none 0 0, .bool false, .slice none 0 0] by rw [hV]; exact ((HB3.out).other (by dsimp only; omega) _).other (by dsimp only; omega) _)
    have hsin : Sin w.heap.size (w.heap.size + 3) w4 v5 := by rw [hV]; exact ((Sin.refl _ _ _).set (by dsimp only; omega) (by dsimp only; omega) _).set (by dsimp only; omega) (by dsimp only; omega) _
    have HX1 := Lib.hid (HX1.out.sin hsin)
    have HX2 := Lib.hid (HX2.out.sin hsin)
    clear hsin
    have KG := Lib.hid (show Below w.heap.size w v5 by rw [hV]; exact ((KG.out).setCell (by dsimp only; omega) _).setCell (by dsimp only; omega) _)
    have HWS := Lib.hid (show w.heap.size + 3 ≤ v5.heap.size by rw [hV]; simp only [World.size_setCell]; have := HWS.out; omega)
    rw [show (w4.setCell ⟨w.heap.size + 1, 0, none⟩ (.bool (decide (l < 0)))).setCell ⟨w.heap.size + 1, 1, none⟩ (.slice x2 (lenB l.natAbs) d2) = v5 from hV.symm]
    clear hV
    clear b2c0 b2c1 b2f b2l
    obtain ⟨G, hG⟩ : ∃ G : Int, G = ((Int.gcd t l : Nat) : Int) := ⟨_, rfl⟩
    have HGL := Lib.hid (show lenB G.natAbs ≤ 8000000 by rw [hG, Int.natAbs_natCast]; have := gcd_len t l; have := HN.out; omega)
    rw [← hG, ← HPE.out.1, ← HPE.out.2] at HLOW
    have HG := Lib.hid hG
    clear hG
    by_cases hl1 : l = 1
    · have HPQ := Lib.hid (HLOW.out.2.2.2.2 hl1)
      have RO := Lib.hid (fun (w' : World) (hb : Below v5.heap.size v5 w') => rone_any (decide (l < 0)) x2 (lenB l.natAbs) d2 (dgi l.natAbs) w' (HX2.out.rd.below hb) (by have := HN.out; omega) HC2.out (canon_ok l))
      rw [canon_val, decide_eq_true hl1] at RO
      clear hl1
      have b2c0 := HB2.out.cell (i := 0) rfl
      have b2c1 := HB2.out.cell (i := 1) rfl
      have b2f := HB2.out.fz
      have b2l := HB2.out.lt
      go_wp2_with fail
      with_reducible refine (RO.out _ (Below.refl _ _)).mono ?_
      rintro e w6 ⟨rfl, hb⟩
      clear b2c0 b2c1 b2f b2l
      have HB1 := Lib.hid (HB1.out.below hb HB1.out.lt)
      have HB2 := Lib.hid (HB2.out.below hb HB2.out.lt)
      have HB3 := Lib.hid (HB3.out.below hb HB3.out.lt)
      have HX1 := Lib.hid (HX1.out.below hb)
      have HX2 := Lib.hid (HX2.out.below hb)
      have HWS := Lib.hid (Nat.le_trans HWS.out hb.size)
      have KG := Lib.hid (KG.out.trans (hb.mono KG.out.size))
      clear hb
      clear RO
      have TW1 := Lib.hid (fun (w' : World) (hb : Below w6.heap.size w6 w') => twin_any (decide (t < 0)) x1 (lenB t.natAbs) d1 (dgi t.natAbs) w' (HX1.out.rd.below hb) (by have := HN.out; omega))
      go_upto_region 5 with (fail)
      have HS := Lib.hid (fun (w' : World) (hb : Below w6.heap.size w6 w') => And.intro (HB1.out.below hb HB1.out.lt).bx.all ((HB2.out.below hb HB2.out.lt).bx.all))
      refine wp_region_fresh 3 (spOf [(1, Sp.made (fun x : Option Addr × Nat => numV (decide (t < 0)) x.1 (lenB t.natAbs) x.2) (fun x w' => Own 74 w' w6.heap.size x.1 (lenB t.natAbs) x.2 (dgi t.natAbs)))]) (fun w' => Below w6.heap.size w6 w') (by kernel_rfl) (by kernel_rfl)
        (spOf_cons (Sp.made_keeps fun x w w' h hb => h.below hb) (spOf_nil)) (fun _ _ h hb => h.trans (hb.mono h.size)) ((Below.refl _ _).drew) ?_
      simp only [List.take_succ_cons, List.take_zero, List.drop_succ_cons, List.drop_zero]
      (refine wpF_reads rfl rfl ?_ (fun w' hw' => ?_) ?_; rotate_left; · (have hb' := Has.world hw'; (obtain ⟨k0, k1, k2, k3⟩ := (HS.out _ hb').1); clear hw'; go_simp; try rfl))
      conv => arg 9; simp only [Act.put, List.setIfInBounds_toArray, List.set_cons_succ, List.set_cons_zero]
      (refine wpF_spec rfl rfl (fun w' hw' => ?_) ?_; · (have hb' := Has.world hw'; go_simp; ((refine (TW1.out w' hb').mono ?_; rintro e w'' ⟨za, zb, rfl, ho, -, hb⟩; exact ⟨_, rfl, ⟨⟨za, zb, rfl⟩, ⟨za, zb, rfl, ho.mono hb'.size⟩⟩, hb⟩))))
      rintro _ ⟨y1, rfl⟩
      conv => arg 9; simp only [Act.put, List.setIfInBounds_toArray, List.set_cons_succ, List.set_cons_zero]
      (refine wpF_reads rfl rfl ?_ (fun w' hw' => ?_) ?_; rotate_left; · (have hb' := Has.world hw'; (obtain ⟨k0, k1, k2, k3⟩ := (HS.out _ hb').2); clear hw'; go_simp; try rfl))
      conv => arg 9; simp only [Act.put, List.setIfInBounds_toArray, List.set_cons_succ, List.set_cons_zero]
      refine wpF_nil (fun w7 hb hF => ?_)
      have HO1 := Lib.hid (Own.mono (own_numc (T := 74) (x := y1) (b := w6.heap.size) (s := decide (t < 0)) (L := lenB t.natAbs) (o := dgi t.natAbs) (hF 1)) HWS.out)
      clear hF HS
      have HB1 := Lib.hid (HB1.out.below hb HB1.out.lt)
      have HB2 := Lib.hid (HB2.out.below hb HB2.out.lt)
      have HB3 := Lib.hid (HB3.out.below hb HB3.out.lt)
      have HX1 := Lib.hid (HX1.out.below hb)
      have HX2 := Lib.hid (HX2.out.below hb)
      have HWS := Lib.hid (Nat.le_trans HWS.out hb.size)
      have KG := Lib.hid (KG.out.trans (hb.mono KG.out.size))
      clear hb
      clear TW1
      have TW2 := Lib.hid (fun (w' : World) (hb : Below w7.heap.size w7 w') => twin_any (decide (l < 0)) x2 (lenB l.natAbs) d2 (dgi l.natAbs) w' (HX2.out.rd.below hb) (by have := HN.out; omega))
      have b3c0 := HB3.out.cell (i := 0) rfl
      have b3c1 := HB3.out.cell (i := 1) rfl
      have b3c2 := HB3.out.cell (i := 2) rfl
      have b3c3 := HB3.out.cell (i := 3) rfl
      have b3f := HB3.out.fz
      have b3l := HB3.out.lt
      go_wp2_with fail
      with_reducible refine (TW2.out _ (Below.refl _ _)).mono ?_
      rintro e w8 ⟨m2, e2, rfl, ho2, -, hb⟩
      have HO2 := Lib.hid (ho2.mono HWS.out)
      clear ho2
      clear b3c0 b3c1 b3c2 b3c3 b3f b3l
      have HB1 := Lib.hid (HB1.out.below hb HB1.out.lt)
      have HB2 := Lib.hid (HB2.out.below hb HB2.out.lt)
      have HB3 := Lib.hid (HB3.out.below hb HB3.out.lt)
      have HX1 := Lib.hid (HX1.out.below hb)
      have HX2 := Lib.hid (HX2.out.below hb)
      have HO1 := Lib.hid (HO1.out.below hb)
      have HWS := Lib.hid (Nat.le_trans HWS.out hb.size)
      have KG := Lib.hid (KG.out.trans (hb.mono KG.out.size))
      clear hb
      have b3c0 := HB3.out.cell (i := 0) rfl
      have b3c1 := HB3.out.cell (i := 1) rfl
      have b3c2 := HB3.out.cell (i := 2) rfl
      have b3c3 := HB3.out.cell (i := 3) rfl
      have b3f := HB3.out.fz
      have b3l := HB3.out.lt
      go_wp2_with fail
      have hws := HWS.out
      refine bodyPost_ret (results_cell rfl _ _ _ _ _ _ _ rfl (((((HB3.out).put 0 _).put 1 _).put 2 _).put 3 _) Tryz.underlying27 rfl (by kernel_rfl)) rfl ?_
      rw [HPQ.out.1, HPQ.out.2]
      refine ⟨y1.1, y1.2, m2, e2, rfl, ?_, ?_, ?_⟩
      · exact (((((HO1.out).other (by dsimp only; omega) _).other (by dsimp only; omega) _).other (by dsimp only; omega) _).other (by dsimp only; omega) _).mono (by omega)
      · exact (((((HO2.out).other (by dsimp only; omega) _).other (by dsimp only; omega) _).other (by dsimp only; omega) _).other (by dsimp only; omega) _).mono (by omega)
      · exact ((((KG.out).setCell (by dsimp only; omega) _).setCell (by dsimp only; omega) _).setCell (by dsimp only; omega) _).setCell (by dsimp only; omega) _
    · have HL1 := Lib.hid hl1
      have RO := Lib.hid (fun (w' : World) (hb : Below v5.heap.size v5 w') => rone_any (decide (l < 0)) x2 (lenB l.natAbs) d2 (dgi l.natAbs) w' (HX2.out.rd.below hb) (by have := HN.out; omega) HC2.out (canon_ok l))
      rw [canon_val, decide_eq_false hl1] at RO
      clear hl1
      have b2c0 := HB2.out.cell (i := 0) rfl
      have b2c1 := HB2.out.cell (i := 1) rfl
      have b2f := HB2.out.fz
      have b2l := HB2.out.lt
      go_wp2_with fail
      with_reducible refine (RO.out _ (Below.refl _ _)).mono ?_
      rintro e w9 ⟨rfl, hb⟩
      clear b2c0 b2c1 b2f b2l
      have HB1 := Lib.hid (HB1.out.below hb HB1.out.lt)
      have HB2 := Lib.hid (HB2.out.below hb HB2.out.lt)
      have HB3 := Lib.hid (HB3.out.below hb HB3.out.lt)
      have HX1 := Lib.hid (HX1.out.below hb)
      have HX2 := Lib.hid (HX2.out.below hb)
      have HWS := Lib.hid (Nat.le_trans HWS.out hb.size)
      have KG := Lib.hid (KG.out.trans (hb.mono KG.out.size))
      clear hb
      clear RO
      have GC := Lib.hid (fun (w' : World) (hb : Below w9.heap.size w9 w') => rgcd_any (decide (t < 0)) x1 (lenB t.natAbs) d1 (dgi t.natAbs) (decide (l < 0)) x2 (lenB l.natAbs) d2 (dgi l.natAbs) w' (HX1.out.rd.below hb) (by have := HN.out; omega) HC1.out (HX2.out.rd.below hb) (by have := HN.out; omega) HC2.out)
      rw [canon_val, canon_val, ← HG.out] at GC
      have b1c0 := HB1.out.cell (i := 0) rfl
      have b1c1 := HB1.out.cell (i := 1) rfl
      have b1f := HB1.out.fz
      have b1l := HB1.out.lt
      have b2c0 := HB2.out.cell (i := 0) rfl
      have b2c1 := HB2.out.cell (i := 1) rfl
      have b2f := HB2.out.fz
      have b2l := HB2.out.lt
      go_wp2_with fail
      with_reducible refine (GC.out _ (Below.refl _ _)).mono ?_
      rintro e wg ⟨xg, dg, rfl, ho, hb⟩
      clear b1c0 b1c1 b1f b1l b2c0 b2c1 b2f b2l
      clear GC
      go_upto_region 7 with (fail)
      have hbV := hb.alloc hb.size (.cells #[.bool (decide (G < 0)), .slice xg (lenB G.natAbs) dg] 24)
      have HB4 := Lib.hid (Bxs.new wg 24 [.bool (decide (G < 0)), .slice xg (lenB G.natAbs) dg])
      have HO4 := Lib.hid ((ho.mono HWS.out).allocd (.cells #[.bool (decide (G < 0)), .slice xg (lenB G.natAbs) dg] 24))
      obtain ⟨vg, hV⟩ : ∃ V, V = wg.alloc (.cells #[.bool (decide (G < 0)), .slice xg (lenB G.natAbs) dg] 24) := ⟨_, rfl⟩
      rw [← hV] at hbV HO4
      rw [show wg.alloc (.cells (List.toArray [.bool (decide (G < 0)), .slice xg (lenB G.natAbs) dg]) 24) = vg from hV.symm] at HB4
      rw [show wg.alloc (.cells #[.bool (decide (G < 0)), .slice xg (lenB G.natAbs) dg] 24) = vg from hV.symm]
      obtain ⟨b4, hb4⟩ : ∃ b, b = wg.heap.size := ⟨_, rfl⟩
      rw [← hb4] at HB4 ⊢
      clear hV hb4 ho hb
      have HB1 := Lib.hid (HB1.out.below hbV HB1.out.lt)
      have HB2 := Lib.hid (HB2.out.below hbV HB2.out.lt)
      have HB3 := Lib.hid (HB3.out.below hbV HB3.out.lt)
      have HX1 := Lib.hid (HX1.out.below hbV)
      have HX2 := Lib.hid (HX2.out.below hbV)
      have HWS := Lib.hid (Nat.le_trans HWS.out hbV.size)
      have KG := Lib.hid (KG.out.trans (hbV.mono KG.out.size))
      clear hbV
      have DV := Lib.hid (fun (w' : World) (hb : Below vg.heap.size vg w') => rdiv_ok t G x1 xg d1 dg w' (HX1.out.rd.below hb) (by have := HN.out; omega) HC1.out (HO4.out.rd.below hb) (by have := HGL.out; omega) HO4.out.le HLOW.out.2.1)
      obtain ⟨Qq, hQq⟩ : ∃ Q, Q = t / G := ⟨_, rfl⟩
      obtain ⟨Rq, hRq⟩ : ∃ R, R = t % G := ⟨_, rfl⟩
      unfold DivF at DV
      rw [← hQq, ← hRq] at DV
      rw [← hQq] at HLOW
      clear hQq hRq
      have b1c0 := HB1.out.cell (i := 0) rfl
      have b1c1 := HB1.out.cell (i := 1) rfl
      have b1f := HB1.out.fz
      have b1l := HB1.out.lt
      have b4c0 := HB4.out.cell (i := 0) rfl
      have b4c1 := HB4.out.cell (i := 1) rfl
      have b4f := HB4.out.fz
      have b4l := HB4.out.lt
      go_wp2_with fail
      with_reducible refine (DV.out _ (Below.refl _ _)).mono ?_
      rintro e wq ⟨xq, dq, uq, vq, rfl, ho, -, hb⟩
      clear b1c0 b1c1 b1f b1l b4c0 b4c1 b4f b4l
      clear DV
      go_upto_region 8 with (fail)
      have hbV := (hb.alloc hb.size (.cells #[.bool (decide (Qq < 0)), .slice xq (lenB Qq.natAbs) dq] 24)).alloc (by have := hb.size; go_size) (.cells #[.bool (decide (Rq < 0)), .slice uq (lenB Rq.natAbs) vq] 24)
      have HBn := Lib.hid ((Bxs.new wq 24 [.bool (decide (Qq < 0)), .slice xq (lenB Qq.natAbs) dq]).alloc (.cells #[.bool (decide (Rq < 0)), .slice uq (lenB Rq.natAbs) vq] 24))
      have HOq := Lib.hid (((ho.mono HWS.out).allocd (.cells #[.bool (decide (Qq < 0)), .slice xq (lenB Qq.natAbs) dq] 24)).allocd (.cells #[.bool (decide (Rq < 0)), .slice uq (lenB Rq.natAbs) vq] 24))
      obtain ⟨vq', hV⟩ : ∃ V, V = (wq.alloc (.cells #[.bool (decide (Qq < 0)), .slice xq (lenB Qq.natAbs) dq] 24)).alloc (.cells #[.bool (decide (Rq < 0)), .slice uq (lenB Rq.natAbs) vq] 24) := ⟨_, rfl⟩
      rw [← hV] at hbV HOq
      rw [show (wq.alloc (.cells (List.toArray [.bool (decide (Qq < 0)), .slice xq (lenB Qq.natAbs) dq]) 24)).alloc (.cells #[.bool (decide (Rq < 0)), .slice uq (lenB Rq.natAbs) vq] 24) = vq' from hV.symm] at HBn
      rw [show (wq.alloc (.cells #[.bool (decide (Qq < 0)), .slice xq (lenB Qq.natAbs) dq] 24)).alloc (.cells #[.bool (decide (Rq < 0)), .slice uq (lenB Rq.natAbs) vq] 24) = vq' from hV.symm]
      obtain ⟨bq, hbn⟩ : ∃ b, b = wq.heap.size := ⟨_, rfl⟩
      rw [← hbn] at HBn ⊢
      clear hV hbn ho hb
      have HB1 := Lib.hid (HB1.out.below hbV HB1.out.lt)
      have HB2 := Lib.hid (HB2.out.below hbV HB2.out.lt)
      have HB3 := Lib.hid (HB3.out.below hbV HB3.out.lt)
      have HB4 := Lib.hid (HB4.out.below hbV HB4.out.lt)
      have HX1 := Lib.hid (HX1.out.below hbV)
      have HX2 := Lib.hid (HX2.out.below hbV)
      have HO4 := Lib.hid (HO4.out.below hbV)
      have HWS := Lib.hid (Nat.le_trans HWS.out hbV.size)
      have KG := Lib.hid (KG.out.trans (hbV.mono KG.out.size))
      clear hbV
      have HB5 := Lib.hid HBn.out
      clear HBn
      have DV := Lib.hid (fun (w' : World) (hb : Below vq'.heap.size vq' w') => rdiv_ok l G x2 xg d2 dg w' (HX2.out.rd.below hb) (by have := HN.out; omega) HC2.out (HO4.out.rd.below hb) (by have := HGL.out; omega) HO4.out.le HLOW.out.2.1)
      obtain ⟨Qr, hQr⟩ : ∃ Q, Q = l / G := ⟨_, rfl⟩
      obtain ⟨Rr, hRr⟩ : ∃ R, R = l % G := ⟨_, rfl⟩
      unfold DivF at DV
      rw [← hQr, ← hRr] at DV
      rw [← hQr] at HLOW
      clear hQr hRr
      have b2c0 := HB2.out.cell (i := 0) rfl
      have b2c1 := HB2.out.cell (i := 1) rfl
      have b2f := HB2.out.fz
      have b2l := HB2.out.lt
      have b4c0 := HB4.out.cell (i := 0) rfl
      have b4c1 := HB4.out.cell (i := 1) rfl
      have b4f := HB4.out.fz
      have b4l := HB4.out.lt
      go_wp2_with fail
      with_reducible refine (DV.out _ (Below.refl _ _)).mono ?_
      rintro e wr ⟨xr, dr, ur, vr, rfl, ho, -, hb⟩
      clear b2c0 b2c1 b2f b2l b4c0 b4c1 b4f b4l
      clear DV
      go_upto_region 9 with (fail)
      have hbV := (hb.alloc hb.size (.cells #[.bool (decide (Qr < 0)), .slice xr (lenB Qr.natAbs) dr] 24)).alloc (by have := hb.size; go_size) (.cells #[.bool (decide (Rr < 0)), .slice ur (lenB Rr.natAbs) vr] 24)
      have HBn := Lib.hid ((Bxs.new wr 24 [.bool (decide (Qr < 0)), .slice xr (lenB Qr.natAbs) dr]).alloc (.cells #[.bool (decide (Rr < 0)), .slice ur (lenB Rr.natAbs) vr] 24))
      have HOr := Lib.hid (((ho.mono HWS.out).allocd (.cells #[.bool (decide (Qr < 0)), .slice xr (lenB Qr.natAbs) dr] 24)).allocd (.cells #[.bool (decide (Rr < 0)), .slice ur (lenB Rr.natAbs) vr] 24))
      obtain ⟨vr', hV⟩ : ∃ V, V = (wr.alloc (.cells #[.bool (decide (Qr < 0)), .slice xr (lenB Qr.natAbs) dr] 24)).alloc (.cells #[.bool (decide (Rr < 0)), .slice ur (lenB Rr.natAbs) vr] 24) := ⟨_, rfl⟩
      rw [← hV] at hbV HOr
      rw [show (wr.alloc (.cells (List.toArray [.bool (decide (Qr < 0)), .slice xr (lenB Qr.natAbs) dr]) 24)).alloc (.cells #[.bool (decide (Rr < 0)), .slice ur (lenB Rr.natAbs) vr] 24) = vr' from hV.symm] at HBn
      rw [show (wr.alloc (.cells #[.bool (decide (Qr < 0)), .slice xr (lenB Qr.natAbs) dr] 24)).alloc (.cells #[.bool (decide (Rr < 0)), .slice ur (lenB Rr.natAbs) vr] 24) = vr' from hV.symm]
      obtain ⟨br, hbn⟩ : ∃ b, b = wr.heap.size := ⟨_, rfl⟩
      rw [← hbn] at HBn ⊢
      clear hV hbn ho hb
      have HB1 := Lib.hid (HB1.out.below hbV HB1.out.lt)
      have HB2 := Lib.hid (HB2.out.below hbV HB2.out.lt)
      have HB3 := Lib.hid (HB3.out.below hbV HB3.out.lt)
      have HB4 := Lib.hid (HB4.out.below hbV HB4.out.lt)
      have HB5 := Lib.hid (HB5.out.below hbV HB5.out.lt)
      have HX1 := Lib.hid (HX1.out.below hbV)
      have HX2 := Lib.hid (HX2.out.below hbV)
      have HO4 := Lib.hid (HO4.out.below hbV)
      have HOq := Lib.hid (HOq.out.below hbV)
      have HWS := Lib.hid (Nat.le_trans HWS.out hbV.size)
      have KG := Lib.hid (KG.out.trans (hbV.mono KG.out.size))
      clear hbV
      have HB6 := Lib.hid HBn.out
      clear HBn
      have b5c0 := HB5.out.cell (i := 0) rfl
      have b5c1 := HB5.out.cell (i := 1) rfl
      have b5f := HB5.out.fz
      have b5l := HB5.out.lt
      have b6c0 := HB6.out.cell (i := 0) rfl
      have b6c1 := HB6.out.cell (i := 1) rfl
      have b6f := HB6.out.fz
      have b6l := HB6.out.lt
      have b3c0 := HB3.out.cell (i := 0) rfl
      have b3c1 := HB3.out.cell (i := 1) rfl
      have b3c2 := HB3.out.cell (i := 2) rfl
      have b3c3 := HB3.out.cell (i := 3) rfl
      have b3f := HB3.out.fz
      have b3l := HB3.out.lt
      go_wp2_with fail
      have hws := HWS.out
      refine bodyPost_ret (results_cell rfl _ _ _ _ _ _ _ rfl (((((HB3.out).put 0 _).put 1 _).put 2 _).put 3 _) Tryz.underlying27 rfl (by kernel_rfl)) rfl ?_
      rw [← HLOW.out.2.2.1, ← HLOW.out.2.2.2.1]
      refine ⟨xq, dq, xr, dr, rfl, ?_, ?_, ?_⟩
      · exact (((((HOq.out).other (by dsimp only; omega) _).other (by dsimp only; omega) _).other (by dsimp only; omega) _).other (by dsimp only; omega) _).mono (by omega)
      · exact (((((HOr.out).other (by dsimp only; omega) _).other (by dsimp only; omega) _).other (by dsimp only; omega) _).other (by dsimp only; omega) _).mono (by omega)
      · exact ((((KG.out).setCell (by dsimp only; omega) _).setCell (by dsimp only; omega) _).setCell (by dsimp only; omega) _).setCell (by dsimp only; omega) _
  · have hc : ¬ cs < 0 := by rw [hcs]; unfold cmpZ; rw [if_neg hneg]; split <;> omega
    have HLOW := Lib.hid (low_tl z1 z2 z1 z2 hz (Or.inr ⟨hneg, rfl, rfl⟩))
    have HN := Lib.hid (And.intro hn1 hn2)
    clear hcs hneg hz hn1 hn2
    go_enter Tryz.func36, Tryz.ntmps36
    go_upto_region 1 with (fail)
    rw [show ((w.alloc (.cells #[.bool (decide (z1 < 0)), .slice a1 (lenB z1.natAbs) c1] 24)).alloc (.cells #[.bool (decide (z2 < 0)), .slice a2 (lenB z2.natAbs) c2] 24)).alloc (.cells #[.bool false, .slice none 0 0, .bool false, .slice none 0 0] 27) = W from HW.out.symm]
    clear HW
    have b2c0 := HB2.out.cell (i := 0) rfl
    have b2c1 := HB2.out.cell (i := 1) rfl
    have b2f := HB2.out.fz
    have b2l := HB2.out.lt
    go_wp2_with fail
    with_reducible refine (SG.out).mono ?_
    rintro e w10 ⟨rfl, hb⟩
    clear b2c0 b2c1 b2f b2l
    have HB1 := Lib.hid (HB1.out.below hb HB1.out.lt)
    have HB2 := Lib.hid (HB2.out.below hb HB2.out.lt)
    have HB3 := Lib.hid (HB3.out.below hb HB3.out.lt)
    have HX1 := Lib.hid (HX1.out.below hb)
    have HX2 := Lib.hid (HX2.out.below hb)
    have HWS := Lib.hid (Nat.le_trans HWS.out hb.size)
    have KG := Lib.hid (KG.out.trans (hb.mono KG.out.size))
    clear hb
    clear SG
    obtain ⟨G, hG⟩ : ∃ G : Int, G = ((Int.gcd z1 z2 : Nat) : Int) := ⟨_, rfl⟩
    have HGL := Lib.hid (show lenB G.natAbs ≤ 8000000 by rw [hG, Int.natAbs_natCast]; have := gcd_len z1 z2; have := HN.out; omega)
    rw [← hG, ← HPE.out.1, ← HPE.out.2] at HLOW
    have HG := Lib.hid hG
    clear hG
    by_cases hl1 : z2 = 1
    · have HPQ := Lib.hid (HLOW.out.2.2.2.2 hl1)
      have RO := Lib.hid (fun (w' : World) (hb : Below w10.heap.size w10 w') => rone_any (decide (z2 < 0)) a2 (lenB z2.natAbs) c2 (dgi z2.natAbs) w' (HX2.out.rd.below hb) (by have := HN.out; omega) HC2.out (canon_ok z2))
      rw [canon_val, decide_eq_true hl1] at RO
      clear hl1
      have b2c0 := HB2.out.cell (i := 0) rfl
      have b2c1 := HB2.out.cell (i := 1) rfl
      have b2f := HB2.out.fz
      have b2l := HB2.out.lt
      go_wp2_with fail
      with_reducible refine (RO.out _ (Below.refl _ _)).mono ?_
      rintro e w11 ⟨rfl, hb⟩
      clear b2c0 b2c1 b2f b2l
      have HB1 := Lib.hid (HB1.out.below hb HB1.out.lt)
      have HB2 := Lib.hid (HB2.out.below hb HB2.out.lt)
      have HB3 := Lib.hid (HB3.out.below hb HB3.out.lt)
      have HX1 := Lib.hid (HX1.out.below hb)
      have HX2 := Lib.hid (HX2.out.below hb)
      have HWS := Lib.hid (Nat.le_trans HWS.out hb.size)
      have KG := Lib.hid (KG.out.trans (hb.mono KG.out.size))
      clear hb
      clear RO
      have TW1 := Lib.hid (fun (w' : World) (hb : Below w11.heap.size w11 w') => twin_any (decide (z1 < 0)) a1 (lenB z1.natAbs) c1 (dgi z1.natAbs) w' (HX1.out.rd.below hb) (by have := HN.out; omega))
      go_upto_region 5 with (fail)
      have HS := Lib.hid (fun (w' : World) (hb : Below w11.heap.size w11 w') => And.intro (HB1.out.below hb HB1.out.lt).bx.all ((HB2.out.below hb HB2.out.lt).bx.all))
      refine wp_region_fresh 3 (spOf [(1, Sp.made (fun x : Option Addr × Nat => numV (decide (z1 < 0)) x.1 (lenB z1.natAbs) x.2) (fun x w' => Own 74 w' w11.heap.size x.1 (lenB z1.natAbs) x.2 (dgi z1.natAbs)))]) (fun w' => Below w11.heap.size w11 w') (by kernel_rfl) (by kernel_rfl)
        (spOf_cons (Sp.made_keeps fun x w w' h hb => h.below hb) (spOf_nil)) (fun _ _ h hb => h.trans (hb.mono h.size)) ((Below.refl _ _).drew) ?_
      simp only [List.take_succ_cons, List.take_zero, List.drop_succ_cons, List.drop_zero]
      (refine wpF_reads rfl rfl ?_ (fun w' hw' => ?_) ?_; rotate_left; · (have hb' := Has.world hw'; (obtain ⟨k0, k1, k2, k3⟩ := (HS.out _ hb').1); clear hw'; go_simp; try rfl))
      conv => arg 9; simp only [Act.put, List.setIfInBounds_toArray, List.set_cons_succ, List.set_cons_zero]
      (refine wpF_spec rfl rfl (fun w' hw' => ?_) ?_; · (have hb' := Has.world hw'; go_simp; ((refine (TW1.out w' hb').mono ?_; rintro e w'' ⟨za, zb, rfl, ho, -, hb⟩; exact ⟨_, rfl, ⟨⟨za, zb, rfl⟩, ⟨za, zb, rfl, ho.mono hb'.size⟩⟩, hb⟩))))
      rintro _ ⟨y1, rfl⟩
      conv => arg 9; simp only [Act.put, List.setIfInBounds_toArray, List.set_cons_succ, List.set_cons_zero]
      (refine wpF_reads rfl rfl ?_ (fun w' hw' => ?_) ?_; rotate_left; · (have hb' := Has.world hw'; (obtain ⟨k0, k1, k2, k3⟩ := (HS.out _ hb').2); clear hw'; go_simp; try rfl))
      conv => arg 9; simp only [Act.put, List.setIfInBounds_toArray, List.set_cons_succ, List.set_cons_zero]
      refine wpF_nil (fun w12 hb hF => ?_)
      have HO1 := Lib.hid (Own.mono (own_numc (T := 74) (x := y1) (b := w11.heap.size) (s := decide (z1 < 0)) (L := lenB z1.natAbs) (o := dgi z1.natAbs) (hF 1)) HWS.out)
      clear hF HS
      have HB1 := Lib.hid (HB1.out.below hb HB1.out.lt)
      have HB2 := Lib.hid (HB2.out.below hb HB2.out.lt)
      have HB3 := Lib.hid (HB3.out.below hb HB3.out.lt)
      have HX1 := Lib.hid (HX1.out.below hb)
      have HX2 := Lib.hid (HX2.out.below hb)
      have HWS := Lib.hid (Nat.le_trans HWS.out hb.size)
      have KG := Lib.hid (KG.out.trans (hb.mono KG.out.size))
      clear hb
      clear TW1
      have TW2 := Lib.hid (fun (w' : World) (hb : Below w12.heap.size w12 w') => twin_any (decide (z2 < 0)) a2 (lenB z2.natAbs) c2 (dgi z2.natAbs) w' (HX2.out.rd.below hb) (by have := HN.out; omega))
      have b3c0 := HB3.out.cell (i := 0) rfl
      have b3c1 := HB3.out.cell (i := 1) rfl
      have b3c2 := HB3.out.cell (i := 2) rfl
      have b3c3 := HB3.out.cell (i := 3) rfl
      have b3f := HB3.out.fz
      have b3l := HB3.out.lt
      go_wp2_with fail
      with_reducible refine (TW2.out _ (Below.refl _ _)).mono ?_
      rintro e w13 ⟨m2, e2, rfl, ho2, -, hb⟩
      have HO2 := Lib.hid (ho2.mono HWS.out)
      clear ho2
      clear b3c0 b3c1 b3c2 b3c3 b3f b3l
      have HB1 := Lib.hid (HB1.out.below hb HB1.out.lt)
      have HB2 := Lib.hid (HB2.out.below hb HB2.out.lt)
      have HB3 := Lib.hid (HB3.out.below hb HB3.out.lt)
      have HX1 := Lib.hid (HX1.out.below hb)
      have HX2 := Lib.hid (HX2.out.below hb)
      have HO1 := Lib.hid (HO1.out.below hb)
      have HWS := Lib.hid (Nat.le_trans HWS.out hb.size)
      have KG := Lib.hid (KG.out.trans (hb.mono KG.out.size))
      clear hb
      have b3c0 := HB3.out.cell (i := 0) rfl
      have b3c1 := HB3.out.cell (i := 1) rfl
      have b3c2 := HB3.out.cell (i := 2) rfl
      have b3c3 := HB3.out.cell (i := 3) rfl
      have b3f := HB3.out.fz
      have b3l := HB3.out.lt
      go_wp2_with fail
      have hws := HWS.out
      refine bodyPost_ret (results_cell rfl _ _ _ _ _ _ _ rfl (((((HB3.out).put 0 _).put 1 _).put 2 _).put 3 _) Tryz.underlying27 rfl (by kernel_rfl)) rfl ?_
      rw [HPQ.out.1, HPQ.out.2]
      refine ⟨y1.1, y1.2, m2, e2, rfl, ?_, ?_, ?_⟩
      · exact (((((HO1.out).other (by dsimp only; omega) _).other (by dsimp only; omega) _).other (by dsimp only; omega) _).other (by dsimp only; omega) _).mono (by omega)
      · exact (((((HO2.out).other (by dsimp only; omega) _).other (by dsimp only; omega) _).other (by dsimp only; omega) _).other (by dsimp only; omega) _).mono (by omega)
      · exact ((((KG.out).setCell (by dsimp only; omega) _).setCell (by dsimp only; omega) _).setCell (by dsimp only; omega) _).setCell (by dsimp only; omega) _
    · have HL1 := Lib.hid hl1
      have RO := Lib.hid (fun (w' : World) (hb : Below w10.heap.size w10 w') => rone_any (decide (z2 < 0)) a2 (lenB z2.natAbs) c2 (dgi z2.natAbs) w' (HX2.out.rd.below hb) (by have := HN.out; omega) HC2.out (canon_ok z2))
      rw [canon_val, decide_eq_false hl1] at RO
      clear hl1
      have b2c0 := HB2.out.cell (i := 0) rfl
      have b2c1 := HB2.out.cell (i := 1) rfl
      have b2f := HB2.out.fz
      have b2l := HB2.out.lt
      go_wp2_with fail
      with_reducible refine (RO.out _ (Below.refl _ _)).mono ?_
      rintro e w14 ⟨rfl, hb⟩
      clear b2c0 b2c1 b2f b2l
      have HB1 := Lib.hid (HB1.out.below hb HB1.out.lt)
      have HB2 := Lib.hid (HB2.out.below hb HB2.out.lt)
      have HB3 := Lib.hid (HB3.out.below hb HB3.out.lt)
      have HX1 := Lib.hid (HX1.out.below hb)
      have HX2 := Lib.hid (HX2.out.below hb)
      have HWS := Lib.hid (Nat.le_trans HWS.out hb.size)
      have KG := Lib.hid (KG.out.trans (hb.mono KG.out.size))
      clear hb
      clear RO
      have GC := Lib.hid (fun (w' : World) (hb : Below w14.heap.size w14 w') => rgcd_any (decide (z1 < 0)) a1 (lenB z1.natAbs) c1 (dgi z1.natAbs) (decide (z2 < 0)) a2 (lenB z2.natAbs) c2 (dgi z2.natAbs) w' (HX1.out.rd.below hb) (by have := HN.out; omega) HC1.out (HX2.out.rd.below hb) (by have := HN.out; omega) HC2.out)
      rw [canon_val, canon_val, ← HG.out] at GC
      have b1c0 := HB1.out.cell (i := 0) rfl
      have b1c1 := HB1.out.cell (i := 1) rfl
      have b1f := HB1.out.fz
      have b1l := HB1.out.lt
      have b2c0 := HB2.out.cell (i := 0) rfl
      have b2c1 := HB2.out.cell (i := 1) rfl
      have b2f := HB2.out.fz
      have b2l := HB2.out.lt
      go_wp2_with fail
      with_reducible refine (GC.out _ (Below.refl _ _)).mono ?_
      rintro e wg ⟨xg, dg, rfl, ho, hb⟩
      clear b1c0 b1c1 b1f b1l b2c0 b2c1 b2f b2l
      clear GC
      go_upto_region 7 with (fail)
      have hbV := hb.alloc hb.size (.cells #[.bool (decide (G < 0)), .slice xg (lenB G.natAbs) dg] 24)
      have HB4 := Lib.hid (Bxs.new wg 24 [.bool (decide (G < 0)), .slice xg (lenB G.natAbs) dg])
      have HO4 := Lib.hid ((ho.mono HWS.out).allocd (.cells #[.bool (decide (G < 0)), .slice xg (lenB G.natAbs) dg] 24))
      obtain ⟨vg, hV⟩ : ∃ V, V = wg.alloc (.cells #[.bool (decide (G < 0)), .slice xg (lenB G.natAbs) dg] 24) := ⟨_, rfl⟩
      rw [← hV] at hbV HO4
      rw [show wg.alloc (.cells (List.toArray [.bool (decide (G < 0)), .slice xg (lenB G.natAbs) dg]) 24) = vg from hV.symm] at HB4
      rw [show wg.alloc (.cells #[.bool (decide (G < 0)), .slice xg (lenB G.natAbs) dg] 24) = vg from hV.symm]
      obtain ⟨b4, hb4⟩ : ∃ b, b = wg.heap.size := ⟨_, rfl⟩
      rw [← hb4] at HB4 ⊢
      clear hV hb4 ho hb
      have HB1 := Lib.hid (HB1.out.below hbV HB1.out.lt)
      have HB2 := Lib.hid (HB2.out.below hbV HB2.out.lt)
      have HB3 := Lib.hid (HB3.out.below hbV HB3.out.lt)
      have HX1 := Lib.hid (HX1.out.below hbV)
      have HX2 := Lib.hid (HX2.out.below hbV)
      have HWS := Lib.hid (Nat.le_trans HWS.out hbV.size)
      have KG := Lib.hid (KG.out.trans (hbV.mono KG.out.size))
      clear hbV
      have DV := Lib.hid (fun (w' : World) (hb : Below vg.heap.size vg w') => rdiv_ok z1 G a1 xg c1 dg w' (HX1.out.rd.below hb) (by have := HN.out; omega) HC1.out (HO4.out.rd.below hb) (by have := HGL.out; omega) HO4.out.le HLOW.out.2.1)
      obtain ⟨Qq, hQq⟩ : ∃ Q, Q = z1 / G := ⟨_, rfl⟩
      obtain ⟨Rq, hRq⟩ : ∃ R, R = z1 % G := ⟨_, rfl⟩
      unfold DivF at DV
      rw [← hQq, ← hRq] at DV
      rw [← hQq] at HLOW
      clear hQq hRq
      have b1c0 := HB1.out.cell (i := 0) rfl
      have b1c1 := HB1.out.cell (i := 1) rfl
      have b1f := HB1.out.fz
      have b1l := HB1.out.lt
      have b4c0 := HB4.out.cell (i := 0) rfl
      have b4c1 := HB4.out.cell (i := 1) rfl
      have b4f := HB4.out.fz
      have b4l := HB4.out.lt
      go_wp2_with fail
      with_reducible refine (DV.out _ (Below.refl _ _)).mono ?_
      rintro e wq ⟨xq, dq, uq, vq, rfl, ho, -, hb⟩
      clear b1c0 b1c1 b1f b1l b4c0 b4c1 b4f b4l
      clear DV
      go_upto_region 8 with (fail)
      have hbV := (hb.alloc hb.size (.cells #[.bool (decide (Qq < 0)), .slice xq (lenB Qq.natAbs) dq] 24)).alloc (by have := hb.size; go_size) (.cells #[.bool (decide (Rq < 0)), .slice uq (lenB Rq.natAbs) vq] 24)
      have HBn := Lib.hid ((Bxs.new wq 24 [.bool (decide (Qq < 0)), .slice xq (lenB Qq.natAbs) dq]).alloc (.cells #[.bool (decide (Rq < 0)), .slice uq (lenB Rq.natAbs) vq] 24))
      have HOq := Lib.hid (((ho.mono HWS.out).allocd (.cells #[.bool (decide (Qq < 0)), .slice xq (lenB Qq.natAbs) dq] 24)).allocd (.cells #[.bool (decide (Rq < 0)), .slice uq (lenB Rq.natAbs) vq] 24))
      obtain ⟨vq', hV⟩ : ∃ V, V = (wq.alloc (.cells #[.bool (decide (Qq < 0)), .slice xq (lenB Qq.natAbs) dq] 24)).alloc (.cells #[.bool (decide (Rq < 0)), .slice uq (lenB Rq.natAbs) vq] 24) := ⟨_, rfl⟩
      rw [← hV] at hbV HOq
      rw [show (wq.alloc (.cells (List.toArray [.bool (decide (Qq < 0)), .slice xq (lenB Qq.natAbs) dq]) 24)).alloc (.cells #[.bool (decide (Rq < 0)), .slice uq (lenB Rq.natAbs) vq] 24) = vq' from hV.symm] at HBn
      rw [show (wq.alloc (.cells #[.bool (decide (Qq < 0)), .slice xq (lenB Qq.natAbs) dq] 24)).alloc (.cells #[.bool (decide (Rq < 0)), .slice uq (lenB Rq.natAbs) vq] 24) = vq' from hV.symm]
      obtain ⟨bq, hbn⟩ : ∃ b, b = wq.heap.size := ⟨_, rfl⟩
      rw [← hbn] at HBn ⊢
      clear hV hbn ho hb
      have HB1 := Lib.hid (HB1.out.below hbV HB1.out.lt)
      have HB2 := Lib.hid (HB2.out.below hbV HB2.out.lt)
      have HB3 := Lib.hid (HB3.out.below hbV HB3.out.lt)
      have HB4 := Lib.hid (HB4.out.below hbV HB4.out.lt)
      have HX1 := Lib.hid (HX1.out.below hbV)
      have HX2 := Lib.hid (HX2.out.below hbV)
      have HO4 := Lib.hid (HO4.out.below hbV)
      have HWS := Lib.hid (Nat.le_trans HWS.out hbV.size)
      have KG := Lib.hid (KG.out.trans (hbV.mono KG.out.size))
      clear hbV
      have HB5 := Lib.hid HBn.out
      clear HBn
      have DV := Lib.hid (fun (w' : World) (hb : Below vq'.heap.size vq' w') => rdiv_ok z2 G a2 xg c2 dg w' (HX2.out.rd.below hb) (by have := HN.out; omega) HC2.out (HO4.out.rd.below hb) (by have := HGL.out; omega) HO4.out.le HLOW.out.2.1)
      obtain ⟨Qr, hQr⟩ : ∃ Q, Q = z2 / G := ⟨_, rfl⟩
      obtain ⟨Rr, hRr⟩ : ∃ R, R = z2 % G := ⟨_, rfl⟩
      unfold DivF at DV
      rw [← hQr, ← hRr] at DV
      rw [← hQr] at HLOW
      clear hQr hRr
      have b2c0 := HB2.out.cell (i := 0) rfl
      have b2c1 := HB2.out.cell (i := 1) rfl
      have b2f := HB2.out.fz
      have b2l := HB2.out.lt
      have b4c0 := HB4.out.cell (i := 0) rfl
      have b4c1 := HB4.out.cell (i := 1) rfl
      have b4f := HB4.out.fz
      have b4l := HB4.out.lt
      go_wp2_with fail
      with_reducible refine (DV.out _ (Below.refl _ _)).mono ?_
      rintro e wr ⟨xr, dr, ur, vr, rfl, ho, -, hb⟩
      clear b2c0 b2c1 b2f b2l b4c0 b4c1 b4f b4l
      clear DV
      go_upto_region 9 with (fail)
      have hbV := (hb.alloc hb.size (.cells #[.bool (decide (Qr < 0)), .slice xr (lenB Qr.natAbs) dr] 24)).alloc (by have := hb.size; go_size) (.cells #[.bool (decide (Rr < 0)), .slice ur (lenB Rr.natAbs) vr] 24)
      have HBn := Lib.hid ((Bxs.new wr 24 [.bool (decide (Qr < 0)), .slice xr (lenB Qr.natAbs) dr]).alloc (.cells #[.bool (decide (Rr < 0)), .slice ur (lenB Rr.natAbs) vr] 24))
      have HOr := Lib.hid (((ho.mono HWS.out).allocd (.cells #[.bool (decide (Qr < 0)), .slice xr (lenB Qr.natAbs) dr] 24)).allocd (.cells #[.bool (decide (Rr < 0)), .slice ur (lenB Rr.natAbs) vr] 24))
      obtain ⟨vr', hV⟩ : ∃ V, V = (wr.alloc (.cells #[.bool (decide (Qr < 0)), .slice xr (lenB Qr.natAbs) dr] 24)).alloc (.cells #[.bool (decide (Rr < 0)), .slice ur (lenB Rr.natAbs) vr] 24) := ⟨_, rfl⟩
      rw [← hV] at hbV HOr
      rw [show (wr.alloc (.cells (List.toArray [.bool (decide (Qr < 0)), .slice xr (lenB Qr.natAbs) dr]) 24)).alloc (.cells #[.bool (decide (Rr < 0)), .slice ur (lenB Rr.natAbs) vr] 24) = vr' from hV.symm] at HBn
      rw [show (wr.alloc (.cells #[.bool (decide (Qr < 0)), .slice xr (lenB Qr.natAbs) dr] 24)).alloc (.cells #[.bool (decide (Rr < 0)), .slice ur (lenB Rr.natAbs) vr] 24) = vr' from hV.symm]
      obtain ⟨br, hbn⟩ : ∃ b, b = wr.heap.size := ⟨_, rfl⟩
      rw [← hbn] at HBn ⊢
      clear hV hbn ho hb
      have HB1 := Lib.hid (HB1.out.below hbV HB1.out.lt)
      have HB2 := Lib.hid (HB2.out.below hbV HB2.out.lt)
      have HB3 := Lib.hid (HB3.out.below hbV HB3.out.lt)
      have HB4 := Lib.hid (HB4.out.below hbV HB4.out.lt)
      have HB5 := Lib.hid (HB5.out.below hbV HB5.out.lt)
      have HX1 := Lib.hid (HX1.out.below hbV)
      have HX2 := Lib.hid (HX2.out.below hbV)
      have HO4 := Lib.hid (HO4.out.below hbV)
      have HOq := Lib.hid (HOq.out.below hbV)
      have HWS := Lib.hid (Nat.le_trans HWS.out hbV.size)
      have KG := Lib.hid (KG.out.trans (hbV.mono KG.out.size))
      clear hbV
      have HB6 := Lib.hid HBn.out
      clear HBn
      have b5c0 := HB5.out.cell (i := 0) rfl
      have b5c1 := HB5.out.cell (i := 1) rfl
      have b5f := HB5.out.fz
      have b5l := HB5.out.lt
      have b6c0 := HB6.out.cell (i := 0) rfl
      have b6c1 := HB6.out.cell (i := 1) rfl
      have b6f := HB6.out.fz
      have b6l := HB6.out.lt
      have b3c0 := HB3.out.cell (i := 0) rfl
      have b3c1 := HB3.out.cell (i := 1) rfl
      have b3c2 := HB3.out.cell (i := 2) rfl
      have b3c3 := HB3.out.cell (i := 3) rfl
      have b3f := HB3.out.fz
      have b3l := HB3.out.lt
      go_wp2_with fail
      have hws := HWS.out
      refine bodyPost_ret (results_cell rfl _ _ _ _ _ _ _ rfl (((((HB3.out).put 0 _).put 1 _).put 2 _).put 3 _) Tryz.underlying27 rfl (by kernel_rfl)) rfl ?_
      rw [← HLOW.out.2.2.1, ← HLOW.out.2.2.2.1]
      refine ⟨xq, dq, xr, dr, rfl, ?_, ?_, ?_⟩
      · exact (((((HOq.out).other (by dsimp only; omega) _).other (by dsimp only; omega) _).other (by dsimp only; omega) _).other (by dsimp only; omega) _).mono (by omega)
      · exact (((((HOr.out).other (by dsimp only; omega) _).other (by dsimp only; omega) _).other (by dsimp only; omega) _).other (by dsimp only; omega) _).mono (by omega)
      · exact ((((KG.out).setCell (by dsimp only; omega) _).setCell (by dsimp only; omega) _).setCell (by dsimp only; omega) _).setCell (by dsimp only; omega) _
end Go.Proofs.YtaagegcidbgjmaaGreatDoor.Limb
namespace Go.Proofs.YtaagegcidbgjmaaGreatDoor.Limb
open Go.RowKit Go.Sort Go.Fresh

open Classical in
set_option maxRecDepth 100000 in
set_option maxHeartbeats 2000000 in
theorem rmake_1 (s1 : Bool) (a1 : Option Addr) (n1 c1 : Nat) (o1 : Nat → Int) (s2 : Bool) (a2 : Option Addr) (n2 c2 : Nat) (o2 : Nat → Int) (w : World)
    (h1 : Rd w a1 n1 o1) (hn1 : n1 ≤ 4000000) (hc1 : n1 ≤ c1) (h2 : Rd w a2 n2 o2) (hn2 : n2 ≤ 4000000) (hc2 : n2 ≤ c2) (hk : ¬ okN s1 n1 o1) :
    Calls Tryz.prog 7 #[numV s1 a1 n1 c1, numV s2 a2 n2 c2] w fun e w' => e = .returned (.tuple #[fracV false none 0 0 false none 0 0, .int .i64 1]) ∧ Below w.heap.size w w' := by
  have CK1 := Lib.hid (fun (w' : World) (hb : Below w.heap.size w w') => rcheck_any s1 a1 n1 c1 o1 w' (h1.below hb) (by omega))
  have CK2 := Lib.hid (fun (w' : World) (hb : Below w.heap.size w w') => rcheck_any s2 a2 n2 c2 o2 w' (h2.below hb) (by omega))
  rw [decide_eq_false hk] at CK1
  clear hk h1 h2
  have KB1 := Lib.hid (((Bx.new w 24 (.bool s1) (.slice a1 n1 c1)).alloc (.cells #[.bool s2, .slice a2 n2 c2] 24)).alloc (.cells #[.bool false, .slice none 0 0, .bool false, .slice none 0 0] 27))
  have KB2 := Lib.hid ((Bx.new2 w (.cells #[.bool s1, .slice a1 n1 c1] 24) 24 (.bool s2) (.slice a2 n2 c2)).alloc (.cells #[.bool false, .slice none 0 0, .bool false, .slice none 0 0] 27))
  have KB4 := Lib.hid (Bxs.new ((w.alloc (.cells #[.bool s1, .slice a1 n1 c1] 24)).alloc (.cells #[.bool s2, .slice a2 n2 c2] 24)) 27 [.bool false, .slice none 0 0, .bool false, .slice none 0 0])
  obtain ⟨W, hW⟩ : ∃ W, W = (((w.alloc (.cells #[.bool s1, .slice a1 n1 c1] 24)).alloc (.cells #[.bool s2, .slice a2 n2 c2] 24)).alloc (.cells #[.bool false, .slice none 0 0, .bool false, .slice none 0 0] 27)) := ⟨_, rfl⟩
  have KG := Lib.hid (show Below w.heap.size w W by rw [hW]; exact (((Below.refl _ _).alloc (Nat.le_refl _) _).alloc (by go_size) _).alloc (by go_size) _)
  rw [← hW] at KB1 KB2
  rw [show (((w.alloc (.cells #[.bool s1, .slice a1 n1 c1] 24)).alloc (.cells #[.bool s2, .slice a2 n2 c2] 24)).alloc (.cells (List.toArray [.bool false, .slice none 0 0, .bool false, .slice none 0 0]) 27)) = W from hW.symm, World.size_alloc, World.size_alloc] at KB4
  have HW := Lib.hid hW
  have GB := Lib.hid (Below.refl W.heap.size W)
  clear hW
  go_enter Tryz.func7, Tryz.ntmps7
  go_upto_region 1 with (fail)
  rw [show (((w.alloc (.cells #[.bool s1, .slice a1 n1 c1] 24)).alloc (.cells #[.bool s2, .slice a2 n2 c2] 24)).alloc (.cells #[.bool false, .slice none 0 0, .bool false, .slice none 0 0] 27)) = W from HW.out.symm]
  clear HW
  obtain ⟨x0, x1, x2, x3⟩ := KB1.out.all
  go_wp2_with fail
  with_reducible refine (CK1.out _ (KG.out.trans (GB.out.mono KG.out.size))).mono ?_
  rintro e w1 ⟨rfl, hb⟩
  have GB := Lib.hid (GB.out.trans (hb.mono GB.out.size))
  obtain ⟨v, rfl⟩ : ∃ v, v = w1 := ⟨_, rfl⟩
  clear hb x0 x1 x2 x3
  obtain ⟨x0, x1, x2, x3⟩ := (KB2.out.below GB.out KB2.out.lt).all
  obtain ⟨y0, y1, y2, y3, y4, y5⟩ := frac_box (KB4.out.below GB.out KB4.out.lt)
  go_wp2_with fail
  have hG := KG.out.trans (GB.out.mono KG.out.size)
  have hlt := KB4.out.lt
  exact bodyPost_ret (results_ct rfl _ _ _ _ _ _ _ rfl (((((KB4.out.below GB.out KB4.out.lt).put 0 _).put 1 _).put 2 _).put 3 _) Tryz.underlying27 rfl (by kernel_rfl)) rfl ⟨rfl, (((hG.setCell (by dsimp only; omega) _).setCell (by dsimp only; omega) _).setCell (by dsimp only; omega) _).setCell (by dsimp only; omega) _⟩
open Classical in
set_option maxRecDepth 100000 in
set_option maxHeartbeats 2000000 in
theorem rmake_2 (s1 : Bool) (a1 : Option Addr) (n1 c1 : Nat) (o1 : Nat → Int) (s2 : Bool) (a2 : Option Addr) (n2 c2 : Nat) (o2 : Nat → Int) (w : World)
    (h1 : Rd w a1 n1 o1) (hn1 : n1 ≤ 4000000) (hc1 : n1 ≤ c1) (h2 : Rd w a2 n2 o2) (hn2 : n2 ≤ 4000000) (hc2 : n2 ≤ c2) (hk1 : okN s1 n1 o1) (hk : ¬ okN s2 n2 o2) :
    Calls Tryz.prog 7 #[numV s1 a1 n1 c1, numV s2 a2 n2 c2] w fun e w' => e = .returned (.tuple #[fracV false none 0 0 false none 0 0, .int .i64 1]) ∧ Below w.heap.size w w' := by
  have CK1 := Lib.hid (fun (w' : World) (hb : Below w.heap.size w w') => rcheck_any s1 a1 n1 c1 o1 w' (h1.below hb) (by omega))
  have CK2 := Lib.hid (fun (w' : World) (hb : Below w.heap.size w w') => rcheck_any s2 a2 n2 c2 o2 w' (h2.below hb) (by omega))
  rw [decide_eq_true hk1] at CK1
  rw [decide_eq_false hk] at CK2
  clear hk hk1 h1 h2
  have KB1 := Lib.hid (((Bx.new w 24 (.bool s1) (.slice a1 n1 c1)).alloc (.cells #[.bool s2, .slice a2 n2 c2] 24)).alloc (.cells #[.bool false, .slice none 0 0, .bool false, .slice none 0 0] 27))
  have KB2 := Lib.hid ((Bx.new2 w (.cells #[.bool s1, .slice a1 n1 c1] 24) 24 (.bool s2) (.slice a2 n2 c2)).alloc (.cells #[.bool false, .slice none 0 0, .bool false, .slice none 0 0] 27))
  have KB4 := Lib.hid (Bxs.new ((w.alloc (.cells #[.bool s1, .slice a1 n1 c1] 24)).alloc (.cells #[.bool s2, .slice a2 n2 c2] 24)) 27 [.bool false, .slice none 0 0, .bool false, .slice none 0 0])
  obtain ⟨W, hW⟩ : ∃ W, W = (((w.alloc (.cells #[.bool s1, .slice a1 n1 c1] 24)).alloc (.cells #[.bool s2, .slice a2 n2 c2] 24)).alloc (.cells #[.bool false, .slice none 0 0, .bool false, .slice none 0 0] 27)) := ⟨_, rfl⟩
  have KG := Lib.hid (show Below w.heap.size w W by rw [hW]; exact (((Below.refl _ _).alloc (Nat.le_refl _) _).alloc (by go_size) _).alloc (by go_size) _)
  rw [← hW] at KB1 KB2
  rw [show (((w.alloc (.cells #[.bool s1, .slice a1 n1 c1] 24)).alloc (.cells #[.bool s2, .slice a2 n2 c2] 24)).alloc (.cells (List.toArray [.bool false, .slice none 0 0, .bool false, .slice none 0 0]) 27)) = W from hW.symm, World.size_alloc, World.size_alloc] at KB4
  have HW := Lib.hid hW
  have GB := Lib.hid (Below.refl W.heap.size W)
  clear hW
  go_enter Tryz.func7, Tryz.ntmps7
  go_upto_region 1 with (fail)
  rw [show (((w.alloc (.cells #[.bool s1, .slice a1 n1 c1] 24)).alloc (.cells #[.bool s2, .slice a2 n2 c2] 24)).alloc (.cells #[.bool false, .slice none 0 0, .bool false, .slice none 0 0] 27)) = W from HW.out.symm]
  clear HW
  obtain ⟨x0, x1, x2, x3⟩ := KB1.out.all
  go_wp2_with fail
  with_reducible refine (CK1.out _ (KG.out.trans (GB.out.mono KG.out.size))).mono ?_
  rintro e w1 ⟨rfl, hb⟩
  have GB := Lib.hid (GB.out.trans (hb.mono GB.out.size))
  obtain ⟨v, rfl⟩ : ∃ v, v = w1 := ⟨_, rfl⟩
  clear hb x0 x1 x2 x3
  obtain ⟨x0, x1, x2, x3⟩ := (KB2.out.below GB.out KB2.out.lt).all
  go_wp2_with fail
  with_reducible refine (CK2.out _ (KG.out.trans (GB.out.mono KG.out.size))).mono ?_
  rintro e w1 ⟨rfl, hb⟩
  have GB := Lib.hid (GB.out.trans (hb.mono GB.out.size))
  obtain ⟨v, rfl⟩ : ∃ v, v = w1 := ⟨_, rfl⟩
  clear hb x0 x1 x2 x3
  obtain ⟨x0, x1, x2, x3⟩ := (KB2.out.below GB.out KB2.out.lt).all
  obtain ⟨y0, y1, y2, y3, y4, y5⟩ := frac_box (KB4.out.below GB.out KB4.out.lt)
  go_wp2_with fail
  have hG := KG.out.trans (GB.out.mono KG.out.size)
  have hlt := KB4.out.lt
  exact bodyPost_ret (results_ct rfl _ _ _ _ _ _ _ rfl (((((KB4.out.below GB.out KB4.out.lt).put 0 _).put 1 _).put 2 _).put 3 _) Tryz.underlying27 rfl (by kernel_rfl)) rfl ⟨rfl, (((hG.setCell (by dsimp only; omega) _).setCell (by dsimp only; omega) _).setCell (by dsimp only; omega) _).setCell (by dsimp only; omega) _⟩
open Classical in
set_option maxRecDepth 100000 in
set_option maxHeartbeats 2000000 in
theorem rmake_3 (s1 : Bool) (a1 : Option Addr) (n1 c1 : Nat) (o1 : Nat → Int) (s2 : Bool) (a2 : Option Addr) (n2 c2 : Nat) (o2 : Nat → Int) (w : World)
    (h1 : Rd w a1 n1 o1) (hn1 : n1 ≤ 4000000) (hc1 : n1 ≤ c1) (h2 : Rd w a2 n2 o2) (hn2 : n2 ≤ 4000000) (hc2 : n2 ≤ c2) (hk1 : okN s1 n1 o1) (hk2 : okN s2 n2 o2) (hz : valN s2 n2 o2 = 0) :
    Calls Tryz.prog 7 #[numV s1 a1 n1 c1, numV s2 a2 n2 c2] w fun e w' => e = .returned (.tuple #[fracV false none 0 0 false none 0 0, .int .i64 6]) ∧ Below w.heap.size w w' := by
  have CK1 := Lib.hid (fun (w' : World) (hb : Below w.heap.size w w') => rcheck_any s1 a1 n1 c1 o1 w' (h1.below hb) (by omega))
  have CK2 := Lib.hid (fun (w' : World) (hb : Below w.heap.size w w') => rcheck_any s2 a2 n2 c2 o2 w' (h2.below hb) (by omega))
  have SG := Lib.hid (fun (w' : World) (hb : Below w.heap.size w w') => rsign_any s2 a2 n2 c2 o2 w' (h2.below hb) (by omega) hc2)
  obtain ⟨cs, hcs⟩ : ∃ cs, cs = cmpZ (valN s2 n2 o2) 0 := ⟨_, rfl⟩
  rw [← hcs] at SG
  have hc0 : cs = 0 := by rw [hcs]; exact (sign_zero _).2 hz
  subst hc0
  rw [decide_eq_true hk1] at CK1
  rw [decide_eq_true hk2] at CK2
  clear hk1 hk2 hcs hz h1 h2
  have KB1 := Lib.hid (((Bx.new w 24 (.bool s1) (.slice a1 n1 c1)).alloc (.cells #[.bool s2, .slice a2 n2 c2] 24)).alloc (.cells #[.bool false, .slice none 0 0, .bool false, .slice none 0 0] 27))
  have KB2 := Lib.hid ((Bx.new2 w (.cells #[.bool s1, .slice a1 n1 c1] 24) 24 (.bool s2) (.slice a2 n2 c2)).alloc (.cells #[.bool false, .slice none 0 0, .bool false, .slice none 0 0] 27))
  have KB4 := Lib.hid (Bxs.new ((w.alloc (.cells #[.bool s1, .slice a1 n1 c1] 24)).alloc (.cells #[.bool s2, .slice a2 n2 c2] 24)) 27 [.bool false, .slice none 0 0, .bool false, .slice none 0 0])
  obtain ⟨W, hW⟩ : ∃ W, W = (((w.alloc (.cells #[.bool s1, .slice a1 n1 c1] 24)).alloc (.cells #[.bool s2, .slice a2 n2 c2] 24)).alloc (.cells #[.bool false, .slice none 0 0, .bool false, .slice none 0 0] 27)) := ⟨_, rfl⟩
  have KG := Lib.hid (show Below w.heap.size w W by rw [hW]; exact (((Below.refl _ _).alloc (Nat.le_refl _) _).alloc (by go_size) _).alloc (by go_size) _)
  rw [← hW] at KB1 KB2
  rw [show (((w.alloc (.cells #[.bool s1, .slice a1 n1 c1] 24)).alloc (.cells #[.bool s2, .slice a2 n2 c2] 24)).alloc (.cells (List.toArray [.bool false, .slice none 0 0, .bool false, .slice none 0 0]) 27)) = W from hW.symm, World.size_alloc, World.size_alloc] at KB4
  have HW := Lib.hid hW
  have GB := Lib.hid (Below.refl W.heap.size W)
  clear hW
  go_enter Tryz.func7, Tryz.ntmps7
  go_upto_region 1 with (fail)
  rw [show (((w.alloc (.cells #[.bool s1, .slice a1 n1 c1] 24)).alloc (.cells #[.bool s2, .slice a2 n2 c2] 24)).alloc (.cells #[.bool false, .slice none 0 0, .bool false, .slice none 0 0] 27)) = W from HW.out.symm]
  clear HW
  obtain ⟨x0, x1, x2, x3⟩ := KB1.out.all
  go_wp2_with fail
  with_reducible refine (CK1.out _ (KG.out.trans (GB.out.mono KG.out.size))).mono ?_
  rintro e w1 ⟨rfl, hb⟩
  have GB := Lib.hid (GB.out.trans (hb.mono GB.out.size))
  obtain ⟨v, rfl⟩ : ∃ v, v = w1 := ⟨_, rfl⟩
  clear hb x0 x1 x2 x3
  obtain ⟨x0, x1, x2, x3⟩ := (KB2.out.below GB.out KB2.out.lt).all
  go_wp2_with fail
  with_reducible refine (CK2.out _ (KG.out.trans (GB.out.mono KG.out.size))).mono ?_
  rintro e w1 ⟨rfl, hb⟩
  have GB := Lib.hid (GB.out.trans (hb.mono GB.out.size))
  obtain ⟨v, rfl⟩ : ∃ v, v = w1 := ⟨_, rfl⟩
  clear hb x0 x1 x2 x3
  obtain ⟨x0, x1, x2, x3⟩ := (KB2.out.below GB.out KB2.out.lt).all
  go_wp2_with fail
  with_reducible refine (SG.out _ (KG.out.trans (GB.out.mono KG.out.size))).mono ?_
  rintro e w1 ⟨rfl, hb⟩
  have GB := Lib.hid (GB.out.trans (hb.mono GB.out.size))
  obtain ⟨v, rfl⟩ : ∃ v, v = w1 := ⟨_, rfl⟩
  clear hb x0 x1 x2 x3
  obtain ⟨x0, x1, x2, x3⟩ := (KB2.out.below GB.out KB2.out.lt).all
  obtain ⟨y0, y1, y2, y3, y4, y5⟩ := frac_box (KB4.out.below GB.out KB4.out.lt)
  go_wp2_with fail
  have hG := KG.out.trans (GB.out.mono KG.out.size)
  have hlt := KB4.out.lt
  exact bodyPost_ret (results_ct rfl _ _ _ _ _ _ _ rfl (((((KB4.out.below GB.out KB4.out.lt).put 0 _).put 1 _).put 2 _).put 3 _) Tryz.underlying27 rfl (by kernel_rfl)) rfl ⟨rfl, (((hG.setCell (by dsimp only; omega) _).setCell (by dsimp only; omega) _).setCell (by dsimp only; omega) _).setCell (by dsimp only; omega) _⟩
open Classical in
set_option maxRecDepth 100000 in
set_option maxHeartbeats 2000000 in
theorem rmake_ok (s1 : Bool) (a1 : Option Addr) (n1 c1 : Nat) (o1 : Nat → Int) (s2 : Bool) (a2 : Option Addr) (n2 c2 : Nat) (o2 : Nat → Int) (w : World)
    (h1 : Rd w a1 n1 o1) (hn1 : n1 ≤ 4000000) (hc1 : n1 ≤ c1) (h2 : Rd w a2 n2 o2) (hn2 : n2 ≤ 4000000) (hc2 : n2 ≤ c2) (hk1 : okN s1 n1 o1) (hk2 : okN s2 n2 o2) (hz : valN s2 n2 o2 ≠ 0) :
    Calls Tryz.prog 7 #[numV s1 a1 n1 c1, numV s2 a2 n2 c2] w (MakeF w 0 (Rat.divInt (valN s1 n1 o1) (valN s2 n2 o2)).num ((Rat.divInt (valN s1 n1 o1) (valN s2 n2 o2)).den : Int)) := by
  have CK1 := Lib.hid (fun (w' : World) (hb : Below w.heap.size w w') => rcheck_any s1 a1 n1 c1 o1 w' (h1.below hb) (by omega))
  have CK2 := Lib.hid (fun (w' : World) (hb : Below w.heap.size w w') => rcheck_any s2 a2 n2 c2 o2 w' (h2.below hb) (by omega))
  have SG := Lib.hid (fun (w' : World) (hb : Below w.heap.size w w') => rsign_any s2 a2 n2 c2 o2 w' (h2.below hb) (by omega) hc2)
  obtain ⟨cs, hcs⟩ : ∃ cs, cs = cmpZ (valN s2 n2 o2) 0 := ⟨_, rfl⟩
  rw [← hcs] at SG
  have hc0 : (cs == 0) = false := by rw [hcs]; simpa using fun h => hz ((sign_zero _).1 h)
  have hc0' : decide (cs = 0) = false := by simpa using hc0
  rw [decide_eq_true hk1] at CK1
  rw [decide_eq_true hk2] at CK2
  obtain ⟨t1, t2, t3⟩ := of_facts s1 n1 o1 hk1 h1.rng
  obtain ⟨u1, u2, u3⟩ := of_facts s2 n2 o2 hk2 h2.rng
  have LW := Lib.hid (fun (w' : World) (hb : Below w.heap.size w w') => rlowest_any (valN s1 n1 o1) (valN s2 n2 o2) a1 a2 c1 c2 w' (by rw [t2]; exact (h1.congr t3).below hb) (by omega) (by omega) (by rw [u2]; exact (h2.congr u3).below hb) (by omega) (by omega) hz)
  rw [t1, t2, u1, u2] at LW
  obtain ⟨p, hp⟩ : ∃ p, p = (Rat.divInt (valN s1 n1 o1) (valN s2 n2 o2)).num := ⟨_, rfl⟩
  obtain ⟨q, hq⟩ : ∃ q : Int, q = ((Rat.divInt (valN s1 n1 o1) (valN s2 n2 o2)).den : Int) := ⟨_, rfl⟩
  rw [← hp, ← hq] at LW
  rw [← hp, ← hq]
  clear hk1 hk2 hcs hz h1 h2 t1 t2 t3 u1 u2 u3 hp hq
  have KB1 := Lib.hid (((Bx.new w 24 (.bool s1) (.slice a1 n1 c1)).alloc (.cells #[.bool s2, .slice a2 n2 c2] 24)).alloc (.cells #[.bool false, .slice none 0 0, .bool false, .slice none 0 0] 27))
  have KB2 := Lib.hid ((Bx.new2 w (.cells #[.bool s1, .slice a1 n1 c1] 24) 24 (.bool s2) (.slice a2 n2 c2)).alloc (.cells #[.bool false, .slice none 0 0, .bool false, .slice none 0 0] 27))
  have KB4 := Lib.hid (Bxs.new ((w.alloc (.cells #[.bool s1, .slice a1 n1 c1] 24)).alloc (.cells #[.bool s2, .slice a2 n2 c2] 24)) 27 [.bool false, .slice none 0 0, .bool false, .slice none 0 0])
  obtain ⟨W, hW⟩ : ∃ W, W = (((w.alloc (.cells #[.bool s1, .slice a1 n1 c1] 24)).alloc (.cells #[.bool s2, .slice a2 n2 c2] 24)).alloc (.cells #[.bool false, .slice none 0 0, .bool false, .slice none 0 0] 27)) := ⟨_, rfl⟩
  have KG := Lib.hid (show Below w.heap.size w W by rw [hW]; exact (((Below.refl _ _).alloc (Nat.le_refl _) _).alloc (by go_size) _).alloc (by go_size) _)
  rw [← hW] at KB1 KB2
  rw [show (((w.alloc (.cells #[.bool s1, .slice a1 n1 c1] 24)).alloc (.cells #[.bool s2, .slice a2 n2 c2] 24)).alloc (.cells (List.toArray [.bool false, .slice none 0 0, .bool false, .slice none 0 0]) 27)) = W from hW.symm, World.size_alloc, World.size_alloc] at KB4
  have HW := Lib.hid hW
  have GB := Lib.hid (Below.refl W.heap.size W)
  clear hW
  go_enter Tryz.func7, Tryz.ntmps7
  go_upto_region 1 with (fail)
  rw [show (((w.alloc (.cells #[.bool s1, .slice a1 n1 c1] 24)).alloc (.cells #[.bool s2, .slice a2 n2 c2] 24)).alloc (.cells #[.bool false, .slice none 0 0, .bool false, .slice none 0 0] 27)) = W from HW.out.symm]
  clear HW
  obtain ⟨x0, x1, x2, x3⟩ := KB1.out.all
  go_wp2_with fail
  with_reducible refine (CK1.out _ (KG.out.trans (GB.out.mono KG.out.size))).mono ?_
  rintro e w1 ⟨rfl, hb⟩
  have GB := Lib.hid (GB.out.trans (hb.mono GB.out.size))
  obtain ⟨v, rfl⟩ : ∃ v, v = w1 := ⟨_, rfl⟩
  clear hb x0 x1 x2 x3
  obtain ⟨x0, x1, x2, x3⟩ := (KB2.out.below GB.out KB2.out.lt).all
  go_wp2_with fail
  with_reducible refine (CK2.out _ (KG.out.trans (GB.out.mono KG.out.size))).mono ?_
  rintro e w1 ⟨rfl, hb⟩
  have GB := Lib.hid (GB.out.trans (hb.mono GB.out.size))
  obtain ⟨v, rfl⟩ : ∃ v, v = w1 := ⟨_, rfl⟩
  clear hb x0 x1 x2 x3
  obtain ⟨x0, x1, x2, x3⟩ := (KB2.out.below GB.out KB2.out.lt).all
  go_wp2_with fail
  with_reducible refine (SG.out _ (KG.out.trans (GB.out.mono KG.out.size))).mono ?_
  rintro e w1 ⟨rfl, hb⟩
  have GB := Lib.hid (GB.out.trans (hb.mono GB.out.size))
  obtain ⟨v, rfl⟩ : ∃ v, v = w1 := ⟨_, rfl⟩
  clear hb x0 x1 x2 x3
  obtain ⟨x0, x1, x2, x3⟩ := (KB2.out.below GB.out KB2.out.lt).all
  obtain ⟨z0, z1, z2, z3⟩ := (KB1.out.below GB.out KB1.out.lt).all
  go_wp2_with fail
  with_reducible refine (LW.out _ (KG.out.trans (GB.out.mono KG.out.size))).mono ?_
  rintro e w2 ⟨aq, dq, ap, dp, rfl, ho1, ho2, hb⟩
  have hs1 := KG.out.size
  have hs2 := GB.out.size
  have HO := Lib.hid (And.intro ho1 ho2)
  have HSZ := Lib.hid (Nat.le_trans (show w.heap.size + 3 ≤ W.heap.size by have := KB4.out.lt; omega) hs2)
  have GB := Lib.hid (GB.out.trans (hb.mono GB.out.size))
  clear ho1 ho2 hb hs1 hs2 x0 x1 x2 x3 z0 z1 z2 z3
  obtain ⟨y0, y1, y2, y3, y4, y5⟩ := frac_box (KB4.out.below GB.out KB4.out.lt)
  go_wp2_with fail
  have hG := KG.out.trans (GB.out.mono KG.out.size)
  have hlt := KB4.out.lt
  have hsz := HSZ.out
  refine bodyPost_ret (results_ct rfl _ _ _ _ _ _ _ rfl (((((KB4.out.below GB.out KB4.out.lt).put 0 _).put 1 _).put 2 _).put 3 _) Tryz.underlying27 rfl (by kernel_rfl)) rfl ⟨aq, dq, ap, dp, rfl, ?_, ?_, (((hG.setCell (by dsimp only; omega) _).setCell (by dsimp only; omega) _).setCell (by dsimp only; omega) _).setCell (by dsimp only; omega) _⟩
  · exact ((((HO.out.1.other (by dsimp only; omega) _).other (by dsimp only; omega) _).other (by dsimp only; omega) _).other (by dsimp only; omega) _).mono (by omega)
  · exact ((((HO.out.2.other (by dsimp only; omega) _).other (by dsimp only; omega) _).other (by dsimp only; omega) _).other (by dsimp only; omega) _).mono (by omega)
set_option maxRecDepth 100000 in
set_option maxHeartbeats 1000000 in
theorem rfsign_any (s1 : Bool) (a1 : Option Addr) (n1 c1 : Nat) (o1 : Nat → Int) (s2 : Bool) (a2 : Option Addr) (n2 c2 : Nat) (o2 : Nat → Int) (w : World) (x : Rat) (hx : x = valF s1 n1 o1 s2 n2 o2)
    (h1 : Rd w a1 n1 o1) (hn1 : n1 ≤ 1000000) (hc1 : n1 ≤ c1) (h2 : Rd w a2 n2 o2) (hn2 : n2 ≤ 1000000) (hc2 : n2 ≤ c2) :
    Calls Tryz.prog 25 #[fracV s1 a1 n1 c1 s2 a2 n2 c2] w fun e w' => e = .returned (.int .i64 (cmpZ x.num 0)) ∧ Below w.heap.size w w' := by
  have hfar : ∀ {a : Option Addr} {n : Nat} {o : Nat → Int}, Rd w a n o → 0 < n → ∀ p, a = some p → p.block < w.heap.size := fun h h0 p hp => by
    obtain ⟨b, off, e, hc⟩ := h.cells h0
    rw [e] at hp; cases hp
    exact block_lt_of_cell (hc 0 h0)
  have l1 := valF_len (s1 := s1) (s2 := s2) h1.rng h2.rng
  rw [← hx] at l1
  have HL := Lib.hid (show lenB x.num.natAbs ≤ 1000001 by omega)
  have HB1 := Lib.hid (Bxs.new w 27 [.bool s1, .slice a1 n1 c1, .bool s2, .slice a2 n2 c2])
  obtain ⟨W, hW⟩ : ∃ W, W = w.alloc (.cells #[.bool s1, .slice a1 n1 c1, .bool s2, .slice a2 n2 c2] 27) := ⟨_, rfl⟩
  have KG := Lib.hid (show Below w.heap.size w W by rw [hW]; exact (Below.refl _ _).alloc (Nat.le_refl _) _)
  have HB1 := Lib.hid (show Bxs W w.heap.size 27 [.bool s1, .slice a1 n1 c1, .bool s2, .slice a2 n2 c2] by rw [hW]; exact HB1.out)
  have OX := Lib.hid (rfit_any s1 a1 n1 c1 o1 s2 a2 n2 c2 o2 W w.heap.size KG.out.size (h1.below KG.out) (by omega) hc1 (hfar h1) (h2.below KG.out) (by omega) hc2 (hfar h2))
  rw [← hx] at OX
  obtain ⟨p, hp⟩ : ∃ p, p = x.num := ⟨_, rfl⟩
  obtain ⟨q, hq⟩ : ∃ q : Int, q = (x.den : Int) := ⟨_, rfl⟩
  rw [← hp, ← hq] at OX
  rw [← hp] at HL ⊢
  have HW := Lib.hid hW
  clear hW h1 h2 l1 hfar hx hp hq
  go_enter Tryz.func25, Tryz.ntmps25
  go_upto_region 1 with (fail)
  rw [show w.alloc (.cells #[.bool s1, .slice a1 n1 c1, .bool s2, .slice a2 n2 c2] 27) = W from HW.out.symm]
  clear HW
  obtain ⟨x0, x1, x2, x3, x4, x5⟩ := frac_box HB1.out
  go_wp2_with fail
  with_reducible refine OX.out.mono ?_
  intro e w2 hh
  obtain ⟨⟨za, zc, zb, zd⟩, rfl, hi, hb⟩ := fracS_ex hh
  have hff := field_frac (decide (p < 0)) za (lenB p.natAbs) zc (decide (q < 0)) zb (lenB q.natAbs) zd w2
  have SG := Lib.hid (rsign_any (decide (p < 0)) za (lenB p.natAbs) zc (dgi p.natAbs) w2 hi.r1.rd (by have := HL.out; omega) hi.c1)
  rw [canon_val] at SG
  have KG := Lib.hid (KG.out.trans (hb.mono KG.out.size))
  clear hh hi hb OX x0 x1 x2 x3 x4 x5 HB1
  go_wp2_with fail
  with_reducible refine SG.out.mono ?_
  rintro e w3 ⟨rfl, hb⟩
  have KG := Lib.hid (KG.out.trans (hb.mono KG.out.size))
  clear hb SG
  go_wp2_with fail
  go_ret
  exact ⟨rfl, KG.out⟩

open Classical in
set_option maxRecDepth 100000 in
set_option maxHeartbeats 2000000 in
theorem rfneg_any (s1 : Bool) (a1 : Option Addr) (n1 c1 : Nat) (o1 : Nat → Int) (s2 : Bool) (a2 : Option Addr) (n2 c2 : Nat) (o2 : Nat → Int) (w : World) (x : Rat) (hx : x = valF s1 n1 o1 s2 n2 o2) (h1 : Rd w a1 n1 o1) (hn1 : n1 ≤ 1000000) (hc1 : n1 ≤ c1) (h2 : Rd w a2 n2 o2) (hn2 : n2 ≤ 1000000) (hc2 : n2 ≤ c2) :
    Calls Tryz.prog 94 #[fracV s1 a1 n1 c1 s2 a2 n2 c2] w (FracF w (-x).num ((-x).den : Int)) := by
  have hfar : ∀ {a : Option Addr} {n : Nat} {o : Nat → Int}, Rd w a n o → 0 < n → ∀ p, a = some p → p.block < w.heap.size := fun h h0 p hp => by
    obtain ⟨b, off, e, hc⟩ := h.cells h0
    rw [e] at hp; cases hp
    exact block_lt_of_cell (hc 0 h0)
  have l1 := valF_len (s1 := s1) (s2 := s2) h1.rng h2.rng
  rw [← hx] at l1
  obtain ⟨p, hp⟩ : ∃ p, p = x.num := ⟨_, rfl⟩
  obtain ⟨q, hq⟩ : ∃ q : Int, q = (x.den : Int) := ⟨_, rfl⟩
  rw [← hp, ← hq] at l1
  have HL := Lib.hid (show lenB p.natAbs ≤ 1000001 ∧ lenB q.natAbs ≤ 1000001 by omega)
  have HP := Lib.hid (And.intro hx (And.intro hp hq))
  have HF := Lib.hid (And.intro (hfar h1) (hfar h2))
  obtain ⟨np, hnp⟩ : ∃ np, np = -p := ⟨_, rfl⟩
  have HE := Lib.hid (show (-x).num = np ∧ ((-x).den : Int) = q by rw [hnp, hp, hq, Rat.neg_num, Rat.neg_den]; exact ⟨rfl, rfl⟩)
  have HNP := Lib.hid hnp
  rw [HE.out.1, HE.out.2]
  clear hnp
  have HB1 := Lib.hid ((Bxs.new (w) 27 [.bool s1, .slice a1 n1 c1, .bool s2, .slice a2 n2 c2]).alloc (.cells #[.bool false, .slice none 0 0, .bool false, .slice none 0 0] 27))
  have HB2 := Lib.hid (Bxs.new (w.alloc (.cells #[.bool s1, .slice a1 n1 c1, .bool s2, .slice a2 n2 c2] 27)) 27 [.bool false, .slice none 0 0, .bool false, .slice none 0 0])
  obtain ⟨W, hW⟩ : ∃ W, W = (w.alloc (.cells #[.bool s1, .slice a1 n1 c1, .bool s2, .slice a2 n2 c2] 27)).alloc (.cells #[.bool false, .slice none 0 0, .bool false, .slice none 0 0] 27) := ⟨_, rfl⟩
  have KG := Lib.hid (show Below w.heap.size w W by rw [hW]; exact ((Below.refl _ _).alloc (Nat.le_refl _) _).alloc (by go_size) _)
  have HWS := Lib.hid (show w.heap.size + 2 ≤ W.heap.size by rw [hW]; simp only [World.size_alloc]; omega)
  have HB1 := Lib.hid (show Bxs W (w.heap.size) 27 [.bool s1, .slice a1 n1 c1, .bool s2, .slice a2 n2 c2] by have h := HB1.out; rw [hW]; exact h)
  have HB2 := Lib.hid (show Bxs W (w.heap.size + 1) 27 [.bool false, .slice none 0 0, .bool false, .slice none 0 0] by have h := HB2.out; simp only [World.size_alloc] at h; rw [hW]; exact h)
  have HW := Lib.hid hW
  clear hW
  have HR1 := Lib.hid (show RdS W w.heap.size (w.heap.size + 2) a1 n1 o1 from ⟨h1.below KG.out, fun h0 p hp => Or.inl (hfar h1 h0 p hp)⟩)
  have HR2 := Lib.hid (show RdS W w.heap.size (w.heap.size + 2) a2 n2 o2 from ⟨h2.below KG.out, fun h0 p hp => Or.inl (hfar h2 h0 p hp)⟩)
  clear hx hp hq l1 h1 h2 hfar
  go_enter Tryz.func94, Tryz.ntmps94
  go_upto_region 1 with (fail)
  rw [show (w.alloc (.cells #[.bool s1, .slice a1 n1 c1, .bool s2, .slice a2 n2 c2] 27)).alloc (.cells #[.bool false, .slice none 0 0, .bool false, .slice none 0 0] 27) = W from HW.out.symm]
  clear HW
  have FT := Lib.hid (fun (w' : World) (hb : Below W.heap.size W w') => rfit_any s1 a1 n1 c1 o1 s2 a2 n2 c2 o2 w' w.heap.size (by have := HWS.out; have := hb.size; omega) (HR1.out.rd.below hb) (by omega) hc1 HF.out.1 (HR2.out.rd.below hb) (by omega) hc2 HF.out.2)
  rw [← HP.out.1, ← HP.out.2.1, ← HP.out.2.2] at FT
  have b1c0 := HB1.out.cell (i := 0) rfl
  have b1c1 := HB1.out.cell (i := 1) rfl
  have b1c2 := HB1.out.cell (i := 2) rfl
  have b1c3 := HB1.out.cell (i := 3) rfl
  have b1f := HB1.out.fz
  have b1l := HB1.out.lt
  go_wp2_with fail
  with_reducible refine (FT.out _ (Below.refl _ _)).mono ?_
  intro e w1 hh
  obtain ⟨xa, rfl, hi, hb⟩ := fracS_ex hh
  have HIxa := Lib.hid (hi.up HWS.out)
  clear b1c0 b1c1 b1c2 b1c3 b1f b1l
  clear hh hi FT
  have HB1 := Lib.hid (HB1.out.below hb HB1.out.lt)
  have HB2 := Lib.hid (HB2.out.below hb HB2.out.lt)
  have HR1 := Lib.hid (HR1.out.below hb)
  have HR2 := Lib.hid (HR2.out.below hb)
  have HWS := Lib.hid (Nat.le_trans HWS.out hb.size)
  have KG := Lib.hid (KG.out.trans (hb.mono KG.out.size))
  clear hb
  have b1c0 := HB1.out.cell (i := 0) rfl
  have b1c1 := HB1.out.cell (i := 1) rfl
  have b1c2 := HB1.out.cell (i := 2) rfl
  have b1c3 := HB1.out.cell (i := 3) rfl
  have b1f := HB1.out.fz
  have b1l := HB1.out.lt
  go_upto_region 2 with (fail)
  obtain ⟨v2, hV⟩ : ∃ V, V = (((w1.setCell ⟨w.heap.size, 0, none⟩ (.bool (decide (p < 0)))).setCell ⟨w.heap.size, 1, none⟩ (.slice xa.1 (lenB p.natAbs) xa.2.1)).setCell ⟨w.heap.size, 2, none⟩ (.bool (decide (q < 0)))).setCell ⟨w.heap.size, 3, none⟩ (.slice xa.2.2.1 (lenB q.natAbs) xa.2.2.2) := ⟨_, rfl⟩
  have HB1 := Lib.hid (show Bxs v2 (w.heap.size) 27 [.bool (decide (p < 0)), .slice xa.1 (lenB p.natAbs) xa.2.1, .bool (decide (q < 0)), .slice xa.2.2.1 (lenB q.natAbs) xa.2.2.2] by rw [hV]; exact ((((HB1.out).put 0 _).put 1 _).put 2 _).put 3 _)
  have HB2 := Lib.hid (show Bxs v2 (w.heap.size + 1) 27 [.bool false, .slice none 0 0, .bool false, .slice none 0 0] by rw [hV]; exact ((((HB2.out).other (by dsimp only; omega) _).other (by dsimp only; omega) _).other (by dsimp only; omega) _).other (by dsimp only; omega) _)
  have hsin : Sin w.heap.size (w.heap.size + 2) w1 v2 := by rw [hV]; exact ((((Sin.refl _ _ _).set (by dsimp only; omega) (by dsimp only; omega) _).set (by dsimp only; omega) (by dsimp only; omega) _).set (by dsimp only; omega) (by dsimp only; omega) _).set (by dsimp only; omega) (by dsimp only; omega) _
  have HR1 := Lib.hid (HR1.out.sin hsin)
  have HR2 := Lib.hid (HR2.out.sin hsin)
  have HIxa := Lib.hid (HIxa.out.sin hsin)
  clear hsin
  have KG := Lib.hid (show Below w.heap.size w v2 by rw [hV]; exact ((((KG.out).setCell (by dsimp only; omega) _).setCell (by dsimp only; omega) _).setCell (by dsimp only; omega) _).setCell (by dsimp only; omega) _)
  have HWS := Lib.hid (show w.heap.size + 2 ≤ v2.heap.size by rw [hV]; simp only [World.size_setCell]; have := HWS.out; omega)
  rw [show (((w1.setCell ⟨w.heap.size, 0, none⟩ (.bool (decide (p < 0)))).setCell ⟨w.heap.size, 1, none⟩ (.slice xa.1 (lenB p.natAbs) xa.2.1)).setCell ⟨w.heap.size, 2, none⟩ (.bool (decide (q < 0)))).setCell ⟨w.heap.size, 3, none⟩ (.slice xa.2.2.1 (lenB q.natAbs) xa.2.2.2) = v2 from hV.symm]
  clear hV
  clear b1c0 b1c1 b1c2 b1c3 b1f b1l
  clear HR1 HR2
  have NG := Lib.hid (fun (w' : World) (hb : Below v2.heap.size v2 w') => rneg_any (decide (p < 0)) xa.1 (lenB p.natAbs) xa.2.1 (dgi p.natAbs) w' (HIxa.out.r1.rd.below hb) (by have := HL.out; omega) HIxa.out.c1)
  rw [canon_val, ← HNP.out] at NG
  have HS := Lib.hid (fun (w' : World) (hb : Below v2.heap.size v2 w') => frac_box (HB1.out.below hb HB1.out.lt))
  refine wp_region_fresh 5 (spOf [(2, Sp.made (fun x : Option Addr × Nat => numV (decide (np < 0)) x.1 (lenB np.natAbs) x.2) (fun x w' => Own 74 w' v2.heap.size x.1 (lenB np.natAbs) x.2 (dgi np.natAbs)))]) (fun w' => Below v2.heap.size v2 w') (by kernel_rfl) (by kernel_rfl)
    (spOf_cons (Sp.made_keeps fun x w w' h hb => h.below hb) (spOf_nil)) (fun _ _ h hb => h.trans (hb.mono h.size)) ((Below.refl _ _).drew) ?_
  simp only [List.take_succ_cons, List.take_zero, List.drop_succ_cons, List.drop_zero]
  (refine wpF_reads rfl rfl ?_ (fun w' hw' => ?_) ?_; rotate_left; · (have hb' := Has.world hw'; (skip); clear hw'; go_simp; try rfl))
  conv => arg 9; simp only [Act.put, List.setIfInBounds_toArray, List.set_cons_succ, List.set_cons_zero]
  (refine wpF_reads rfl rfl ?_ (fun w' hw' => ?_) ?_; rotate_left; · (have hb' := Has.world hw'; (obtain ⟨k0, k1, k2, k3, k4, k5⟩ := (HS.out _ hb')); clear hw'; go_simp; try rfl))
  conv => arg 9; simp only [Act.put, List.setIfInBounds_toArray, List.set_cons_succ, List.set_cons_zero]
  (refine wpF_spec rfl rfl (fun w' hw' => ?_) ?_; · (have hb' := Has.world hw'; go_simp; ((refine (NG.out w' hb').mono ?_; rintro e w'' ⟨za, zb, rfl, ho, hb⟩; exact ⟨_, rfl, ⟨⟨za, zb, rfl⟩, ⟨za, zb, rfl, ho.mono hb'.size⟩⟩, hb⟩))))
  rintro _ ⟨y2, rfl⟩
  conv => arg 9; simp only [Act.put, List.setIfInBounds_toArray, List.set_cons_succ, List.set_cons_zero]
  (refine wpF_reads rfl rfl ?_ (fun w' hw' => ?_) ?_; rotate_left; · (have hb' := Has.world hw'; (skip); clear hw'; go_simp; try rfl))
  conv => arg 9; simp only [Act.put, List.setIfInBounds_toArray, List.set_cons_succ, List.set_cons_zero]
  (refine wpF_reads rfl rfl ?_ (fun w' hw' => ?_) ?_; rotate_left; · (have hb' := Has.world hw'; (obtain ⟨k0, k1, k2, k3, k4, k5⟩ := (HS.out _ hb')); clear hw'; go_simp; try rfl))
  conv => arg 9; simp only [Act.put, List.setIfInBounds_toArray, List.set_cons_succ, List.set_cons_zero]
  refine wpF_nil (fun w3 hb hF => ?_)
  have HO2 := Lib.hid (Own.mono (own_numc (T := 74) (x := y2) (b := v2.heap.size) (s := decide (np < 0)) (L := lenB np.natAbs) (o := dgi np.natAbs) (hF 2)) HWS.out)
  clear hF HS
  have HB1 := Lib.hid (HB1.out.below hb HB1.out.lt)
  have HB2 := Lib.hid (HB2.out.below hb HB2.out.lt)
  have HIxa := Lib.hid (HIxa.out.below hb)
  have HWS := Lib.hid (Nat.le_trans HWS.out hb.size)
  have KG := Lib.hid (KG.out.trans (hb.mono KG.out.size))
  clear hb
  clear NG
  have TW := Lib.hid (fun (w' : World) (hb : Below w3.heap.size w3 w') => twin_any (decide (q < 0)) xa.2.2.1 (lenB q.natAbs) xa.2.2.2 (dgi q.natAbs) w' (HIxa.out.r2.rd.below hb) (by have := HL.out; omega))
  have b2c0 := HB2.out.cell (i := 0) rfl
  have b2c1 := HB2.out.cell (i := 1) rfl
  have b2c2 := HB2.out.cell (i := 2) rfl
  have b2c3 := HB2.out.cell (i := 3) rfl
  have b2f := HB2.out.fz
  have b2l := HB2.out.lt
  go_wp2_with fail
  with_reducible refine (TW.out _ (Below.refl _ _)).mono ?_
  rintro e w4 ⟨m2, e2, rfl, ho2, -, hb⟩
  have HQ2 := Lib.hid (ho2.mono HWS.out)
  clear ho2
  clear b2c0 b2c1 b2c2 b2c3 b2f b2l
  have HB1 := Lib.hid (HB1.out.below hb HB1.out.lt)
  have HB2 := Lib.hid (HB2.out.below hb HB2.out.lt)
  have HIxa := Lib.hid (HIxa.out.below hb)
  have HO2 := Lib.hid (HO2.out.below hb)
  have HWS := Lib.hid (Nat.le_trans HWS.out hb.size)
  have KG := Lib.hid (KG.out.trans (hb.mono KG.out.size))
  clear hb
  clear TW
  have b2c0 := HB2.out.cell (i := 0) rfl
  have b2c1 := HB2.out.cell (i := 1) rfl
  have b2c2 := HB2.out.cell (i := 2) rfl
  have b2c3 := HB2.out.cell (i := 3) rfl
  have b2f := HB2.out.fz
  have b2l := HB2.out.lt
  go_wp2_with fail
  have hws := HWS.out
  refine bodyPost_ret (results_cell rfl _ _ _ _ _ _ _ rfl (((((HB2.out).put 0 _).put 1 _).put 2 _).put 3 _) Tryz.underlying27 rfl (by kernel_rfl)) rfl ?_
  refine ⟨y2.1, y2.2, m2, e2, rfl, ?_, ?_, ?_⟩
  · exact (((((HO2.out).other (by dsimp only; omega) _).other (by dsimp only; omega) _).other (by dsimp only; omega) _).other (by dsimp only; omega) _).mono (by omega)
  · exact (((((HQ2.out).other (by dsimp only; omega) _).other (by dsimp only; omega) _).other (by dsimp only; omega) _).other (by dsimp only; omega) _).mono (by omega)
  · exact ((((KG.out).setCell (by dsimp only; omega) _).setCell (by dsimp only; omega) _).setCell (by dsimp only; omega) _).setCell (by dsimp only; omega) _
end Go.Proofs.YtaagegcidbgjmaaGreatDoor.Limb
