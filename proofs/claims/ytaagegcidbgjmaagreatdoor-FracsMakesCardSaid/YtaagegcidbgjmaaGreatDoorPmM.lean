/-
  The document's answer for fracs: Add, Sub, Mul, Cmp.
-/
import Derived.Test.YtaagegcidbgjmaaGreatDoorPmL
namespace Go.Proofs.YtaagegcidbgjmaaGreatDoor.Limb
open Go.RowKit Go.Sort Go.Fresh

theorem Own.setBox {T : Nat} {w : World} {base : Nat} {a : Option Addr} {n cap : Nat} {o : Nat → Int} (h : Own T w base a n cap o) {b : Nat} {t : TypeId} {l : List Value} (hb : Bxs w b t l) (ht : T ≠ t) (i : Nat) (v : Value) : Own T (w.setCell ⟨b, i, none⟩ v) base a n cap o := by
  refine ⟨h.le, h.place.imp id fun ⟨g, cur, ha, hg, hc, hr⟩ => ⟨g, cur, ha, hg, ?_, hr⟩, h.rng⟩
  rw [Below.heap_setCell _ _ _ _ ?_]
  · exact hc
  · intro e
    have e : g = b := e
    subst e
    have hb' : w.heap[g]? = some (.cells l.toArray t (0, 0)) := hb
    rw [hc] at hb'
    cases hb'
    exact ht rfl
theorem box_of {w : World} {lo : Nat} {t : TypeId} {l : List Value} {b : Nat} (h : ∃ x : Nat, Value.pointer (some ⟨b, 0, none⟩) = Value.pointer (some ⟨x, 0, none⟩) ∧ Bxs w x t l ∧ lo ≤ x) : Bxs w b t l ∧ lo ≤ b := by
  obtain ⟨x, e, h⟩ := h
  cases e
  exact h

open Classical in
set_option maxRecDepth 100000 in
set_option maxHeartbeats 4000000 in
theorem rfadd_any (s1 : Bool) (a1 : Option Addr) (n1 c1 : Nat) (o1 : Nat → Int) (s2 : Bool) (a2 : Option Addr) (n2 c2 : Nat) (o2 : Nat → Int) (s3 : Bool) (a3 : Option Addr) (n3 c3 : Nat) (o3 : Nat → Int) (s4 : Bool) (a4 : Option Addr) (n4 c4 : Nat) (o4 : Nat → Int) (w : World) (x y : Rat) (hx : x = valF s1 n1 o1 s2 n2 o2) (hy : y = valF s3 n3 o3 s4 n4 o4) (h1 : Rd w a1 n1 o1) (hn1 : n1 ≤ 1000000) (hc1 : n1 ≤ c1) (h2 : Rd w a2 n2 o2) (hn2 : n2 ≤ 1000000) (hc2 : n2 ≤ c2) (h3 : Rd w a3 n3 o3) (hn3 : n3 ≤ 1000000) (hc3 : n3 ≤ c3) (h4 : Rd w a4 n4 o4) (hn4 : n4 ≤ 1000000) (hc4 : n4 ≤ c4) :
    Calls Tryz.prog 26 #[fracV s1 a1 n1 c1 s2 a2 n2 c2, fracV s3 a3 n3 c3 s4 a4 n4 c4] w (FracF w (x + y).num ((x + y).den : Int)) := by
  have hfar : ∀ {a : Option Addr} {n : Nat} {o : Nat → Int}, Rd w a n o → 0 < n → ∀ p, a = some p → p.block < w.heap.size := fun h h0 p hp => by
    obtain ⟨b, off, e, hc⟩ := h.cells h0
    rw [e] at hp; cases hp
    exact block_lt_of_cell (hc 0 h0)
  have l1 := valF_len (s1 := s1) (s2 := s2) h1.rng h2.rng
  rw [← hx] at l1
  have l2 := valF_len (s1 := s3) (s2 := s4) h3.rng h4.rng
  rw [← hy] at l2
  obtain ⟨p, hp⟩ : ∃ p, p = x.num := ⟨_, rfl⟩
  obtain ⟨q, hq⟩ : ∃ q : Int, q = (x.den : Int) := ⟨_, rfl⟩
  rw [← hp, ← hq] at l1
  obtain ⟨r, hr⟩ : ∃ r, r = y.num := ⟨_, rfl⟩
  obtain ⟨t, ht⟩ : ∃ t : Int, t = (y.den : Int) := ⟨_, rfl⟩
  rw [← hr, ← ht] at l2
  have HL := Lib.hid (show (lenB p.natAbs ≤ 1000001 ∧ lenB q.natAbs ≤ 1000001) ∧ lenB r.natAbs ≤ 1000001 ∧ lenB t.natAbs ≤ 1000001 by omega)
  have HP := Lib.hid (And.intro (And.intro hx (And.intro hp hq)) (And.intro hy (And.intro hr ht)))
  have HF := Lib.hid (And.intro (And.intro (hfar h1) (hfar h2)) (And.intro (hfar h3) (hfar h4)))
  have hl1 := lenB_mul_le p.natAbs t.natAbs
  have hl2 := lenB_mul_le r.natAbs q.natAbs
  have hl3 := lenB_mul_le q.natAbs t.natAbs
  have hl4 := lenB_mul_le p.natAbs r.natAbs
  rw [← Int.natAbs_mul] at hl1 hl2 hl3 hl4

  have hl5 := lenB_add (p * t) (r * q)
  obtain ⟨T1, hT1⟩ : ∃ T1, T1 = p * t := ⟨_, rfl⟩
  obtain ⟨T2, hT2⟩ : ∃ T2, T2 = r * q := ⟨_, rfl⟩
  obtain ⟨S, hS⟩ : ∃ S, S = T1 + T2 := ⟨_, rfl⟩
  obtain ⟨Lw, hLw⟩ : ∃ Lw, Lw = q * t := ⟨_, rfl⟩
  have HE := Lib.hid (And.intro hT1 (And.intro hT2 (And.intro hS hLw)))
  rw [← hT1, ← hT2] at hl5
  rw [← hT1] at hl1
  rw [← hT2] at hl2
  rw [← hLw] at hl3
  rw [← hS] at hl5
  have HM := Lib.hid (show (lenB T1.natAbs ≤ 2000002 ∧ lenB T2.natAbs ≤ 2000002) ∧ lenB Lw.natAbs ≤ 2000002 ∧ lenB S.natAbs ≤ 2000003 by omega)
  obtain ⟨z, hz⟩ : ∃ z, z = x + y := ⟨_, rfl⟩
  have HZ := Lib.hid (show Rat.divInt S Lw = z ∧ Lw ≠ 0 from ⟨by rw [hS, hT1, hT2, hLw, hp, hq, hr, ht, hz]; exact rat_add x y, by rw [hLw, hq, ht]; exact Int.ne_of_gt (Int.mul_pos (rat_pos x) (rat_pos y))⟩)
  rw [← hz]
  obtain ⟨zp, hzp⟩ : ∃ zp, zp = z.num := ⟨_, rfl⟩
  obtain ⟨zq, hzq⟩ : ∃ zq : Int, zq = (z.den : Int) := ⟨_, rfl⟩
  have HZE := Lib.hid (And.intro hzp hzq)
  rw [← hzp, ← hzq]
  clear hT1 hT2 hS hLw hz hzp hzq hl1 hl2 hl3 hl4 hl5
  have HB1 := Lib.hid (((Bxs.new (w) 27 [.bool s1, .slice a1 n1 c1, .bool s2, .slice a2 n2 c2]).alloc (.cells #[.bool s3, .slice a3 n3 c3, .bool s4, .slice a4 n4 c4] 27)).alloc (.cells #[.bool false, .slice none 0 0, .bool false, .slice none 0 0] 27))
  have HB2 := Lib.hid ((Bxs.new (w.alloc (.cells #[.bool s1, .slice a1 n1 c1, .bool s2, .slice a2 n2 c2] 27)) 27 [.bool s3, .slice a3 n3 c3, .bool s4, .slice a4 n4 c4]).alloc (.cells #[.bool false, .slice none 0 0, .bool false, .slice none 0 0] 27))
  have HB3 := Lib.hid (Bxs.new ((w.alloc (.cells #[.bool s1, .slice a1 n1 c1, .bool s2, .slice a2 n2 c2] 27)).alloc (.cells #[.bool s3, .slice a3 n3 c3, .bool s4, .slice a4 n4 c4] 27)) 27 [.bool false, .slice none 0 0, .bool false, .slice none 0 0])
  obtain ⟨W, hW⟩ : ∃ W, W = ((w.alloc (.cells #[.bool s1, .slice a1 n1 c1, .bool s2, .slice a2 n2 c2] 27)).alloc (.cells #[.bool s3, .slice a3 n3 c3, .bool s4, .slice a4 n4 c4] 27)).alloc (.cells #[.bool false, .slice none 0 0, .bool false, .slice none 0 0] 27) := ⟨_, rfl⟩
  have KG := Lib.hid (show Below w.heap.size w W by rw [hW]; exact (((Below.refl _ _).alloc (Nat.le_refl _) _).alloc (by go_size) _).alloc (by go_size) _)
  have HWS := Lib.hid (show w.heap.size + 3 ≤ W.heap.size by rw [hW]; simp only [World.size_alloc]; omega)
  have HB1 := Lib.hid (show Bxs W (w.heap.size) 27 [.bool s1, .slice a1 n1 c1, .bool s2, .slice a2 n2 c2] by have h := HB1.out; rw [hW]; exact h)
  have HB2 := Lib.hid (show Bxs W (w.heap.size + 1) 27 [.bool s3, .slice a3 n3 c3, .bool s4, .slice a4 n4 c4] by have h := HB2.out; simp only [World.size_alloc] at h; rw [hW]; exact h)
  have HB3 := Lib.hid (show Bxs W (w.heap.size + 1 + 1) 27 [.bool false, .slice none 0 0, .bool false, .slice none 0 0] by have h := HB3.out; simp only [World.size_alloc] at h; rw [hW]; exact h)
  have HW := Lib.hid hW
  clear hW
  have HR1 := Lib.hid (show RdS W w.heap.size (w.heap.size + 3) a1 n1 o1 from ⟨h1.below KG.out, fun h0 p hp => Or.inl (hfar h1 h0 p hp)⟩)
  have HR2 := Lib.hid (show RdS W w.heap.size (w.heap.size + 3) a2 n2 o2 from ⟨h2.below KG.out, fun h0 p hp => Or.inl (hfar h2 h0 p hp)⟩)
  have HR3 := Lib.hid (show RdS W w.heap.size (w.heap.size + 3) a3 n3 o3 from ⟨h3.below KG.out, fun h0 p hp => Or.inl (hfar h3 h0 p hp)⟩)
  have HR4 := Lib.hid (show RdS W w.heap.size (w.heap.size + 3) a4 n4 o4 from ⟨h4.below KG.out, fun h0 p hp => Or.inl (hfar h4 h0 p hp)⟩)
  clear hx hp hq l1 h1 h2 hfar hy hr ht l2 h3 h4
  go_enter Tryz.func26, Tryz.ntmps26
  go_upto_region 1 with (fail)
  rw [show ((w.alloc (.cells #[.bool s1, .slice a1 n1 c1, .bool s2, .slice a2 n2 c2] 27)).alloc (.cells #[.bool s3, .slice a3 n3 c3, .bool s4, .slice a4 n4 c4] 27)).alloc (.cells #[.bool false, .slice none 0 0, .bool false, .slice none 0 0] 27) = W from HW.out.symm]
  clear HW
  have FT := Lib.hid (fun (w' : World) (hb : Below W.heap.size W w') => rfit_any s1 a1 n1 c1 o1 s2 a2 n2 c2 o2 w' w.heap.size (by have := HWS.out; have := hb.size; omega) (HR1.out.rd.below hb) (by omega) hc1 HF.out.1.1 (HR2.out.rd.below hb) (by omega) hc2 HF.out.1.2)
  rw [← HP.out.1.1, ← HP.out.1.2.1, ← HP.out.1.2.2] at FT
  have b1c0 := HB1.out.cell (i := 0) rfl
  have b1c1 := HB1.out.cell (i := 1) rfl
  have b1c2 := HB1.out.cell (i := 2) rfl
  have b1c3 := HB1.out.cell (i := 3) rfl
  have b1f := HB1.out.fz
  have b1l := HB1.out.lt
  go_wp2_with fail
  with_reducible refine (FT.out _ (Below.refl _ _)).mono ?_
  intro e w1 hh
  obtain ⟨xa, rfl, hi, hb⟩ := fracS_ex hh
  have HIxa := Lib.hid (hi.up HWS.out)
  clear b1c0 b1c1 b1c2 b1c3 b1f b1l
  clear hh hi FT
  have HB1 := Lib.hid (HB1.out.below hb HB1.out.lt)
  have HB2 := Lib.hid (HB2.out.below hb HB2.out.lt)
  have HB3 := Lib.hid (HB3.out.below hb HB3.out.lt)
  have HR1 := Lib.hid (HR1.out.below hb)
  have HR2 := Lib.hid (HR2.out.below hb)
  have HR3 := Lib.hid (HR3.out.below hb)
  have HR4 := Lib.hid (HR4.out.below hb)
  have HWS := Lib.hid (Nat.le_trans HWS.out hb.size)
  have KG := Lib.hid (KG.out.trans (hb.mono KG.out.size))
  clear hb
  have b1c0 := HB1.out.cell (i := 0) rfl
  have b1c1 := HB1.out.cell (i := 1) rfl
  have b1c2 := HB1.out.cell (i := 2) rfl
  have b1c3 := HB1.out.cell (i := 3) rfl
  have b1f := HB1.out.fz
  have b1l := HB1.out.lt
  go_upto_region 2 with (fail)
  obtain ⟨v2, hV⟩ : ∃ V, V = (((w1.setCell ⟨w.heap.size, 0, none⟩ (.bool (decide (p < 0)))).setCell ⟨w.heap.size, 1, none⟩ (.slice xa.1 (lenB p.natAbs) xa.2.1)).setCell ⟨w.heap.size, 2, none⟩ (.bool (decide (q < 0)))).setCell ⟨w.heap.size, 3, none⟩ (.slice xa.2.2.1 (lenB q.natAbs) xa.2.2.2) := ⟨_, rfl⟩
  have HB1 := Lib.hid (show Bxs v2 (w.heap.size) 27 [.bool (decide (p < 0)), .slice xa.1 (lenB p.natAbs) xa.2.1, .bool (decide (q < 0)), .slice xa.2.2.1 (lenB q.natAbs) xa.2.2.2] by rw [hV]; exact ((((HB1.out).put 0 _).put 1 _).put 2 _).put 3 _)
  have HB2 := Lib.hid (show Bxs v2 (w.heap.size + 1) 27 [.bool s3, .slice a3 n3 c3, .bool s4, .slice a4 n4 c4] by rw [hV]; exact ((((HB2.out).other (by dsimp only; omega) _).other (by dsimp only; omega) _).other (by dsimp only; omega) _).other (by dsimp only; omega) _)
  have HB3 := Lib.hid (show Bxs v2 (w.heap.size + 1 + 1) 27 [.bool false, .slice none 0 0, .bool false, .slice none 0 0] by rw [hV]; exact ((((HB3.out).other (by dsimp only; omega) _).other (by dsimp only; omega) _).other (by dsimp only; omega) _).other (by dsimp only; omega) _)
  have hsin : Sin w.heap.size (w.heap.size + 3) w1 v2 := by rw [hV]; exact ((((Sin.refl _ _ _).set (by dsimp only; omega) (by dsimp only; omega) _).set (by dsimp only; omega) (by dsimp only; omega) _).set (by dsimp only; omega) (by dsimp only; omega) _).set (by dsimp only; omega) (by dsimp only; omega) _
  have HR1 := Lib.hid (HR1.out.sin hsin)
  have HR2 := Lib.hid (HR2.out.sin hsin)
  have HR3 := Lib.hid (HR3.out.sin hsin)
  have HR4 := Lib.hid (HR4.out.sin hsin)
  have HIxa := Lib.hid (HIxa.out.sin hsin)
  clear hsin
  have KG := Lib.hid (show Below w.heap.size w v2 by rw [hV]; exact ((((KG.out).setCell (by dsimp only; omega) _).setCell (by dsimp only; omega) _).setCell (by dsimp only; omega) _).setCell (by dsimp only; omega) _)
  have HWS := Lib.hid (show w.heap.size + 3 ≤ v2.heap.size by rw [hV]; simp only [World.size_setCell]; have := HWS.out; omega)
  rw [show (((w1.setCell ⟨w.heap.size, 0, none⟩ (.bool (decide (p < 0)))).setCell ⟨w.heap.size, 1, none⟩ (.slice xa.1 (lenB p.natAbs) xa.2.1)).setCell ⟨w.heap.size, 2, none⟩ (.bool (decide (q < 0)))).setCell ⟨w.heap.size, 3, none⟩ (.slice xa.2.2.1 (lenB q.natAbs) xa.2.2.2) = v2 from hV.symm]
  clear hV
  clear b1c0 b1c1 b1c2 b1c3 b1f b1l
  have FT := Lib.hid (fun (w' : World) (hb : Below v2.heap.size v2 w') => rfit_any s3 a3 n3 c3 o3 s4 a4 n4 c4 o4 w' w.heap.size (by have := HWS.out; have := hb.size; omega) (HR3.out.rd.below hb) (by omega) hc3 HF.out.2.1 (HR4.out.rd.below hb) (by omega) hc4 HF.out.2.2)
  rw [← HP.out.2.1, ← HP.out.2.2.1, ← HP.out.2.2.2] at FT
  have b2c0 := HB2.out.cell (i := 0) rfl
  have b2c1 := HB2.out.cell (i := 1) rfl
  have b2c2 := HB2.out.cell (i := 2) rfl
  have b2c3 := HB2.out.cell (i := 3) rfl
  have b2f := HB2.out.fz
  have b2l := HB2.out.lt
  go_wp2_with fail
  with_reducible refine (FT.out _ (Below.refl _ _)).mono ?_
  intro e w3 hh
  obtain ⟨yb, rfl, hi, hb⟩ := fracS_ex hh
  have HIyb := Lib.hid (hi.up HWS.out)
  clear b2c0 b2c1 b2c2 b2c3 b2f b2l
  clear hh hi FT
  have HB1 := Lib.hid (HB1.out.below hb HB1.out.lt)
  have HB2 := Lib.hid (HB2.out.below hb HB2.out.lt)
  have HB3 := Lib.hid (HB3.out.below hb HB3.out.lt)
  have HR1 := Lib.hid (HR1.out.below hb)
  have HR2 := Lib.hid (HR2.out.below hb)
  have HR3 := Lib.hid (HR3.out.below hb)
  have HR4 := Lib.hid (HR4.out.below hb)
  have HIxa := Lib.hid (HIxa.out.below hb)
  have HWS := Lib.hid (Nat.le_trans HWS.out hb.size)
  have KG := Lib.hid (KG.out.trans (hb.mono KG.out.size))
  clear hb
  have b2c0 := HB2.out.cell (i := 0) rfl
  have b2c1 := HB2.out.cell (i := 1) rfl
  have b2c2 := HB2.out.cell (i := 2) rfl
  have b2c3 := HB2.out.cell (i := 3) rfl
  have b2f := HB2.out.fz
  have b2l := HB2.out.lt
  go_upto_region 3 with (fail)
  obtain ⟨v4, hV⟩ : ∃ V, V = (((w3.setCell ⟨w.heap.size + 1, 0, none⟩ (.bool (decide (r < 0)))).setCell ⟨w.heap.size + 1, 1, none⟩ (.slice yb.1 (lenB r.natAbs) yb.2.1)).setCell ⟨w.heap.size + 1, 2, none⟩ (.bool (decide (t < 0)))).setCell ⟨w.heap.size + 1, 3, none⟩ (.slice yb.2.2.1 (lenB t.natAbs) yb.2.2.2) := ⟨_, rfl⟩
  have HB1 := Lib.hid (show Bxs v4 (w.heap.size) 27 [.bool (decide (p < 0)), .slice xa.1 (lenB p.natAbs) xa.2.1, .bool (decide (q < 0)), .slice xa.2.2.1 (lenB q.natAbs) xa.2.2.2] by rw [hV]; exact ((((HB1.out).other (by dsimp only; omega) _).other (by dsimp only; omega) _).other (by dsimp only; omega) _).other (by dsimp only; omega) _)
  have HB2 := Lib.hid (show Bxs v4 (w.heap.size + 1) 27 [.bool (decide (r < 0)), .slice yb.1 (lenB r.natAbs) yb.2.1, .bool (decide (t < 0)), .slice yb.2.2.1 (lenB t.natAbs) yb.2.2.2] by rw [hV]; exact ((((HB2.out).put 0 _).put 1 _).put 2 _).put 3 _)
  have HB3 := Lib.hid (show Bxs v4 (w.heap.size + 1 + 1) 27 [.bool false, .slice none 0 0, .bool false, .slice none 0 0] by rw [hV]; exact ((((HB3.out).other (by dsimp only; omega) _).other (by dsimp only; omega) _).other (by dsimp only; omega) _).other (by dsimp only; omega) _)
  have hsin : Sin w.heap.size (w.heap.size + 3) w3 v4 := by rw [hV]; exact ((((Sin.refl _ _ _).set (by dsimp only; omega) (by dsimp only; omega) _).set (by dsimp only; omega) (by dsimp only; omega) _).set (by dsimp only; omega) (by dsimp only; omega) _).set (by dsimp only; omega) (by dsimp only; omega) _
  have HR1 := Lib.hid (HR1.out.sin hsin)
  have HR2 := Lib.hid (HR2.out.sin hsin)
  have HR3 := Lib.hid (HR3.out.sin hsin)
  have HR4 := Lib.hid (HR4.out.sin hsin)
  have HIxa := Lib.hid (HIxa.out.sin hsin)
  have HIyb := Lib.hid (HIyb.out.sin hsin)
  clear hsin
  have KG := Lib.hid (show Below w.heap.size w v4 by rw [hV]; exact ((((KG.out).setCell (by dsimp only; omega) _).setCell (by dsimp only; omega) _).setCell (by dsimp only; omega) _).setCell (by dsimp only; omega) _)
  have HWS := Lib.hid (show w.heap.size + 3 ≤ v4.heap.size by rw [hV]; simp only [World.size_setCell]; have := HWS.out; omega)
  rw [show (((w3.setCell ⟨w.heap.size + 1, 0, none⟩ (.bool (decide (r < 0)))).setCell ⟨w.heap.size + 1, 1, none⟩ (.slice yb.1 (lenB r.natAbs) yb.2.1)).setCell ⟨w.heap.size + 1, 2, none⟩ (.bool (decide (t < 0)))).setCell ⟨w.heap.size + 1, 3, none⟩ (.slice yb.2.2.1 (lenB t.natAbs) yb.2.2.2) = v4 from hV.symm]
  clear hV
  clear b2c0 b2c1 b2c2 b2c3 b2f b2l
  clear HR1 HR2 HR3 HR4
  have MA := Lib.hid (fun (w' : World) (hb : Below v4.heap.size v4 w') => rmul_any (decide (p < 0)) xa.1 (lenB p.natAbs) xa.2.1 (dgi p.natAbs) (decide (t < 0)) yb.2.2.1 (lenB t.natAbs) yb.2.2.2 (dgi t.natAbs) w' (HIxa.out.r1.rd.below hb) (by have := HL.out; omega) HIxa.out.c1 (HIyb.out.r2.rd.below hb) (by have := HL.out; omega) HIyb.out.c2)
  rw [canon_val, canon_val, ← HE.out.1] at MA
  have MB := Lib.hid (fun (w' : World) (hb : Below v4.heap.size v4 w') => rmul_any (decide (r < 0)) yb.1 (lenB r.natAbs) yb.2.1 (dgi r.natAbs) (decide (q < 0)) xa.2.2.1 (lenB q.natAbs) xa.2.2.2 (dgi q.natAbs) w' (HIyb.out.r1.rd.below hb) (by have := HL.out; omega) HIyb.out.c1 (HIxa.out.r2.rd.below hb) (by have := HL.out; omega) HIxa.out.c2)
  rw [canon_val, canon_val, ← HE.out.2.1] at MB
  have HS := Lib.hid (fun (w' : World) (hb : Below v4.heap.size v4 w') => And.intro (frac_box (HB1.out.below hb HB1.out.lt)) ((frac_box (HB2.out.below hb HB2.out.lt))))
  refine wp_region_fresh 12 (spOf [(4, Sp.made (fun x : Option Addr × Nat => numV (decide (T1 < 0)) x.1 (lenB T1.natAbs) x.2) (fun x w' => Own 74 w' v4.heap.size x.1 (lenB T1.natAbs) x.2 (dgi T1.natAbs))), (9, Sp.made (fun x : Option Addr × Nat => numV (decide (T2 < 0)) x.1 (lenB T2.natAbs) x.2) (fun x w' => Own 74 w' v4.heap.size x.1 (lenB T2.natAbs) x.2 (dgi T2.natAbs))), (10, Sp.made (fun x : Option Addr × Nat => numV (decide (S < 0)) x.1 (lenB S.natAbs) x.2) (fun x w' => Own 74 w' v4.heap.size x.1 (lenB S.natAbs) x.2 (dgi S.natAbs))), (11, Sp.made (fun b : Nat => .pointer (some ⟨b, 0, none⟩)) (fun b w' => Bxs w' b 24 [.bool false, .slice none 0 0] ∧ v4.heap.size ≤ b))]) (fun w' => Below v4.heap.size v4 w') (by kernel_rfl) (by kernel_rfl)
    (spOf_cons (Sp.made_keeps fun x w w' h hb => h.below hb) (spOf_cons (Sp.made_keeps fun x w w' h hb => h.below hb) (spOf_cons (Sp.made_keeps fun x w w' h hb => h.below hb) (spOf_cons (Sp.made_keeps fun x w w' h hb => ⟨h.1.below hb h.1.lt, h.2⟩) (spOf_nil))))) (fun _ _ h hb => h.trans (hb.mono h.size)) ((Below.refl _ _).drew) ?_
  simp only [List.take_succ_cons, List.take_zero, List.drop_succ_cons, List.drop_zero]
  (refine wpF_reads rfl rfl ?_ (fun w' hw' => ?_) ?_; rotate_left; · (have hb' := Has.world hw'; (skip); clear hw'; go_simp; try rfl))
  conv => arg 9; simp only [Act.put, List.setIfInBounds_toArray, List.set_cons_succ, List.set_cons_zero]
  (refine wpF_reads rfl rfl ?_ (fun w' hw' => ?_) ?_; rotate_left; · (have hb' := Has.world hw'; (obtain ⟨k0, k1, k2, k3, k4, k5⟩ := (HS.out _ hb').1); clear hw'; go_simp; try rfl))
  conv => arg 9; simp only [Act.put, List.setIfInBounds_toArray, List.set_cons_succ, List.set_cons_zero]
  (refine wpF_reads rfl rfl ?_ (fun w' hw' => ?_) ?_; rotate_left; · (have hb' := Has.world hw'; (skip); clear hw'; go_simp; try rfl))
  conv => arg 9; simp only [Act.put, List.setIfInBounds_toArray, List.set_cons_succ, List.set_cons_zero]
  (refine wpF_reads rfl rfl ?_ (fun w' hw' => ?_) ?_; rotate_left; · (have hb' := Has.world hw'; (obtain ⟨k0, k1, k2, k3, k4, k5⟩ := (HS.out _ hb').2); clear hw'; go_simp; try rfl))
  conv => arg 9; simp only [Act.put, List.setIfInBounds_toArray, List.set_cons_succ, List.set_cons_zero]
  (refine wpF_spec rfl rfl (fun w' hw' => ?_) ?_; · (have hb' := Has.world hw'; go_simp; ((refine (MA.out w' hb').mono ?_; rintro e w'' ⟨za, zb, rfl, ho, hb⟩; exact ⟨_, rfl, ⟨⟨za, zb, rfl⟩, ⟨za, zb, rfl, ho.mono hb'.size⟩⟩, hb⟩))))
  rintro _ ⟨y4, rfl⟩
  conv => arg 9; simp only [Act.put, List.setIfInBounds_toArray, List.set_cons_succ, List.set_cons_zero]
  (refine wpF_reads rfl rfl ?_ (fun w' hw' => ?_) ?_; rotate_left; · (have hb' := Has.world hw'; (skip); clear hw'; go_simp; try rfl))
  conv => arg 9; simp only [Act.put, List.setIfInBounds_toArray, List.set_cons_succ, List.set_cons_zero]
  (refine wpF_reads rfl rfl ?_ (fun w' hw' => ?_) ?_; rotate_left; · (have hb' := Has.world hw'; (obtain ⟨k0, k1, k2, k3, k4, k5⟩ := (HS.out _ hb').2); clear hw'; go_simp; try rfl))
  conv => arg 9; simp only [Act.put, List.setIfInBounds_toArray, List.set_cons_succ, List.set_cons_zero]
  (refine wpF_reads rfl rfl ?_ (fun w' hw' => ?_) ?_; rotate_left; · (have hb' := Has.world hw'; (skip); clear hw'; go_simp; try rfl))
  conv => arg 9; simp only [Act.put, List.setIfInBounds_toArray, List.set_cons_succ, List.set_cons_zero]
  (refine wpF_reads rfl rfl ?_ (fun w' hw' => ?_) ?_; rotate_left; · (have hb' := Has.world hw'; (obtain ⟨k0, k1, k2, k3, k4, k5⟩ := (HS.out _ hb').1); clear hw'; go_simp; try rfl))
  conv => arg 9; simp only [Act.put, List.setIfInBounds_toArray, List.set_cons_succ, List.set_cons_zero]
  (refine wpF_spec rfl rfl (fun w' hw' => ?_) ?_; · (have hb' := Has.world hw'; go_simp; ((refine (MB.out w' hb').mono ?_; rintro e w'' ⟨za, zb, rfl, ho, hb⟩; exact ⟨_, rfl, ⟨⟨za, zb, rfl⟩, ⟨za, zb, rfl, ho.mono hb'.size⟩⟩, hb⟩))))
  rintro _ ⟨y9, rfl⟩
  conv => arg 9; simp only [Act.put, List.setIfInBounds_toArray, List.set_cons_succ, List.set_cons_zero]
  have AD := Lib.hid (fun (w' : World) (h4 : Own 74 w' v4.heap.size y4.1 (lenB T1.natAbs) y4.2 (dgi T1.natAbs)) (h9 : Own 74 w' v4.heap.size y9.1 (lenB T2.natAbs) y9.2 (dgi T2.natAbs)) => radd_any (decide (T1 < 0)) y4.1 (lenB T1.natAbs) y4.2 (dgi T1.natAbs) (decide (T2 < 0)) y9.1 (lenB T2.natAbs) y9.2 (dgi T2.natAbs) w' h4.rd (by have := HM.out; omega) h4.le h9.rd (by have := HM.out; omega) h9.le)
  rw [canon_val, canon_val, ← HE.out.2.2.1] at AD
  (refine wpF_spec rfl rfl (fun w' hw' => ?_) ?_; · (have hb' := Has.world hw'; go_simp; ((have h4 := own_numc (T := 74) (x := y4) (b := v4.heap.size) (s := decide (T1 < 0)) (L := lenB T1.natAbs) (o := dgi T1.natAbs) (hw'.fact 4 (by kernel_rfl)); have h9 := own_numc (T := 74) (x := y9) (b := v4.heap.size) (s := decide (T2 < 0)) (L := lenB T2.natAbs) (o := dgi T2.natAbs) (hw'.fact 9 (by kernel_rfl)); refine (AD.out w' h4 h9).mono ?_; rintro e w'' ⟨za, zb, rfl, ho, hb⟩; exact ⟨_, rfl, ⟨⟨za, zb, rfl⟩, ⟨za, zb, rfl, ho.mono hb'.size⟩⟩, hb⟩))))
  rintro _ ⟨y10, rfl⟩
  conv => arg 9; simp only [Act.put, List.setIfInBounds_toArray, List.set_cons_succ, List.set_cons_zero]
  (refine wpF_spec rfl rfl (fun w' hw' => ?_) ?_; · (have hb' := Has.world hw'; go_simp; (first | exact ⟨⟨⟨w'.heap.size, rfl⟩, ⟨w'.heap.size, rfl, Bxs.new w' _ _, hb'.size⟩⟩, (Below.refl _ _).alloc (Nat.le_refl _) _⟩ | exact ⟨⟨Bxs.new w' _ _, hb'.size⟩, (Below.refl _ _).alloc (Nat.le_refl _) _⟩ | trace_state)))
  rintro _ ⟨y11, rfl⟩
  conv => arg 9; simp only [Act.put, List.setIfInBounds_toArray, List.set_cons_succ, List.set_cons_zero]
  refine wpF_nil (fun w5 hb hF => ?_)
  have HO4 := Lib.hid (Own.mono (own_numc (T := 74) (x := y4) (b := v4.heap.size) (s := decide (T1 < 0)) (L := lenB T1.natAbs) (o := dgi T1.natAbs) (hF 4)) HWS.out)
  have HO9 := Lib.hid (Own.mono (own_numc (T := 74) (x := y9) (b := v4.heap.size) (s := decide (T2 < 0)) (L := lenB T2.natAbs) (o := dgi T2.natAbs) (hF 9)) HWS.out)
  have HO10 := Lib.hid (Own.mono (own_numc (T := 74) (x := y10) (b := v4.heap.size) (s := decide (S < 0)) (L := lenB S.natAbs) (o := dgi S.natAbs) (hF 10)) HWS.out)
  have HO11 := Lib.hid (box_of (hF 11))
  clear hF HS
  clear AD MA MB
  obtain ⟨HBX, HBV⟩ := HO11.out
  have HOX := Lib.hid HO10.out
  clear HO4 HO9 HO10 HO11
  have b4c0 := HBX.cell (i := 0) rfl
  have b4c1 := HBX.cell (i := 1) rfl
  have b4f := HBX.fz
  have b4l := HBX.lt
  go_upto_region 4 with (fail)
  clear b4c0 b4c1 b4f b4l
  obtain ⟨vg, hV⟩ : ∃ vg, vg = (w5.setCell ⟨y11, 0, none⟩ (.bool (decide (S < 0)))).setCell ⟨y11, 1, none⟩ (.slice y10.1 (lenB S.natAbs) y10.2) := ⟨_, rfl⟩
  have hbV : Below v4.heap.size v4 vg := by rw [hV]; exact (hb.setCell HBV _).setCell HBV _
  have HB4 := Lib.hid (show Bxs vg y11 24 [.bool (decide (S < 0)), .slice y10.1 (lenB S.natAbs) y10.2] by rw [hV]; exact (HBX.put 0 _).put 1 _)
  have HOS := Lib.hid (show Own 74 vg (w.heap.size + 3) y10.1 (lenB S.natAbs) y10.2 (dgi S.natAbs) by rw [hV]; exact (HOX.out.setBox HBX (by decide) 0 _).setBox (HBX.put 0 _) (by decide) 1 _)
  rw [show (w5.setCell ⟨y11, 0, none⟩ (.bool (decide (S < 0)))).setCell ⟨y11, 1, none⟩ (.slice y10.1 (lenB S.natAbs) y10.2) = vg from hV.symm]
  clear hV HBX HBV hb HOX
  have HB1 := Lib.hid (HB1.out.below hbV HB1.out.lt)
  have HB2 := Lib.hid (HB2.out.below hbV HB2.out.lt)
  have HB3 := Lib.hid (HB3.out.below hbV HB3.out.lt)
  have HIxa := Lib.hid (HIxa.out.below hbV)
  have HIyb := Lib.hid (HIyb.out.below hbV)
  have HWS := Lib.hid (Nat.le_trans HWS.out hbV.size)
  have KG := Lib.hid (KG.out.trans (hbV.mono KG.out.size))
  clear hbV
  have MC := Lib.hid (fun (w' : World) (hb : Below vg.heap.size vg w') => rmul_any (decide (q < 0)) xa.2.2.1 (lenB q.natAbs) xa.2.2.2 (dgi q.natAbs) (decide (t < 0)) yb.2.2.1 (lenB t.natAbs) yb.2.2.2 (dgi t.natAbs) w' (HIxa.out.r2.rd.below hb) (by have := HL.out; omega) HIxa.out.c2 (HIyb.out.r2.rd.below hb) (by have := HL.out; omega) HIyb.out.c2)
  rw [canon_val, canon_val, ← HE.out.2.2.2] at MC
  have HS := Lib.hid (fun (w' : World) (hb : Below vg.heap.size vg w') => And.intro (HB4.out.below hb HB4.out.lt).bx.all (And.intro (frac_box (HB1.out.below hb HB1.out.lt)) ((frac_box (HB2.out.below hb HB2.out.lt)))))
  refine wp_region_fresh 6 (spOf [(5, Sp.made (fun x : Option Addr × Nat => numV (decide (Lw < 0)) x.1 (lenB Lw.natAbs) x.2) (fun x w' => Own 74 w' vg.heap.size x.1 (lenB Lw.natAbs) x.2 (dgi Lw.natAbs)))]) (fun w' => Below vg.heap.size vg w') (by kernel_rfl) (by kernel_rfl)
    (spOf_cons (Sp.made_keeps fun x w w' h hb => h.below hb) (spOf_nil)) (fun _ _ h hb => h.trans (hb.mono h.size)) ((Below.refl _ _).drew) ?_
  simp only [List.take_succ_cons, List.take_zero, List.drop_succ_cons, List.drop_zero]
  (refine wpF_reads rfl rfl ?_ (fun w' hw' => ?_) ?_; rotate_left; · (have hb' := Has.world hw'; (obtain ⟨k0, k1, k2, k3⟩ := (HS.out _ hb').1); clear hw'; go_simp; try rfl))
  conv => arg 9; simp only [Act.put, List.setIfInBounds_toArray, List.set_cons_succ, List.set_cons_zero]
  (refine wpF_reads rfl rfl ?_ (fun w' hw' => ?_) ?_; rotate_left; · (have hb' := Has.world hw'; (skip); clear hw'; go_simp; try rfl))
  conv => arg 9; simp only [Act.put, List.setIfInBounds_toArray, List.set_cons_succ, List.set_cons_zero]
  (refine wpF_reads rfl rfl ?_ (fun w' hw' => ?_) ?_; rotate_left; · (have hb' := Has.world hw'; (obtain ⟨k0, k1, k2, k3, k4, k5⟩ := (HS.out _ hb').2.1); clear hw'; go_simp; try rfl))
  conv => arg 9; simp only [Act.put, List.setIfInBounds_toArray, List.set_cons_succ, List.set_cons_zero]
  (refine wpF_reads rfl rfl ?_ (fun w' hw' => ?_) ?_; rotate_left; · (have hb' := Has.world hw'; (skip); clear hw'; go_simp; try rfl))
  conv => arg 9; simp only [Act.put, List.setIfInBounds_toArray, List.set_cons_succ, List.set_cons_zero]
  (refine wpF_reads rfl rfl ?_ (fun w' hw' => ?_) ?_; rotate_left; · (have hb' := Has.world hw'; (obtain ⟨k0, k1, k2, k3, k4, k5⟩ := (HS.out _ hb').2.2); clear hw'; go_simp; try rfl))
  conv => arg 9; simp only [Act.put, List.setIfInBounds_toArray, List.set_cons_succ, List.set_cons_zero]
  (refine wpF_spec rfl rfl (fun w' hw' => ?_) ?_; · (have hb' := Has.world hw'; go_simp; ((refine (MC.out w' hb').mono ?_; rintro e w'' ⟨za, zb, rfl, ho, hb⟩; exact ⟨_, rfl, ⟨⟨za, zb, rfl⟩, ⟨za, zb, rfl, ho.mono hb'.size⟩⟩, hb⟩))))
  rintro _ ⟨y5, rfl⟩
  conv => arg 9; simp only [Act.put, List.setIfInBounds_toArray, List.set_cons_succ, List.set_cons_zero]
  refine wpF_nil (fun w6 hb hF => ?_)
  have HO5 := Lib.hid (Own.mono (own_numc (T := 74) (x := y5) (b := vg.heap.size) (s := decide (Lw < 0)) (L := lenB Lw.natAbs) (o := dgi Lw.natAbs) (hF 5)) HWS.out)
  clear hF HS
  have HB1 := Lib.hid (HB1.out.below hb HB1.out.lt)
  have HB2 := Lib.hid (HB2.out.below hb HB2.out.lt)
  have HB3 := Lib.hid (HB3.out.below hb HB3.out.lt)
  have HB4 := Lib.hid (HB4.out.below hb HB4.out.lt)
  have HIxa := Lib.hid (HIxa.out.below hb)
  have HIyb := Lib.hid (HIyb.out.below hb)
  have HOS := Lib.hid (HOS.out.below hb)
  have HWS := Lib.hid (Nat.le_trans HWS.out hb.size)
  have KG := Lib.hid (KG.out.trans (hb.mono KG.out.size))
  clear hb
  clear MC
  have LO := Lib.hid (fun (w' : World) (hb : Below w6.heap.size w6 w') => rlowest_any S Lw y10.1 y5.1 y10.2 y5.2 w' (HOS.out.rd.below hb) (by have := HM.out; omega) HOS.out.le (HO5.out.rd.below hb) (by have := HM.out; omega) HO5.out.le HZ.out.2)
  rw [HZ.out.1, ← HZE.out.1, ← HZE.out.2] at LO
  have b3c0 := HB3.out.cell (i := 0) rfl
  have b3c1 := HB3.out.cell (i := 1) rfl
  have b3c2 := HB3.out.cell (i := 2) rfl
  have b3c3 := HB3.out.cell (i := 3) rfl
  have b3f := HB3.out.fz
  have b3l := HB3.out.lt
  go_wp2_with fail
  with_reducible refine (LO.out _ (Below.refl _ _)).mono ?_
  rintro e w7 ⟨r1, e1, r2, e2, rfl, ho1, ho2, hb⟩
  have HQ1 := Lib.hid (ho1.mono HWS.out)
  have HQ2 := Lib.hid (ho2.mono HWS.out)
  clear ho1 ho2
  clear b3c0 b3c1 b3c2 b3c3 b3f b3l
  have HB1 := Lib.hid (HB1.out.below hb HB1.out.lt)
  have HB2 := Lib.hid (HB2.out.below hb HB2.out.lt)
  have HB3 := Lib.hid (HB3.out.below hb HB3.out.lt)
  have HB4 := Lib.hid (HB4.out.below hb HB4.out.lt)
  have HIxa := Lib.hid (HIxa.out.below hb)
  have HIyb := Lib.hid (HIyb.out.below hb)
  have HOS := Lib.hid (HOS.out.below hb)
  have HO5 := Lib.hid (HO5.out.below hb)
  have HWS := Lib.hid (Nat.le_trans HWS.out hb.size)
  have KG := Lib.hid (KG.out.trans (hb.mono KG.out.size))
  clear hb
  clear LO
  have b3c0 := HB3.out.cell (i := 0) rfl
  have b3c1 := HB3.out.cell (i := 1) rfl
  have b3c2 := HB3.out.cell (i := 2) rfl
  have b3c3 := HB3.out.cell (i := 3) rfl
  have b3f := HB3.out.fz
  have b3l := HB3.out.lt
  go_wp2_with fail
  have hws := HWS.out
  refine bodyPost_ret (results_cell rfl _ _ _ _ _ _ _ rfl (((((HB3.out).put 0 _).put 1 _).put 2 _).put 3 _) Tryz.underlying27 rfl (by kernel_rfl)) rfl ?_
  refine ⟨r1, e1, r2, e2, rfl, ?_, ?_, ?_⟩
  · exact (((((HQ1.out).other (by dsimp only; omega) _).other (by dsimp only; omega) _).other (by dsimp only; omega) _).other (by dsimp only; omega) _).mono (by omega)
  · exact (((((HQ2.out).other (by dsimp only; omega) _).other (by dsimp only; omega) _).other (by dsimp only; omega) _).other (by dsimp only; omega) _).mono (by omega)
  · exact ((((KG.out).setCell (by dsimp only; omega) _).setCell (by dsimp only; omega) _).setCell (by dsimp only; omega) _).setCell (by dsimp only; omega) _

open Classical in
set_option maxRecDepth 100000 in
set_option maxHeartbeats 2000000 in
theorem rfsub_any (s1 : Bool) (a1 : Option Addr) (n1 c1 : Nat) (o1 : Nat → Int) (s2 : Bool) (a2 : Option Addr) (n2 c2 : Nat) (o2 : Nat → Int) (s3 : Bool) (a3 : Option Addr) (n3 c3 : Nat) (o3 : Nat → Int) (s4 : Bool) (a4 : Option Addr) (n4 c4 : Nat) (o4 : Nat → Int) (w : World) (x y : Rat) (hx : x = valF s1 n1 o1 s2 n2 o2) (hy : y = valF s3 n3 o3 s4 n4 o4) (h1 : Rd w a1 n1 o1) (hn1 : n1 ≤ 900000) (hc1 : n1 ≤ c1) (h2 : Rd w a2 n2 o2) (hn2 : n2 ≤ 900000) (hc2 : n2 ≤ c2) (h3 : Rd w a3 n3 o3) (hn3 : n3 ≤ 900000) (hc3 : n3 ≤ c3) (h4 : Rd w a4 n4 o4) (hn4 : n4 ≤ 900000) (hc4 : n4 ≤ c4) :
    Calls Tryz.prog 27 #[fracV s1 a1 n1 c1 s2 a2 n2 c2, fracV s3 a3 n3 c3 s4 a4 n4 c4] w (FracF w (x - y).num ((x - y).den : Int)) := by
  have hfar : ∀ {a : Option Addr} {n : Nat} {o : Nat → Int}, Rd w a n o → 0 < n → ∀ p, a = some p → p.block < w.heap.size := fun h h0 p hp => by
    obtain ⟨b, off, e, hc⟩ := h.cells h0
    rw [e] at hp; cases hp
    exact block_lt_of_cell (hc 0 h0)
  have l1 := valF_len (s1 := s1) (s2 := s2) h1.rng h2.rng
  rw [← hx] at l1
  have l2 := valF_len (s1 := s3) (s2 := s4) h3.rng h4.rng
  rw [← hy] at l2
  obtain ⟨p, hp⟩ : ∃ p, p = x.num := ⟨_, rfl⟩
  obtain ⟨q, hq⟩ : ∃ q : Int, q = (x.den : Int) := ⟨_, rfl⟩
  rw [← hp, ← hq] at l1
  obtain ⟨r, hr⟩ : ∃ r, r = y.num := ⟨_, rfl⟩
  obtain ⟨t, ht⟩ : ∃ t : Int, t = (y.den : Int) := ⟨_, rfl⟩
  rw [← hr, ← ht] at l2
  have HL := Lib.hid (show (lenB p.natAbs ≤ 900001 ∧ lenB q.natAbs ≤ 900001) ∧ lenB r.natAbs ≤ 900001 ∧ lenB t.natAbs ≤ 900001 by omega)
  have HP := Lib.hid (And.intro (And.intro hx (And.intro hp hq)) (And.intro hy (And.intro hr ht)))
  have HF := Lib.hid (And.intro (And.intro (hfar h1) (hfar h2)) (And.intro (hfar h3) (hfar h4)))
  obtain ⟨z, hz⟩ : ∃ z, z = x - y := ⟨_, rfl⟩
  have HZ := Lib.hid (show x + -y = z by rw [hz, Rat.sub_eq_add_neg])
  rw [← hz]
  obtain ⟨zp, hzp⟩ : ∃ zp, zp = z.num := ⟨_, rfl⟩
  obtain ⟨zq, hzq⟩ : ∃ zq : Int, zq = (z.den : Int) := ⟨_, rfl⟩
  have HZE := Lib.hid (And.intro hzp hzq)
  rw [← hzp, ← hzq]
  obtain ⟨np, hnp⟩ : ∃ np, np = (-y).num := ⟨_, rfl⟩
  obtain ⟨nq, hnq⟩ : ∃ nq : Int, nq = ((-y).den : Int) := ⟨_, rfl⟩
  have HNE := Lib.hid (And.intro hnp hnq)
  have HNL := Lib.hid (show lenB np.natAbs ≤ 900001 ∧ lenB nq.natAbs ≤ 900001 by rw [hnp, hnq, Rat.neg_num, Rat.neg_den, Int.natAbs_neg, ← hr, ← ht]; omega)
  clear hz hzp hzq hnp hnq
  have HB1 := Lib.hid (((Bxs.new (w) 27 [.bool s1, .slice a1 n1 c1, .bool s2, .slice a2 n2 c2]).alloc (.cells #[.bool s3, .slice a3 n3 c3, .bool s4, .slice a4 n4 c4] 27)).alloc (.cells #[.bool false, .slice none 0 0, .bool false, .slice none 0 0] 27))
  have HB2 := Lib.hid ((Bxs.new (w.alloc (.cells #[.bool s1, .slice a1 n1 c1, .bool s2, .slice a2 n2 c2] 27)) 27 [.bool s3, .slice a3 n3 c3, .bool s4, .slice a4 n4 c4]).alloc (.cells #[.bool false, .slice none 0 0, .bool false, .slice none 0 0] 27))
  have HB3 := Lib.hid (Bxs.new ((w.alloc (.cells #[.bool s1, .slice a1 n1 c1, .bool s2, .slice a2 n2 c2] 27)).alloc (.cells #[.bool s3, .slice a3 n3 c3, .bool s4, .slice a4 n4 c4] 27)) 27 [.bool false, .slice none 0 0, .bool false, .slice none 0 0])
  obtain ⟨W, hW⟩ : ∃ W, W = ((w.alloc (.cells #[.bool s1, .slice a1 n1 c1, .bool s2, .slice a2 n2 c2] 27)).alloc (.cells #[.bool s3, .slice a3 n3 c3, .bool s4, .slice a4 n4 c4] 27)).alloc (.cells #[.bool false, .slice none 0 0, .bool false, .slice none 0 0] 27) := ⟨_, rfl⟩
  have KG := Lib.hid (show Below w.heap.size w W by rw [hW]; exact (((Below.refl _ _).alloc (Nat.le_refl _) _).alloc (by go_size) _).alloc (by go_size) _)
  have HWS := Lib.hid (show w.heap.size + 3 ≤ W.heap.size by rw [hW]; simp only [World.size_alloc]; omega)
  have HB1 := Lib.hid (show Bxs W (w.heap.size) 27 [.bool s1, .slice a1 n1 c1, .bool s2, .slice a2 n2 c2] by have h := HB1.out; rw [hW]; exact h)
  have HB2 := Lib.hid (show Bxs W (w.heap.size + 1) 27 [.bool s3, .slice a3 n3 c3, .bool s4, .slice a4 n4 c4] by have h := HB2.out; simp only [World.size_alloc] at h; rw [hW]; exact h)
  have HB3 := Lib.hid (show Bxs W (w.heap.size + 1 + 1) 27 [.bool false, .slice none 0 0, .bool false, .slice none 0 0] by have h := HB3.out; simp only [World.size_alloc] at h; rw [hW]; exact h)
  have HW := Lib.hid hW
  clear hW
  have HR1 := Lib.hid (show RdS W w.heap.size (w.heap.size + 3) a1 n1 o1 from ⟨h1.below KG.out, fun h0 p hp => Or.inl (hfar h1 h0 p hp)⟩)
  have HR2 := Lib.hid (show RdS W w.heap.size (w.heap.size + 3) a2 n2 o2 from ⟨h2.below KG.out, fun h0 p hp => Or.inl (hfar h2 h0 p hp)⟩)
  have HR3 := Lib.hid (show RdS W w.heap.size (w.heap.size + 3) a3 n3 o3 from ⟨h3.below KG.out, fun h0 p hp => Or.inl (hfar h3 h0 p hp)⟩)
  have HR4 := Lib.hid (show RdS W w.heap.size (w.heap.size + 3) a4 n4 o4 from ⟨h4.below KG.out, fun h0 p hp => Or.inl (hfar h4 h0 p hp)⟩)
  clear hx hp hq l1 h1 h2 hfar hy hr ht l2 h3 h4
  go_enter Tryz.func27, Tryz.ntmps27
  go_upto_region 1 with (fail)
  rw [show ((w.alloc (.cells #[.bool s1, .slice a1 n1 c1, .bool s2, .slice a2 n2 c2] 27)).alloc (.cells #[.bool s3, .slice a3 n3 c3, .bool s4, .slice a4 n4 c4] 27)).alloc (.cells #[.bool false, .slice none 0 0, .bool false, .slice none 0 0] 27) = W from HW.out.symm]
  clear HW
  have NG := Lib.hid (fun (w' : World) (hb : Below W.heap.size W w') => rfneg_any s3 a3 n3 c3 o3 s4 a4 n4 c4 o4 w' y HP.out.2.1 (HR3.out.rd.below hb) (by omega) hc3 (HR4.out.rd.below hb) (by omega) hc4)
  rw [← HNE.out.1, ← HNE.out.2] at NG
  have HS := Lib.hid (fun (w' : World) (hb : Below W.heap.size W w') => And.intro (frac_box (HB1.out.below hb HB1.out.lt)) ((frac_box (HB2.out.below hb HB2.out.lt))))
  refine wp_region_fresh 3 (spOf [(2, Sp.made (fracX np nq) (fun x w' => FracI w' w.heap.size (w.heap.size + 3) np nq x))]) (fun w' => Below W.heap.size W w') (by kernel_rfl) (by kernel_rfl)
    (spOf_cons (Sp.made_keeps fun x w w' h hb => h.below hb) (spOf_nil)) (fun _ _ h hb => h.trans (hb.mono h.size)) ((Below.refl _ _).drew) ?_
  simp only [List.take_succ_cons, List.take_zero, List.drop_succ_cons, List.drop_zero]
  (refine wpF_reads rfl rfl ?_ (fun w' hw' => ?_) ?_; rotate_left; · (have hb' := Has.world hw'; (obtain ⟨k0, k1, k2, k3, k4, k5⟩ := (HS.out _ hb').1); clear hw'; go_simp; try rfl))
  conv => arg 9; simp only [Act.put, List.setIfInBounds_toArray, List.set_cons_succ, List.set_cons_zero]
  (refine wpF_reads rfl rfl ?_ (fun w' hw' => ?_) ?_; rotate_left; · (have hb' := Has.world hw'; (obtain ⟨k0, k1, k2, k3, k4, k5⟩ := (HS.out _ hb').2); clear hw'; go_simp; try rfl))
  conv => arg 9; simp only [Act.put, List.setIfInBounds_toArray, List.set_cons_succ, List.set_cons_zero]
  (refine wpF_spec rfl rfl (fun w' hw' => ?_) ?_; · (have hb' := Has.world hw'; go_simp; ((refine (NG.out w' hb').mono ?_; rintro e w'' ⟨za, zb, zc, zd, rfl, h1, h2, hb⟩; exact ⟨_, rfl, ⟨⟨za, zb, zc, zd, rfl⟩, ⟨za, zb, zc, zd, rfl, ⟨h1.rdS _ _ (Nat.le_trans HWS.out hb'.size), h1.le, h2.rdS _ _ (Nat.le_trans HWS.out hb'.size), h2.le⟩⟩⟩, hb⟩))))
  rintro _ ⟨y2, rfl⟩
  conv => arg 9; simp only [Act.put, List.setIfInBounds_toArray, List.set_cons_succ, List.set_cons_zero]
  refine wpF_nil (fun w1 hb hF => ?_)
  have HO2 := Lib.hid (fracI_of (hF 2))
  clear hF HS
  have HB1 := Lib.hid (HB1.out.below hb HB1.out.lt)
  have HB2 := Lib.hid (HB2.out.below hb HB2.out.lt)
  have HB3 := Lib.hid (HB3.out.below hb HB3.out.lt)
  have HR1 := Lib.hid (HR1.out.below hb)
  have HR2 := Lib.hid (HR2.out.below hb)
  have HR3 := Lib.hid (HR3.out.below hb)
  have HR4 := Lib.hid (HR4.out.below hb)
  have HWS := Lib.hid (Nat.le_trans HWS.out hb.size)
  have KG := Lib.hid (KG.out.trans (hb.mono KG.out.size))
  clear hb
  clear NG
  have AD := Lib.hid (fun (w' : World) (hb : Below w1.heap.size w1 w') => rfadd_any s1 a1 n1 c1 o1 s2 a2 n2 c2 o2 (decide (np < 0)) y2.1 (lenB np.natAbs) y2.2.1 (dgi np.natAbs) (decide (nq < 0)) y2.2.2.1 (lenB nq.natAbs) y2.2.2.2 (dgi nq.natAbs) w' x (-y) HP.out.1.1 (by rw [HNE.out.1, HNE.out.2]; exact (valF_canon (-y)).symm) (HR1.out.rd.below hb) (by omega) hc1 (HR2.out.rd.below hb) (by omega) hc2 (HO2.out.r1.rd.below hb) (by have := HNL.out; omega) HO2.out.c1 (HO2.out.r2.rd.below hb) (by have := HNL.out; omega) HO2.out.c2)
  rw [HZ.out, ← HZE.out.1, ← HZE.out.2] at AD
  have b3c0 := HB3.out.cell (i := 0) rfl
  have b3c1 := HB3.out.cell (i := 1) rfl
  have b3c2 := HB3.out.cell (i := 2) rfl
  have b3c3 := HB3.out.cell (i := 3) rfl
  have b3f := HB3.out.fz
  have b3l := HB3.out.lt
  go_wp2_with fail
  with_reducible refine (AD.out _ (Below.refl _ _)).mono ?_
  rintro e w2 ⟨r1, e1, r2, e2, rfl, ho1, ho2, hb⟩
  have HQ1 := Lib.hid (ho1.mono HWS.out)
  have HQ2 := Lib.hid (ho2.mono HWS.out)
  clear ho1 ho2
  clear b3c0 b3c1 b3c2 b3c3 b3f b3l
  have HB1 := Lib.hid (HB1.out.below hb HB1.out.lt)
  have HB2 := Lib.hid (HB2.out.below hb HB2.out.lt)
  have HB3 := Lib.hid (HB3.out.below hb HB3.out.lt)
  have HR1 := Lib.hid (HR1.out.below hb)
  have HR2 := Lib.hid (HR2.out.below hb)
  have HR3 := Lib.hid (HR3.out.below hb)
  have HR4 := Lib.hid (HR4.out.below hb)
  have HO2 := Lib.hid (HO2.out.below hb)
  have HWS := Lib.hid (Nat.le_trans HWS.out hb.size)
  have KG := Lib.hid (KG.out.trans (hb.mono KG.out.size))
  clear hb
  clear AD
  have b3c0 := HB3.out.cell (i := 0) rfl
  have b3c1 := HB3.out.cell (i := 1) rfl
  have b3c2 := HB3.out.cell (i := 2) rfl
  have b3c3 := HB3.out.cell (i := 3) rfl
  have b3f := HB3.out.fz
  have b3l := HB3.out.lt
  go_wp2_with fail
  have hws := HWS.out
  refine bodyPost_ret (results_cell rfl _ _ _ _ _ _ _ rfl (((((HB3.out).put 0 _).put 1 _).put 2 _).put 3 _) Tryz.underlying27 rfl (by kernel_rfl)) rfl ?_
  refine ⟨r1, e1, r2, e2, rfl, ?_, ?_, ?_⟩
  · exact (((((HQ1.out).other (by dsimp only; omega) _).other (by dsimp only; omega) _).other (by dsimp only; omega) _).other (by dsimp only; omega) _).mono (by omega)
  · exact (((((HQ2.out).other (by dsimp only; omega) _).other (by dsimp only; omega) _).other (by dsimp only; omega) _).other (by dsimp only; omega) _).mono (by omega)
  · exact ((((KG.out).setCell (by dsimp only; omega) _).setCell (by dsimp only; omega) _).setCell (by dsimp only; omega) _).setCell (by dsimp only; omega) _

open Classical in
set_option maxRecDepth 100000 in
set_option maxHeartbeats 4000000 in
theorem rfmul_any (s1 : Bool) (a1 : Option Addr) (n1 c1 : Nat) (o1 : Nat → Int) (s2 : Bool) (a2 : Option Addr) (n2 c2 : Nat) (o2 : Nat → Int) (s3 : Bool) (a3 : Option Addr) (n3 c3 : Nat) (o3 : Nat → Int) (s4 : Bool) (a4 : Option Addr) (n4 c4 : Nat) (o4 : Nat → Int) (w : World) (x y : Rat) (hx : x = valF s1 n1 o1 s2 n2 o2) (hy : y = valF s3 n3 o3 s4 n4 o4) (h1 : Rd w a1 n1 o1) (hn1 : n1 ≤ 1000000) (hc1 : n1 ≤ c1) (h2 : Rd w a2 n2 o2) (hn2 : n2 ≤ 1000000) (hc2 : n2 ≤ c2) (h3 : Rd w a3 n3 o3) (hn3 : n3 ≤ 1000000) (hc3 : n3 ≤ c3) (h4 : Rd w a4 n4 o4) (hn4 : n4 ≤ 1000000) (hc4 : n4 ≤ c4) :
    Calls Tryz.prog 28 #[fracV s1 a1 n1 c1 s2 a2 n2 c2, fracV s3 a3 n3 c3 s4 a4 n4 c4] w (FracF w (x * y).num ((x * y).den : Int)) := by
  have hfar : ∀ {a : Option Addr} {n : Nat} {o : Nat → Int}, Rd w a n o → 0 < n → ∀ p, a = some p → p.block < w.heap.size := fun h h0 p hp => by
    obtain ⟨b, off, e, hc⟩ := h.cells h0
    rw [e] at hp; cases hp
    exact block_lt_of_cell (hc 0 h0)
  have l1 := valF_len (s1 := s1) (s2 := s2) h1.rng h2.rng
  rw [← hx] at l1
  have l2 := valF_len (s1 := s3) (s2 := s4) h3.rng h4.rng
  rw [← hy] at l2
  obtain ⟨p, hp⟩ : ∃ p, p = x.num := ⟨_, rfl⟩
  obtain ⟨q, hq⟩ : ∃ q : Int, q = (x.den : Int) := ⟨_, rfl⟩
  rw [← hp, ← hq] at l1
  obtain ⟨r, hr⟩ : ∃ r, r = y.num := ⟨_, rfl⟩
  obtain ⟨t, ht⟩ : ∃ t : Int, t = (y.den : Int) := ⟨_, rfl⟩
  rw [← hr, ← ht] at l2
  have HL := Lib.hid (show (lenB p.natAbs ≤ 1000001 ∧ lenB q.natAbs ≤ 1000001) ∧ lenB r.natAbs ≤ 1000001 ∧ lenB t.natAbs ≤ 1000001 by omega)
  have HP := Lib.hid (And.intro (And.intro hx (And.intro hp hq)) (And.intro hy (And.intro hr ht)))
  have HF := Lib.hid (And.intro (And.intro (hfar h1) (hfar h2)) (And.intro (hfar h3) (hfar h4)))
  have hl1 := lenB_mul_le p.natAbs t.natAbs
  have hl2 := lenB_mul_le r.natAbs q.natAbs
  have hl3 := lenB_mul_le q.natAbs t.natAbs
  have hl4 := lenB_mul_le p.natAbs r.natAbs
  rw [← Int.natAbs_mul] at hl1 hl2 hl3 hl4

  obtain ⟨T1, hT1⟩ : ∃ T1, T1 = p * r := ⟨_, rfl⟩
  obtain ⟨Lw, hLw⟩ : ∃ Lw, Lw = q * t := ⟨_, rfl⟩
  have HE := Lib.hid (And.intro hT1 hLw)
  rw [← hT1] at hl4
  rw [← hLw] at hl3
  have HM := Lib.hid (show lenB T1.natAbs ≤ 2000002 ∧ lenB Lw.natAbs ≤ 2000002 by omega)
  obtain ⟨z, hz⟩ : ∃ z, z = x * y := ⟨_, rfl⟩
  have HZ := Lib.hid (show Rat.divInt T1 Lw = z ∧ Lw ≠ 0 from ⟨by rw [hT1, hLw, hp, hq, hr, ht, hz, Rat.mul_def', ← Rat.divInt_ofNat, Int.natCast_mul], by rw [hLw, hq, ht]; exact Int.ne_of_gt (Int.mul_pos (rat_pos x) (rat_pos y))⟩)
  rw [← hz]
  obtain ⟨zp, hzp⟩ : ∃ zp, zp = z.num := ⟨_, rfl⟩
  obtain ⟨zq, hzq⟩ : ∃ zq : Int, zq = (z.den : Int) := ⟨_, rfl⟩
  have HZE := Lib.hid (And.intro hzp hzq)
  rw [← hzp, ← hzq]
  clear hT1 hLw hz hzp hzq hl1 hl2 hl3 hl4
  have HB1 := Lib.hid (((Bxs.new (w) 27 [.bool s1, .slice a1 n1 c1, .bool s2, .slice a2 n2 c2]).alloc (.cells #[.bool s3, .slice a3 n3 c3, .bool s4, .slice a4 n4 c4] 27)).alloc (.cells #[.bool false, .slice none 0 0, .bool false, .slice none 0 0] 27))
  have HB2 := Lib.hid ((Bxs.new (w.alloc (.cells #[.bool s1, .slice a1 n1 c1, .bool s2, .slice a2 n2 c2] 27)) 27 [.bool s3, .slice a3 n3 c3, .bool s4, .slice a4 n4 c4]).alloc (.cells #[.bool false, .slice none 0 0, .bool false, .slice none 0 0] 27))
  have HB3 := Lib.hid (Bxs.new ((w.alloc (.cells #[.bool s1, .slice a1 n1 c1, .bool s2, .slice a2 n2 c2] 27)).alloc (.cells #[.bool s3, .slice a3 n3 c3, .bool s4, .slice a4 n4 c4] 27)) 27 [.bool false, .slice none 0 0, .bool false, .slice none 0 0])
  obtain ⟨W, hW⟩ : ∃ W, W = ((w.alloc (.cells #[.bool s1, .slice a1 n1 c1, .bool s2, .slice a2 n2 c2] 27)).alloc (.cells #[.bool s3, .slice a3 n3 c3, .bool s4, .slice a4 n4 c4] 27)).alloc (.cells #[.bool false, .slice none 0 0, .bool false, .slice none 0 0] 27) := ⟨_, rfl⟩
  have KG := Lib.hid (show Below w.heap.size w W by rw [hW]; exact (((Below.refl _ _).alloc (Nat.le_refl _) _).alloc (by go_size) _).alloc (by go_size) _)
  have HWS := Lib.hid (show w.heap.size + 3 ≤ W.heap.size by rw [hW]; simp only [World.size_alloc]; omega)
  have HB1 := Lib.hid (show Bxs W (w.heap.size) 27 [.bool s1, .slice a1 n1 c1, .bool s2, .slice a2 n2 c2] by have h := HB1.out; rw [hW]; exact h)
  have HB2 := Lib.hid (show Bxs W (w.heap.size + 1) 27 [.bool s3, .slice a3 n3 c3, .bool s4, .slice a4 n4 c4] by have h := HB2.out; simp only [World.size_alloc] at h; rw [hW]; exact h)
  have HB3 := Lib.hid (show Bxs W (w.heap.size + 1 + 1) 27 [.bool false, .slice none 0 0, .bool false, .slice none 0 0] by have h := HB3.out; simp only [World.size_alloc] at h; rw [hW]; exact h)
  have HW := Lib.hid hW
  clear hW
  have HR1 := Lib.hid (show RdS W w.heap.size (w.heap.size + 3) a1 n1 o1 from ⟨h1.below KG.out, fun h0 p hp => Or.inl (hfar h1 h0 p hp)⟩)
  have HR2 := Lib.hid (show RdS W w.heap.size (w.heap.size + 3) a2 n2 o2 from ⟨h2.below KG.out, fun h0 p hp => Or.inl (hfar h2 h0 p hp)⟩)
  have HR3 := Lib.hid (show RdS W w.heap.size (w.heap.size + 3) a3 n3 o3 from ⟨h3.below KG.out, fun h0 p hp => Or.inl (hfar h3 h0 p hp)⟩)
  have HR4 := Lib.hid (show RdS W w.heap.size (w.heap.size + 3) a4 n4 o4 from ⟨h4.below KG.out, fun h0 p hp => Or.inl (hfar h4 h0 p hp)⟩)
  clear hx hp hq l1 h1 h2 hfar hy hr ht l2 h3 h4
  go_enter Tryz.func28, Tryz.ntmps28
  go_upto_region 1 with (fail)
  rw [show ((w.alloc (.cells #[.bool s1, .slice a1 n1 c1, .bool s2, .slice a2 n2 c2] 27)).alloc (.cells #[.bool s3, .slice a3 n3 c3, .bool s4, .slice a4 n4 c4] 27)).alloc (.cells #[.bool false, .slice none 0 0, .bool false, .slice none 0 0] 27) = W from HW.out.symm]
  clear HW
  have FT := Lib.hid (fun (w' : World) (hb : Below W.heap.size W w') => rfit_any s1 a1 n1 c1 o1 s2 a2 n2 c2 o2 w' w.heap.size (by have := HWS.out; have := hb.size; omega) (HR1.out.rd.below hb) (by omega) hc1 HF.out.1.1 (HR2.out.rd.below hb) (by omega) hc2 HF.out.1.2)
  rw [← HP.out.1.1, ← HP.out.1.2.1, ← HP.out.1.2.2] at FT
  have b1c0 := HB1.out.cell (i := 0) rfl
  have b1c1 := HB1.out.cell (i := 1) rfl
  have b1c2 := HB1.out.cell (i := 2) rfl
  have b1c3 := HB1.out.cell (i := 3) rfl
  have b1f := HB1.out.fz
  have b1l := HB1.out.lt
  go_wp2_with fail
  with_reducible refine (FT.out _ (Below.refl _ _)).mono ?_
  intro e w1 hh
  obtain ⟨xa, rfl, hi, hb⟩ := fracS_ex hh
  have HIxa := Lib.hid (hi.up HWS.out)
  clear b1c0 b1c1 b1c2 b1c3 b1f b1l
  clear hh hi FT
  have HB1 := Lib.hid (HB1.out.below hb HB1.out.lt)
  have HB2 := Lib.hid (HB2.out.below hb HB2.out.lt)
  have HB3 := Lib.hid (HB3.out.below hb HB3.out.lt)
  have HR1 := Lib.hid (HR1.out.below hb)
  have HR2 := Lib.hid (HR2.out.below hb)
  have HR3 := Lib.hid (HR3.out.below hb)
  have HR4 := Lib.hid (HR4.out.below hb)
  have HWS := Lib.hid (Nat.le_trans HWS.out hb.size)
  have KG := Lib.hid (KG.out.trans (hb.mono KG.out.size))
  clear hb
  have b1c0 := HB1.out.cell (i := 0) rfl
  have b1c1 := HB1.out.cell (i := 1) rfl
  have b1c2 := HB1.out.cell (i := 2) rfl
  have b1c3 := HB1.out.cell (i := 3) rfl
  have b1f := HB1.out.fz
  have b1l := HB1.out.lt
  go_upto_region 2 with (fail)
  obtain ⟨v2, hV⟩ : ∃ V, V = (((w1.setCell ⟨w.heap.size, 0, none⟩ (.bool (decide (p < 0)))).setCell ⟨w.heap.size, 1, none⟩ (.slice xa.1 (lenB p.natAbs) xa.2.1)).setCell ⟨w.heap.size, 2, none⟩ (.bool (decide (q < 0)))).setCell ⟨w.heap.size, 3, none⟩ (.slice xa.2.2.1 (lenB q.natAbs) xa.2.2.2) := ⟨_, rfl⟩
  have HB1 := Lib.hid (show Bxs v2 (w.heap.size) 27 [.bool (decide (p < 0)), .slice xa.1 (lenB p.natAbs) xa.2.1, .bool (decide (q < 0)), .slice xa.2.2.1 (lenB q.natAbs) xa.2.2.2] by rw [hV]; exact ((((HB1.out).put 0 _).put 1 _).put 2 _).put 3 _)
  have HB2 := Lib.hid (show Bxs v2 (w.heap.size + 1) 27 [.bool s3, .slice a3 n3 c3, .bool s4, .slice a4 n4 c4] by rw [hV]; exact ((((HB2.out).other (by dsimp only; omega) _).other (by dsimp only; omega) _).other (by dsimp only; omega) _).other (by dsimp only; omega) _)
  have HB3 := Lib.hid (show Bxs v2 (w.heap.size + 1 + 1) 27 [.bool false, .slice none 0 0, .bool false, .slice none 0 0] by rw [hV]; exact ((((HB3.out).other (by dsimp only; omega) _).other (by dsimp only; omega) _).other (by dsimp only; omega) _).other (by dsimp only; omega) _)
  have hsin : Sin w.heap.size (w.heap.size + 3) w1 v2 := by rw [hV]; exact ((((Sin.refl _ _ _).set (by dsimp only; omega) (by dsimp only; omega) _).set (by dsimp only; omega) (by dsimp only; omega) _).set (by dsimp only; omega) (by dsimp only; omega) _).set (by dsimp only; omega) (by dsimp only; omega) _
  have HR1 := Lib.hid (HR1.out.sin hsin)
  have HR2 := Lib.hid (HR2.out.sin hsin)
  have HR3 := Lib.hid (HR3.out.sin hsin)
  have HR4 := Lib.hid (HR4.out.sin hsin)
  have HIxa := Lib.hid (HIxa.out.sin hsin)
  clear hsin
  have KG := Lib.hid (show Below w.heap.size w v2 by rw [hV]; exact ((((KG.out).setCell (by dsimp only; omega) _).setCell (by dsimp only; omega) _).setCell (by dsimp only; omega) _).setCell (by dsimp only; omega) _)
  have HWS := Lib.hid (show w.heap.size + 3 ≤ v2.heap.size by rw [hV]; simp only [World.size_setCell]; have := HWS.out; omega)
  rw [show (((w1.setCell ⟨w.heap.size, 0, none⟩ (.bool (decide (p < 0)))).setCell ⟨w.heap.size, 1, none⟩ (.slice xa.1 (lenB p.natAbs) xa.2.1)).setCell ⟨w.heap.size, 2, none⟩ (.bool (decide (q < 0)))).setCell ⟨w.heap.size, 3, none⟩ (.slice xa.2.2.1 (lenB q.natAbs) xa.2.2.2) = v2 from hV.symm]
  clear hV
  clear b1c0 b1c1 b1c2 b1c3 b1f b1l
  have FT := Lib.hid (fun (w' : World) (hb : Below v2.heap.size v2 w') => rfit_any s3 a3 n3 c3 o3 s4 a4 n4 c4 o4 w' w.heap.size (by have := HWS.out; have := hb.size; omega) (HR3.out.rd.below hb) (by omega) hc3 HF.out.2.1 (HR4.out.rd.below hb) (by omega) hc4 HF.out.2.2)
  rw [← HP.out.2.1, ← HP.out.2.2.1, ← HP.out.2.2.2] at FT
  have b2c0 := HB2.out.cell (i := 0) rfl
  have b2c1 := HB2.out.cell (i := 1) rfl
  have b2c2 := HB2.out.cell (i := 2) rfl
  have b2c3 := HB2.out.cell (i := 3) rfl
  have b2f := HB2.out.fz
  have b2l := HB2.out.lt
  go_wp2_with fail
  with_reducible refine (FT.out _ (Below.refl _ _)).mono ?_
  intro e w3 hh
  obtain ⟨yb, rfl, hi, hb⟩ := fracS_ex hh
  have HIyb := Lib.hid (hi.up HWS.out)
  clear b2c0 b2c1 b2c2 b2c3 b2f b2l
  clear hh hi FT
  have HB1 := Lib.hid (HB1.out.below hb HB1.out.lt)
  have HB2 := Lib.hid (HB2.out.below hb HB2.out.lt)
  have HB3 := Lib.hid (HB3.out.below hb HB3.out.lt)
  have HR1 := Lib.hid (HR1.out.below hb)
  have HR2 := Lib.hid (HR2.out.below hb)
  have HR3 := Lib.hid (HR3.out.below hb)
  have HR4 := Lib.hid (HR4.out.below hb)
  have HIxa := Lib.hid (HIxa.out.below hb)
  have HWS := Lib.hid (Nat.le_trans HWS.out hb.size)
  have KG := Lib.hid (KG.out.trans (hb.mono KG.out.size))
  clear hb
  have b2c0 := HB2.out.cell (i := 0) rfl
  have b2c1 := HB2.out.cell (i := 1) rfl
  have b2c2 := HB2.out.cell (i := 2) rfl
  have b2c3 := HB2.out.cell (i := 3) rfl
  have b2f := HB2.out.fz
  have b2l := HB2.out.lt
  go_upto_region 3 with (fail)
  obtain ⟨v4, hV⟩ : ∃ V, V = (((w3.setCell ⟨w.heap.size + 1, 0, none⟩ (.bool (decide (r < 0)))).setCell ⟨w.heap.size + 1, 1, none⟩ (.slice yb.1 (lenB r.natAbs) yb.2.1)).setCell ⟨w.heap.size + 1, 2, none⟩ (.bool (decide (t < 0)))).setCell ⟨w.heap.size + 1, 3, none⟩ (.slice yb.2.2.1 (lenB t.natAbs) yb.2.2.2) := ⟨_, rfl⟩
  have HB1 := Lib.hid (show Bxs v4 (w.heap.size) 27 [.bool (decide (p < 0)), .slice xa.1 (lenB p.natAbs) xa.2.1, .bool (decide (q < 0)), .slice xa.2.2.1 (lenB q.natAbs) xa.2.2.2] by rw [hV]; exact ((((HB1.out).other (by dsimp only; omega) _).other (by dsimp only; omega) _).other (by dsimp only; omega) _).other (by dsimp only; omega) _)
  have HB2 := Lib.hid (show Bxs v4 (w.heap.size + 1) 27 [.bool (decide (r < 0)), .slice yb.1 (lenB r.natAbs) yb.2.1, .bool (decide (t < 0)), .slice yb.2.2.1 (lenB t.natAbs) yb.2.2.2] by rw [hV]; exact ((((HB2.out).put 0 _).put 1 _).put 2 _).put 3 _)
  have HB3 := Lib.hid (show Bxs v4 (w.heap.size + 1 + 1) 27 [.bool false, .slice none 0 0, .bool false, .slice none 0 0] by rw [hV]; exact ((((HB3.out).other (by dsimp only; omega) _).other (by dsimp only; omega) _).other (by dsimp only; omega) _).other (by dsimp only; omega) _)
  have hsin : Sin w.heap.size (w.heap.size + 3) w3 v4 := by rw [hV]; exact ((((Sin.refl _ _ _).set (by dsimp only; omega) (by dsimp only; omega) _).set (by dsimp only; omega) (by dsimp only; omega) _).set (by dsimp only; omega) (by dsimp only; omega) _).set (by dsimp only; omega) (by dsimp only; omega) _
  have HR1 := Lib.hid (HR1.out.sin hsin)
  have HR2 := Lib.hid (HR2.out.sin hsin)
  have HR3 := Lib.hid (HR3.out.sin hsin)
  have HR4 := Lib.hid (HR4.out.sin hsin)
  have HIxa := Lib.hid (HIxa.out.sin hsin)
  have HIyb := Lib.hid (HIyb.out.sin hsin)
  clear hsin
  have KG := Lib.hid (show Below w.heap.size w v4 by rw [hV]; exact ((((KG.out).setCell (by dsimp only; omega) _).setCell (by dsimp only; omega) _).setCell (by dsimp only; omega) _).setCell (by dsimp only; omega) _)
  have HWS := Lib.hid (show w.heap.size + 3 ≤ v4.heap.size by rw [hV]; simp only [World.size_setCell]; have := HWS.out; omega)
  rw [show (((w3.setCell ⟨w.heap.size + 1, 0, none⟩ (.bool (decide (r < 0)))).setCell ⟨w.heap.size + 1, 1, none⟩ (.slice yb.1 (lenB r.natAbs) yb.2.1)).setCell ⟨w.heap.size + 1, 2, none⟩ (.bool (decide (t < 0)))).setCell ⟨w.heap.size + 1, 3, none⟩ (.slice yb.2.2.1 (lenB t.natAbs) yb.2.2.2) = v4 from hV.symm]
  clear hV
  clear b2c0 b2c1 b2c2 b2c3 b2f b2l
  clear HR1 HR2 HR3 HR4
  have MA := Lib.hid (fun (w' : World) (hb : Below v4.heap.size v4 w') => rmul_any (decide (p < 0)) xa.1 (lenB p.natAbs) xa.2.1 (dgi p.natAbs) (decide (r < 0)) yb.1 (lenB r.natAbs) yb.2.1 (dgi r.natAbs) w' (HIxa.out.r1.rd.below hb) (by have := HL.out; omega) HIxa.out.c1 (HIyb.out.r1.rd.below hb) (by have := HL.out; omega) HIyb.out.c1)
  rw [canon_val, canon_val, ← HE.out.1] at MA
  have MB := Lib.hid (fun (w' : World) (hb : Below v4.heap.size v4 w') => rmul_any (decide (q < 0)) xa.2.2.1 (lenB q.natAbs) xa.2.2.2 (dgi q.natAbs) (decide (t < 0)) yb.2.2.1 (lenB t.natAbs) yb.2.2.2 (dgi t.natAbs) w' (HIxa.out.r2.rd.below hb) (by have := HL.out; omega) HIxa.out.c2 (HIyb.out.r2.rd.below hb) (by have := HL.out; omega) HIyb.out.c2)
  rw [canon_val, canon_val, ← HE.out.2] at MB
  have HS := Lib.hid (fun (w' : World) (hb : Below v4.heap.size v4 w') => And.intro (frac_box (HB1.out.below hb HB1.out.lt)) ((frac_box (HB2.out.below hb HB2.out.lt))))
  refine wp_region_fresh 10 (spOf [(4, Sp.made (fun x : Option Addr × Nat => numV (decide (T1 < 0)) x.1 (lenB T1.natAbs) x.2) (fun x w' => Own 74 w' v4.heap.size x.1 (lenB T1.natAbs) x.2 (dgi T1.natAbs))), (9, Sp.made (fun x : Option Addr × Nat => numV (decide (Lw < 0)) x.1 (lenB Lw.natAbs) x.2) (fun x w' => Own 74 w' v4.heap.size x.1 (lenB Lw.natAbs) x.2 (dgi Lw.natAbs)))]) (fun w' => Below v4.heap.size v4 w') (by kernel_rfl) (by kernel_rfl)
    (spOf_cons (Sp.made_keeps fun x w w' h hb => h.below hb) (spOf_cons (Sp.made_keeps fun x w w' h hb => h.below hb) (spOf_nil))) (fun _ _ h hb => h.trans (hb.mono h.size)) ((Below.refl _ _).drew) ?_
  simp only [List.take_succ_cons, List.take_zero, List.drop_succ_cons, List.drop_zero]
  (refine wpF_reads rfl rfl ?_ (fun w' hw' => ?_) ?_; rotate_left; · (have hb' := Has.world hw'; (skip); clear hw'; go_simp; try rfl))
  conv => arg 9; simp only [Act.put, List.setIfInBounds_toArray, List.set_cons_succ, List.set_cons_zero]
  (refine wpF_reads rfl rfl ?_ (fun w' hw' => ?_) ?_; rotate_left; · (have hb' := Has.world hw'; (obtain ⟨k0, k1, k2, k3, k4, k5⟩ := (HS.out _ hb').1); clear hw'; go_simp; try rfl))
  conv => arg 9; simp only [Act.put, List.setIfInBounds_toArray, List.set_cons_succ, List.set_cons_zero]
  (refine wpF_reads rfl rfl ?_ (fun w' hw' => ?_) ?_; rotate_left; · (have hb' := Has.world hw'; (skip); clear hw'; go_simp; try rfl))
  conv => arg 9; simp only [Act.put, List.setIfInBounds_toArray, List.set_cons_succ, List.set_cons_zero]
  (refine wpF_reads rfl rfl ?_ (fun w' hw' => ?_) ?_; rotate_left; · (have hb' := Has.world hw'; (obtain ⟨k0, k1, k2, k3, k4, k5⟩ := (HS.out _ hb').2); clear hw'; go_simp; try rfl))
  conv => arg 9; simp only [Act.put, List.setIfInBounds_toArray, List.set_cons_succ, List.set_cons_zero]
  (refine wpF_spec rfl rfl (fun w' hw' => ?_) ?_; · (have hb' := Has.world hw'; go_simp; ((refine (MA.out w' hb').mono ?_; rintro e w'' ⟨za, zb, rfl, ho, hb⟩; exact ⟨_, rfl, ⟨⟨za, zb, rfl⟩, ⟨za, zb, rfl, ho.mono hb'.size⟩⟩, hb⟩))))
  rintro _ ⟨y4, rfl⟩
  conv => arg 9; simp only [Act.put, List.setIfInBounds_toArray, List.set_cons_succ, List.set_cons_zero]
  (refine wpF_reads rfl rfl ?_ (fun w' hw' => ?_) ?_; rotate_left; · (have hb' := Has.world hw'; (skip); clear hw'; go_simp; try rfl))
  conv => arg 9; simp only [Act.put, List.setIfInBounds_toArray, List.set_cons_succ, List.set_cons_zero]
  (refine wpF_reads rfl rfl ?_ (fun w' hw' => ?_) ?_; rotate_left; · (have hb' := Has.world hw'; (obtain ⟨k0, k1, k2, k3, k4, k5⟩ := (HS.out _ hb').1); clear hw'; go_simp; try rfl))
  conv => arg 9; simp only [Act.put, List.setIfInBounds_toArray, List.set_cons_succ, List.set_cons_zero]
  (refine wpF_reads rfl rfl ?_ (fun w' hw' => ?_) ?_; rotate_left; · (have hb' := Has.world hw'; (skip); clear hw'; go_simp; try rfl))
  conv => arg 9; simp only [Act.put, List.setIfInBounds_toArray, List.set_cons_succ, List.set_cons_zero]
  (refine wpF_reads rfl rfl ?_ (fun w' hw' => ?_) ?_; rotate_left; · (have hb' := Has.world hw'; (obtain ⟨k0, k1, k2, k3, k4, k5⟩ := (HS.out _ hb').2); clear hw'; go_simp; try rfl))
  conv => arg 9; simp only [Act.put, List.setIfInBounds_toArray, List.set_cons_succ, List.set_cons_zero]
  (refine wpF_spec rfl rfl (fun w' hw' => ?_) ?_; · (have hb' := Has.world hw'; go_simp; ((refine (MB.out w' hb').mono ?_; rintro e w'' ⟨za, zb, rfl, ho, hb⟩; exact ⟨_, rfl, ⟨⟨za, zb, rfl⟩, ⟨za, zb, rfl, ho.mono hb'.size⟩⟩, hb⟩))))
  rintro _ ⟨y9, rfl⟩
  conv => arg 9; simp only [Act.put, List.setIfInBounds_toArray, List.set_cons_succ, List.set_cons_zero]
  refine wpF_nil (fun w5 hb hF => ?_)
  have HO4 := Lib.hid (Own.mono (own_numc (T := 74) (x := y4) (b := v4.heap.size) (s := decide (T1 < 0)) (L := lenB T1.natAbs) (o := dgi T1.natAbs) (hF 4)) HWS.out)
  have HO9 := Lib.hid (Own.mono (own_numc (T := 74) (x := y9) (b := v4.heap.size) (s := decide (Lw < 0)) (L := lenB Lw.natAbs) (o := dgi Lw.natAbs) (hF 9)) HWS.out)
  clear hF HS
  have HB1 := Lib.hid (HB1.out.below hb HB1.out.lt)
  have HB2 := Lib.hid (HB2.out.below hb HB2.out.lt)
  have HB3 := Lib.hid (HB3.out.below hb HB3.out.lt)
  have HIxa := Lib.hid (HIxa.out.below hb)
  have HIyb := Lib.hid (HIyb.out.below hb)
  have HWS := Lib.hid (Nat.le_trans HWS.out hb.size)
  have KG := Lib.hid (KG.out.trans (hb.mono KG.out.size))
  clear hb
  clear MA MB
  have LO := Lib.hid (fun (w' : World) (hb : Below w5.heap.size w5 w') => rlowest_any T1 Lw y4.1 y9.1 y4.2 y9.2 w' (HO4.out.rd.below hb) (by have := HM.out; omega) HO4.out.le (HO9.out.rd.below hb) (by have := HM.out; omega) HO9.out.le HZ.out.2)
  rw [HZ.out.1, ← HZE.out.1, ← HZE.out.2] at LO
  have b3c0 := HB3.out.cell (i := 0) rfl
  have b3c1 := HB3.out.cell (i := 1) rfl
  have b3c2 := HB3.out.cell (i := 2) rfl
  have b3c3 := HB3.out.cell (i := 3) rfl
  have b3f := HB3.out.fz
  have b3l := HB3.out.lt
  go_wp2_with fail
  with_reducible refine (LO.out _ (Below.refl _ _)).mono ?_
  rintro e w6 ⟨r1, e1, r2, e2, rfl, ho1, ho2, hb⟩
  have HQ1 := Lib.hid (ho1.mono HWS.out)
  have HQ2 := Lib.hid (ho2.mono HWS.out)
  clear ho1 ho2
  clear b3c0 b3c1 b3c2 b3c3 b3f b3l
  have HB1 := Lib.hid (HB1.out.below hb HB1.out.lt)
  have HB2 := Lib.hid (HB2.out.below hb HB2.out.lt)
  have HB3 := Lib.hid (HB3.out.below hb HB3.out.lt)
  have HIxa := Lib.hid (HIxa.out.below hb)
  have HIyb := Lib.hid (HIyb.out.below hb)
  have HO4 := Lib.hid (HO4.out.below hb)
  have HO9 := Lib.hid (HO9.out.below hb)
  have HWS := Lib.hid (Nat.le_trans HWS.out hb.size)
  have KG := Lib.hid (KG.out.trans (hb.mono KG.out.size))
  clear hb
  clear LO
  have b3c0 := HB3.out.cell (i := 0) rfl
  have b3c1 := HB3.out.cell (i := 1) rfl
  have b3c2 := HB3.out.cell (i := 2) rfl
  have b3c3 := HB3.out.cell (i := 3) rfl
  have b3f := HB3.out.fz
  have b3l := HB3.out.lt
  go_wp2_with fail
  have hws := HWS.out
  refine bodyPost_ret (results_cell rfl _ _ _ _ _ _ _ rfl (((((HB3.out).put 0 _).put 1 _).put 2 _).put 3 _) Tryz.underlying27 rfl (by kernel_rfl)) rfl ?_
  refine ⟨r1, e1, r2, e2, rfl, ?_, ?_, ?_⟩
  · exact (((((HQ1.out).other (by dsimp only; omega) _).other (by dsimp only; omega) _).other (by dsimp only; omega) _).other (by dsimp only; omega) _).mono (by omega)
  · exact (((((HQ2.out).other (by dsimp only; omega) _).other (by dsimp only; omega) _).other (by dsimp only; omega) _).other (by dsimp only; omega) _).mono (by omega)
  · exact ((((KG.out).setCell (by dsimp only; omega) _).setCell (by dsimp only; omega) _).setCell (by dsimp only; omega) _).setCell (by dsimp only; omega) _

open Classical in
set_option maxRecDepth 100000 in
set_option maxHeartbeats 4000000 in
theorem rfcmp_any (s1 : Bool) (a1 : Option Addr) (n1 c1 : Nat) (o1 : Nat → Int) (s2 : Bool) (a2 : Option Addr) (n2 c2 : Nat) (o2 : Nat → Int) (s3 : Bool) (a3 : Option Addr) (n3 c3 : Nat) (o3 : Nat → Int) (s4 : Bool) (a4 : Option Addr) (n4 c4 : Nat) (o4 : Nat → Int) (w : World) (x y : Rat) (hx : x = valF s1 n1 o1 s2 n2 o2) (hy : y = valF s3 n3 o3 s4 n4 o4) (h1 : Rd w a1 n1 o1) (hn1 : n1 ≤ 1000000) (hc1 : n1 ≤ c1) (h2 : Rd w a2 n2 o2) (hn2 : n2 ≤ 1000000) (hc2 : n2 ≤ c2) (h3 : Rd w a3 n3 o3) (hn3 : n3 ≤ 1000000) (hc3 : n3 ≤ c3) (h4 : Rd w a4 n4 o4) (hn4 : n4 ≤ 1000000) (hc4 : n4 ≤ c4) :
    Calls Tryz.prog 23 #[fracV s1 a1 n1 c1 s2 a2 n2 c2, fracV s3 a3 n3 c3 s4 a4 n4 c4] w fun e w' => e = .returned (.int .i64 (cmpZ (x.num * (y.den : Int)) (y.num * (x.den : Int)))) ∧ Below w.heap.size w w' := by
  have hfar : ∀ {a : Option Addr} {n : Nat} {o : Nat → Int}, Rd w a n o → 0 < n → ∀ p, a = some p → p.block < w.heap.size := fun h h0 p hp => by
    obtain ⟨b, off, e, hc⟩ := h.cells h0
    rw [e] at hp; cases hp
    exact block_lt_of_cell (hc 0 h0)
  have l1 := valF_len (s1 := s1) (s2 := s2) h1.rng h2.rng
  rw [← hx] at l1
  have l2 := valF_len (s1 := s3) (s2 := s4) h3.rng h4.rng
  rw [← hy] at l2
  obtain ⟨p, hp⟩ : ∃ p, p = x.num := ⟨_, rfl⟩
  obtain ⟨q, hq⟩ : ∃ q : Int, q = (x.den : Int) := ⟨_, rfl⟩
  rw [← hp, ← hq] at l1
  obtain ⟨r, hr⟩ : ∃ r, r = y.num := ⟨_, rfl⟩
  obtain ⟨t, ht⟩ : ∃ t : Int, t = (y.den : Int) := ⟨_, rfl⟩
  rw [← hr, ← ht] at l2
  have HL := Lib.hid (show (lenB p.natAbs ≤ 1000001 ∧ lenB q.natAbs ≤ 1000001) ∧ lenB r.natAbs ≤ 1000001 ∧ lenB t.natAbs ≤ 1000001 by omega)
  have HP := Lib.hid (And.intro (And.intro hx (And.intro hp hq)) (And.intro hy (And.intro hr ht)))
  have HF := Lib.hid (And.intro (And.intro (hfar h1) (hfar h2)) (And.intro (hfar h3) (hfar h4)))
  have hl1 := lenB_mul_le p.natAbs t.natAbs
  have hl2 := lenB_mul_le r.natAbs q.natAbs
  have hl3 := lenB_mul_le q.natAbs t.natAbs
  have hl4 := lenB_mul_le p.natAbs r.natAbs
  rw [← Int.natAbs_mul] at hl1 hl2 hl3 hl4

  obtain ⟨T1, hT1⟩ : ∃ T1, T1 = p * t := ⟨_, rfl⟩
  obtain ⟨T2, hT2⟩ : ∃ T2, T2 = r * q := ⟨_, rfl⟩
  have HE := Lib.hid (And.intro hT1 hT2)
  rw [← hT1] at hl1
  rw [← hT2] at hl2
  have HM := Lib.hid (show lenB T1.natAbs ≤ 2000002 ∧ lenB T2.natAbs ≤ 2000002 by omega)
  rw [← hp, ← hq, ← hr, ← ht, ← hT1, ← hT2]
  clear hT1 hT2 hl1 hl2 hl3 hl4
  have HB1 := Lib.hid ((Bxs.new (w) 27 [.bool s1, .slice a1 n1 c1, .bool s2, .slice a2 n2 c2]).alloc (.cells #[.bool s3, .slice a3 n3 c3, .bool s4, .slice a4 n4 c4] 27))
  have HB2 := Lib.hid (Bxs.new (w.alloc (.cells #[.bool s1, .slice a1 n1 c1, .bool s2, .slice a2 n2 c2] 27)) 27 [.bool s3, .slice a3 n3 c3, .bool s4, .slice a4 n4 c4])
  obtain ⟨W, hW⟩ : ∃ W, W = (w.alloc (.cells #[.bool s1, .slice a1 n1 c1, .bool s2, .slice a2 n2 c2] 27)).alloc (.cells #[.bool s3, .slice a3 n3 c3, .bool s4, .slice a4 n4 c4] 27) := ⟨_, rfl⟩
  have KG := Lib.hid (show Below w.heap.size w W by rw [hW]; exact ((Below.refl _ _).alloc (Nat.le_refl _) _).alloc (by go_size) _)
  have HWS := Lib.hid (show w.heap.size + 2 ≤ W.heap.size by rw [hW]; simp only [World.size_alloc]; omega)
  have HB1 := Lib.hid (show Bxs W (w.heap.size) 27 [.bool s1, .slice a1 n1 c1, .bool s2, .slice a2 n2 c2] by have h := HB1.out; rw [hW]; exact h)
  have HB2 := Lib.hid (show Bxs W (w.heap.size + 1) 27 [.bool s3, .slice a3 n3 c3, .bool s4, .slice a4 n4 c4] by have h := HB2.out; simp only [World.size_alloc] at h; rw [hW]; exact h)
  have HW := Lib.hid hW
  clear hW
  have HR1 := Lib.hid (show RdS W w.heap.size (w.heap.size + 2) a1 n1 o1 from ⟨h1.below KG.out, fun h0 p hp => Or.inl (hfar h1 h0 p hp)⟩)
  have HR2 := Lib.hid (show RdS W w.heap.size (w.heap.size + 2) a2 n2 o2 from ⟨h2.below KG.out, fun h0 p hp => Or.inl (hfar h2 h0 p hp)⟩)
  have HR3 := Lib.hid (show RdS W w.heap.size (w.heap.size + 2) a3 n3 o3 from ⟨h3.below KG.out, fun h0 p hp => Or.inl (hfar h3 h0 p hp)⟩)
  have HR4 := Lib.hid (show RdS W w.heap.size (w.heap.size + 2) a4 n4 o4 from ⟨h4.below KG.out, fun h0 p hp => Or.inl (hfar h4 h0 p hp)⟩)
  clear hx hp hq l1 h1 h2 hfar hy hr ht l2 h3 h4
  go_enter Tryz.func23, Tryz.ntmps23
  go_upto_region 1 with (fail)
  rw [show (w.alloc (.cells #[.bool s1, .slice a1 n1 c1, .bool s2, .slice a2 n2 c2] 27)).alloc (.cells #[.bool s3, .slice a3 n3 c3, .bool s4, .slice a4 n4 c4] 27) = W from HW.out.symm]
  clear HW
  have FT := Lib.hid (fun (w' : World) (hb : Below W.heap.size W w') => rfit_any s1 a1 n1 c1 o1 s2 a2 n2 c2 o2 w' w.heap.size (by have := HWS.out; have := hb.size; omega) (HR1.out.rd.below hb) (by omega) hc1 HF.out.1.1 (HR2.out.rd.below hb) (by omega) hc2 HF.out.1.2)
  rw [← HP.out.1.1, ← HP.out.1.2.1, ← HP.out.1.2.2] at FT
  have b1c0 := HB1.out.cell (i := 0) rfl
  have b1c1 := HB1.out.cell (i := 1) rfl
  have b1c2 := HB1.out.cell (i := 2) rfl
  have b1c3 := HB1.out.cell (i := 3) rfl
  have b1f := HB1.out.fz
  have b1l := HB1.out.lt
  go_wp2_with fail
  with_reducible refine (FT.out _ (Below.refl _ _)).mono ?_
  intro e w1 hh
  obtain ⟨xa, rfl, hi, hb⟩ := fracS_ex hh
  have HIxa := Lib.hid (hi.up HWS.out)
  clear b1c0 b1c1 b1c2 b1c3 b1f b1l
  clear hh hi FT
  have HB1 := Lib.hid (HB1.out.below hb HB1.out.lt)
  have HB2 := Lib.hid (HB2.out.below hb HB2.out.lt)
  have HR1 := Lib.hid (HR1.out.below hb)
  have HR2 := Lib.hid (HR2.out.below hb)
  have HR3 := Lib.hid (HR3.out.below hb)
  have HR4 := Lib.hid (HR4.out.below hb)
  have HWS := Lib.hid (Nat.le_trans HWS.out hb.size)
  have KG := Lib.hid (KG.out.trans (hb.mono KG.out.size))
  clear hb
  have b1c0 := HB1.out.cell (i := 0) rfl
  have b1c1 := HB1.out.cell (i := 1) rfl
  have b1c2 := HB1.out.cell (i := 2) rfl
  have b1c3 := HB1.out.cell (i := 3) rfl
  have b1f := HB1.out.fz
  have b1l := HB1.out.lt
  go_upto_region 2 with (fail)
  obtain ⟨v2, hV⟩ : ∃ V, V = (((w1.setCell ⟨w.heap.size, 0, none⟩ (.bool (decide (p < 0)))).setCell ⟨w.heap.size, 1, none⟩ (.slice xa.1 (lenB p.natAbs) xa.2.1)).setCell ⟨w.heap.size, 2, none⟩ (.bool (decide (q < 0)))).setCell ⟨w.heap.size, 3, none⟩ (.slice xa.2.2.1 (lenB q.natAbs) xa.2.2.2) := ⟨_, rfl⟩
  have HB1 := Lib.hid (show Bxs v2 (w.heap.size) 27 [.bool (decide (p < 0)), .slice xa.1 (lenB p.natAbs) xa.2.1, .bool (decide (q < 0)), .slice xa.2.2.1 (lenB q.natAbs) xa.2.2.2] by rw [hV]; exact ((((HB1.out).put 0 _).put 1 _).put 2 _).put 3 _)
  have HB2 := Lib.hid (show Bxs v2 (w.heap.size + 1) 27 [.bool s3, .slice a3 n3 c3, .bool s4, .slice a4 n4 c4] by rw [hV]; exact ((((HB2.out).other (by dsimp only; omega) _).other (by dsimp only; omega) _).other (by dsimp only; omega) _).other (by dsimp only; omega) _)
  have hsin : Sin w.heap.size (w.heap.size + 2) w1 v2 := by rw [hV]; exact ((((Sin.refl _ _ _).set (by dsimp only; omega) (by dsimp only; omega) _).set (by dsimp only; omega) (by dsimp only; omega) _).set (by dsimp only; omega) (by dsimp only; omega) _).set (by dsimp only; omega) (by dsimp only; omega) _
  have HR1 := Lib.hid (HR1.out.sin hsin)
  have HR2 := Lib.hid (HR2.out.sin hsin)
  have HR3 := Lib.hid (HR3.out.sin hsin)
  have HR4 := Lib.hid (HR4.out.sin hsin)
  have HIxa := Lib.hid (HIxa.out.sin hsin)
  clear hsin
  have KG := Lib.hid (show Below w.heap.size w v2 by rw [hV]; exact ((((KG.out).setCell (by dsimp only; omega) _).setCell (by dsimp only; omega) _).setCell (by dsimp only; omega) _).setCell (by dsimp only; omega) _)
  have HWS := Lib.hid (show w.heap.size + 2 ≤ v2.heap.size by rw [hV]; simp only [World.size_setCell]; have := HWS.out; omega)
  rw [show (((w1.setCell ⟨w.heap.size, 0, none⟩ (.bool (decide (p < 0)))).setCell ⟨w.heap.size, 1, none⟩ (.slice xa.1 (lenB p.natAbs) xa.2.1)).setCell ⟨w.heap.size, 2, none⟩ (.bool (decide (q < 0)))).setCell ⟨w.heap.size, 3, none⟩ (.slice xa.2.2.1 (lenB q.natAbs) xa.2.2.2) = v2 from hV.symm]
  clear hV
  clear b1c0 b1c1 b1c2 b1c3 b1f b1l
  have FT := Lib.hid (fun (w' : World) (hb : Below v2.heap.size v2 w') => rfit_any s3 a3 n3 c3 o3 s4 a4 n4 c4 o4 w' w.heap.size (by have := HWS.out; have := hb.size; omega) (HR3.out.rd.below hb) (by omega) hc3 HF.out.2.1 (HR4.out.rd.below hb) (by omega) hc4 HF.out.2.2)
  rw [← HP.out.2.1, ← HP.out.2.2.1, ← HP.out.2.2.2] at FT
  have b2c0 := HB2.out.cell (i := 0) rfl
  have b2c1 := HB2.out.cell (i := 1) rfl
  have b2c2 := HB2.out.cell (i := 2) rfl
  have b2c3 := HB2.out.cell (i := 3) rfl
  have b2f := HB2.out.fz
  have b2l := HB2.out.lt
  go_wp2_with fail
  with_reducible refine (FT.out _ (Below.refl _ _)).mono ?_
  intro e w3 hh
  obtain ⟨yb, rfl, hi, hb⟩ := fracS_ex hh
  have HIyb := Lib.hid (hi.up HWS.out)
  clear b2c0 b2c1 b2c2 b2c3 b2f b2l
  clear hh hi FT
  have HB1 := Lib.hid (HB1.out.below hb HB1.out.lt)
  have HB2 := Lib.hid (HB2.out.below hb HB2.out.lt)
  have HR1 := Lib.hid (HR1.out.below hb)
  have HR2 := Lib.hid (HR2.out.below hb)
  have HR3 := Lib.hid (HR3.out.below hb)
  have HR4 := Lib.hid (HR4.out.below hb)
  have HIxa := Lib.hid (HIxa.out.below hb)
  have HWS := Lib.hid (Nat.le_trans HWS.out hb.size)
  have KG := Lib.hid (KG.out.trans (hb.mono KG.out.size))
  clear hb
  have b2c0 := HB2.out.cell (i := 0) rfl
  have b2c1 := HB2.out.cell (i := 1) rfl
  have b2c2 := HB2.out.cell (i := 2) rfl
  have b2c3 := HB2.out.cell (i := 3) rfl
  have b2f := HB2.out.fz
  have b2l := HB2.out.lt
  go_upto_region 3 with (fail)
  obtain ⟨v4, hV⟩ : ∃ V, V = (((w3.setCell ⟨w.heap.size + 1, 0, none⟩ (.bool (decide (r < 0)))).setCell ⟨w.heap.size + 1, 1, none⟩ (.slice yb.1 (lenB r.natAbs) yb.2.1)).setCell ⟨w.heap.size + 1, 2, none⟩ (.bool (decide (t < 0)))).setCell ⟨w.heap.size + 1, 3, none⟩ (.slice yb.2.2.1 (lenB t.natAbs) yb.2.2.2) := ⟨_, rfl⟩
  have HB1 := Lib.hid (show Bxs v4 (w.heap.size) 27 [.bool (decide (p < 0)), .slice xa.1 (lenB p.natAbs) xa.2.1, .bool (decide (q < 0)), .slice xa.2.2.1 (lenB q.natAbs) xa.2.2.2] by rw [hV]; exact ((((HB1.out).other (by dsimp only; omega) _).other (by dsimp only; omega) _).other (by dsimp only; omega) _).other (by dsimp only; omega) _)
  have HB2 := Lib.hid (show Bxs v4 (w.heap.size + 1) 27 [.bool (decide (r < 0)), .slice yb.1 (lenB r.natAbs) yb.2.1, .bool (decide (t < 0)), .slice yb.2.2.1 (lenB t.natAbs) yb.2.2.2] by rw [hV]; exact ((((HB2.out).put 0 _).put 1 _).put 2 _).put 3 _)
  have hsin : Sin w.heap.size (w.heap.size + 2) w3 v4 := by rw [hV]; exact ((((Sin.refl _ _ _).set (by dsimp only; omega) (by dsimp only; omega) _).set (by dsimp only; omega) (by dsimp only; omega) _).set (by dsimp only; omega) (by dsimp only; omega) _).set (by dsimp only; omega) (by dsimp only; omega) _
  have HR1 := Lib.hid (HR1.out.sin hsin)
  have HR2 := Lib.hid (HR2.out.sin hsin)
  have HR3 := Lib.hid (HR3.out.sin hsin)
  have HR4 := Lib.hid (HR4.out.sin hsin)
  have HIxa := Lib.hid (HIxa.out.sin hsin)
  have HIyb := Lib.hid (HIyb.out.sin hsin)
  clear hsin
  have KG := Lib.hid (show Below w.heap.size w v4 by rw [hV]; exact ((((KG.out).setCell (by dsimp only; omega) _).setCell (by dsimp only; omega) _).setCell (by dsimp only; omega) _).setCell (by dsimp only; omega) _)
  have HWS := Lib.hid (show w.heap.size + 2 ≤ v4.heap.size by rw [hV]; simp only [World.size_setCell]; have := HWS.out; omega)
  rw [show (((w3.setCell ⟨w.heap.size + 1, 0, none⟩ (.bool (decide (r < 0)))).setCell ⟨w.heap.size + 1, 1, none⟩ (.slice yb.1 (lenB r.natAbs) yb.2.1)).setCell ⟨w.heap.size + 1, 2, none⟩ (.bool (decide (t < 0)))).setCell ⟨w.heap.size + 1, 3, none⟩ (.slice yb.2.2.1 (lenB t.natAbs) yb.2.2.2) = v4 from hV.symm]
  clear hV
  clear b2c0 b2c1 b2c2 b2c3 b2f b2l
  clear HR1 HR2 HR3 HR4
  have MA := Lib.hid (fun (w' : World) (hb : Below v4.heap.size v4 w') => rmul_any (decide (p < 0)) xa.1 (lenB p.natAbs) xa.2.1 (dgi p.natAbs) (decide (t < 0)) yb.2.2.1 (lenB t.natAbs) yb.2.2.2 (dgi t.natAbs) w' (HIxa.out.r1.rd.below hb) (by have := HL.out; omega) HIxa.out.c1 (HIyb.out.r2.rd.below hb) (by have := HL.out; omega) HIyb.out.c2)
  rw [canon_val, canon_val, ← HE.out.1] at MA
  have MB := Lib.hid (fun (w' : World) (hb : Below v4.heap.size v4 w') => rmul_any (decide (r < 0)) yb.1 (lenB r.natAbs) yb.2.1 (dgi r.natAbs) (decide (q < 0)) xa.2.2.1 (lenB q.natAbs) xa.2.2.2 (dgi q.natAbs) w' (HIyb.out.r1.rd.below hb) (by have := HL.out; omega) HIyb.out.c1 (HIxa.out.r2.rd.below hb) (by have := HL.out; omega) HIxa.out.c2)
  rw [canon_val, canon_val, ← HE.out.2] at MB
  have HS := Lib.hid (fun (w' : World) (hb : Below v4.heap.size v4 w') => And.intro (frac_box (HB1.out.below hb HB1.out.lt)) ((frac_box (HB2.out.below hb HB2.out.lt))))
  refine wp_region_fresh 10 (spOf [(4, Sp.made (fun x : Option Addr × Nat => numV (decide (T1 < 0)) x.1 (lenB T1.natAbs) x.2) (fun x w' => Own 74 w' v4.heap.size x.1 (lenB T1.natAbs) x.2 (dgi T1.natAbs))), (9, Sp.made (fun x : Option Addr × Nat => numV (decide (T2 < 0)) x.1 (lenB T2.natAbs) x.2) (fun x w' => Own 74 w' v4.heap.size x.1 (lenB T2.natAbs) x.2 (dgi T2.natAbs)))]) (fun w' => Below v4.heap.size v4 w') (by kernel_rfl) (by kernel_rfl)
    (spOf_cons (Sp.made_keeps fun x w w' h hb => h.below hb) (spOf_cons (Sp.made_keeps fun x w w' h hb => h.below hb) (spOf_nil))) (fun _ _ h hb => h.trans (hb.mono h.size)) ((Below.refl _ _).drew) ?_
  simp only [List.take_succ_cons, List.take_zero, List.drop_succ_cons, List.drop_zero]
  (refine wpF_reads rfl rfl ?_ (fun w' hw' => ?_) ?_; rotate_left; · (have hb' := Has.world hw'; (skip); clear hw'; go_simp; try rfl))
  conv => arg 9; simp only [Act.put, List.setIfInBounds_toArray, List.set_cons_succ, List.set_cons_zero]
  (refine wpF_reads rfl rfl ?_ (fun w' hw' => ?_) ?_; rotate_left; · (have hb' := Has.world hw'; (obtain ⟨k0, k1, k2, k3, k4, k5⟩ := (HS.out _ hb').1); clear hw'; go_simp; try rfl))
  conv => arg 9; simp only [Act.put, List.setIfInBounds_toArray, List.set_cons_succ, List.set_cons_zero]
  (refine wpF_reads rfl rfl ?_ (fun w' hw' => ?_) ?_; rotate_left; · (have hb' := Has.world hw'; (skip); clear hw'; go_simp; try rfl))
  conv => arg 9; simp only [Act.put, List.setIfInBounds_toArray, List.set_cons_succ, List.set_cons_zero]
  (refine wpF_reads rfl rfl ?_ (fun w' hw' => ?_) ?_; rotate_left; · (have hb' := Has.world hw'; (obtain ⟨k0, k1, k2, k3, k4, k5⟩ := (HS.out _ hb').2); clear hw'; go_simp; try rfl))
  conv => arg 9; simp only [Act.put, List.setIfInBounds_toArray, List.set_cons_succ, List.set_cons_zero]
  (refine wpF_spec rfl rfl (fun w' hw' => ?_) ?_; · (have hb' := Has.world hw'; go_simp; ((refine (MA.out w' hb').mono ?_; rintro e w'' ⟨za, zb, rfl, ho, hb⟩; exact ⟨_, rfl, ⟨⟨za, zb, rfl⟩, ⟨za, zb, rfl, ho.mono hb'.size⟩⟩, hb⟩))))
  rintro _ ⟨y4, rfl⟩
  conv => arg 9; simp only [Act.put, List.setIfInBounds_toArray, List.set_cons_succ, List.set_cons_zero]
  (refine wpF_reads rfl rfl ?_ (fun w' hw' => ?_) ?_; rotate_left; · (have hb' := Has.world hw'; (skip); clear hw'; go_simp; try rfl))
  conv => arg 9; simp only [Act.put, List.setIfInBounds_toArray, List.set_cons_succ, List.set_cons_zero]
  (refine wpF_reads rfl rfl ?_ (fun w' hw' => ?_) ?_; rotate_left; · (have hb' := Has.world hw'; (obtain ⟨k0, k1, k2, k3, k4, k5⟩ := (HS.out _ hb').2); clear hw'; go_simp; try rfl))
  conv => arg 9; simp only [Act.put, List.setIfInBounds_toArray, List.set_cons_succ, List.set_cons_zero]
  (refine wpF_reads rfl rfl ?_ (fun w' hw' => ?_) ?_; rotate_left; · (have hb' := Has.world hw'; (skip); clear hw'; go_simp; try rfl))
  conv => arg 9; simp only [Act.put, List.setIfInBounds_toArray, List.set_cons_succ, List.set_cons_zero]
  (refine wpF_reads rfl rfl ?_ (fun w' hw' => ?_) ?_; rotate_left; · (have hb' := Has.world hw'; (obtain ⟨k0, k1, k2, k3, k4, k5⟩ := (HS.out _ hb').1); clear hw'; go_simp; try rfl))
  conv => arg 9; simp only [Act.put, List.setIfInBounds_toArray, List.set_cons_succ, List.set_cons_zero]
  (refine wpF_spec rfl rfl (fun w' hw' => ?_) ?_; · (have hb' := Has.world hw'; go_simp; ((refine (MB.out w' hb').mono ?_; rintro e w'' ⟨za, zb, rfl, ho, hb⟩; exact ⟨_, rfl, ⟨⟨za, zb, rfl⟩, ⟨za, zb, rfl, ho.mono hb'.size⟩⟩, hb⟩))))
  rintro _ ⟨y9, rfl⟩
  conv => arg 9; simp only [Act.put, List.setIfInBounds_toArray, List.set_cons_succ, List.set_cons_zero]
  refine wpF_nil (fun w5 hb hF => ?_)
  have HO4 := Lib.hid (Own.mono (own_numc (T := 74) (x := y4) (b := v4.heap.size) (s := decide (T1 < 0)) (L := lenB T1.natAbs) (o := dgi T1.natAbs) (hF 4)) HWS.out)
  have HO9 := Lib.hid (Own.mono (own_numc (T := 74) (x := y9) (b := v4.heap.size) (s := decide (T2 < 0)) (L := lenB T2.natAbs) (o := dgi T2.natAbs) (hF 9)) HWS.out)
  clear hF HS
  have HB1 := Lib.hid (HB1.out.below hb HB1.out.lt)
  have HB2 := Lib.hid (HB2.out.below hb HB2.out.lt)
  have HIxa := Lib.hid (HIxa.out.below hb)
  have HIyb := Lib.hid (HIyb.out.below hb)
  have HWS := Lib.hid (Nat.le_trans HWS.out hb.size)
  have KG := Lib.hid (KG.out.trans (hb.mono KG.out.size))
  clear hb
  clear MA MB
  have CM := Lib.hid (fun (w' : World) (hb : Below w5.heap.size w5 w') => rcmp_any (decide (T1 < 0)) y4.1 (lenB T1.natAbs) y4.2 (dgi T1.natAbs) (decide (T2 < 0)) y9.1 (lenB T2.natAbs) y9.2 (dgi T2.natAbs) w' (HO4.out.rd.below hb) (by have := HM.out; omega) HO4.out.le (HO9.out.rd.below hb) (by have := HM.out; omega) HO9.out.le)
  rw [canon_val, canon_val] at CM
  go_wp2_with fail
  with_reducible refine (CM.out _ (Below.refl _ _)).mono ?_
  rintro e w6 ⟨rfl, hb⟩
  have HB1 := Lib.hid (HB1.out.below hb HB1.out.lt)
  have HB2 := Lib.hid (HB2.out.below hb HB2.out.lt)
  have HIxa := Lib.hid (HIxa.out.below hb)
  have HIyb := Lib.hid (HIyb.out.below hb)
  have HO4 := Lib.hid (HO4.out.below hb)
  have HO9 := Lib.hid (HO9.out.below hb)
  have HWS := Lib.hid (Nat.le_trans HWS.out hb.size)
  have KG := Lib.hid (KG.out.trans (hb.mono KG.out.size))
  clear hb
  clear CM
  go_wp2_with fail
  go_ret
  exact ⟨rfl, KG.out⟩
end Go.Proofs.YtaagegcidbgjmaaGreatDoor.Limb
