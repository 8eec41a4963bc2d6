/-
  Sums by their names, with how many terms, parts and letters they have at most: what each call of package polys makes of them.
-/
import Derived.Test.YthcccdjfedbnfaaGreatDoorPpK
set_option linter.unusedSimpArgs false
set_option linter.unusedVariables false
namespace Go.Proofs.YthcccdjfedbnfaaGreatDoor.Pol
open Go.RowKit Go.Sort Go.Proofs.YthcccdjfedbnfaaGreatDoor.Limb
def pw (l : Nat → Rat) (m : Mo) (q : Rat) : Nat → Rat
 | 0 => q
 | i + 1 => pw l m q i * l i ^ m.at i
theorem pw_four (l : Nat → Rat) (m : Mo) (q : Rat) : pw l m q 4 = q * atM l m := by
 show q * l 0 ^ m.x * l 1 ^ m.y * l 2 ^ m.z * l 3 ^ m.t = _
 unfold atM
 grind
theorem pw_lq {l : Nat → Rat} {m : Mo} {q : Rat} {kp kl E : Nat} (hq : LQ q kp) (hl : ∀ i, LQ (l i) kl) (hm : ∀ i, m.at i ≤ E) : ∀ i, LQ (pw l m q i) (kp + i * (E * kl + 1))
 | 0 => hq.up (by omega)
 | i + 1 => by
  have h1 := (rat_pow_lq (hl i) (m.at i)).up (Nat.add_le_add_right (Nat.mul_le_mul_right kl (hm i)) 1)
  exact ((pw_lq hq hl hm i).ls.mul h1.ls).lq (by rw [Nat.add_mul]; omega) (by rw [Nat.add_mul]; omega)
theorem ev_nq {f : Mo → Rat} {k : Nat} : ∀ {L : List Tm}, (∀ t ∈ L, LQ (t.2 * f t.1) k) → ev L f = 0 ∨ ∃ j, 0 < j ∧ j ≤ L.length ∧ NQ (ev L f) j k
 | [], _ => Or.inl rfl
 | t :: r, h => by
  have h1 := NQ.one (h t (List.mem_cons_self ..))
  rw [ev_cons]
  rcases ev_nq (L := r) (f := f) fun u hu => h u (List.mem_cons_of_mem _ hu) with h2 | ⟨j, h3, h4, h5⟩
  ·rw [h2, Rat.add_zero]; exact Or.inr ⟨1, by omega, by rw [List.length_cons]; omega, h1⟩
  ·exact Or.inr ⟨1 + j, by omega, by rw [List.length_cons]; omega, h1.add h5 (by omega) h3⟩
theorem put4_bxs8 {w : World} {b : Nat} {t : TypeId} {u0 u1 u2 u3 u4 u5 u6 u7 : Value} (h : Bxs w b t [u0, u1, u2, u3, u4, u5, u6, u7]) (v0 v1 v2 v3 : Value) : Bxs (put4 w b v0 v1 v2 v3) b t [v0, v1, v2, v3, u4, u5, u6, u7] := (((h.put 0 v0).put 1 v1).put 2 v2).put 3 v3
theorem put4_df8 {w : World} {lo b : Nat} {x : FV} {q : Rat} {t : TypeId} {u0 u1 u2 u3 u4 u5 u6 u7 : Value} (h : DF w lo x q) (hb : Bxs w b t [u0, u1, u2, u3, u4, u5, u6, u7]) (ht : 110 ≠ t) (v0 v1 v2 v3 : Value) : DF (put4 w b v0 v1 v2 v3) lo x q :=
 (((h.setBxs hb ht 0 v0).setBxs (hb.put 0 v0) ht 1 v1).setBxs ((hb.put 0 v0).put 1 v1) ht 2 v2).setBxs (((hb.put 0 v0).put 1 v1).put 2 v2) ht 3 v3
theorem at_one (m : Mo) (i : Nat) (E : Nat) (h : m.le E) : m.at i ≤ E := by
 obtain ⟨h1, h2, h3, h4⟩ := h
 unfold Mo.at
 split
 ·exact h1
 ·split
  ·exact h2
  ·split
   ·exact h3
   ·exact h4
set_option maxRecDepth 100000 in
set_option maxHeartbeats 16000000 in
theorem at_k (x : PV) (P : List Tm) (x0 x1 x2 x3 : FV) (l : Nat → Rat) (kp kl E : Nat) (w : World) (hx : KP w x P) (h4 : K4 w x0 x1 x2 x3 l) (hp : ∀ t ∈ P, LQ t.2 kp ∧ t.1.le E) (hl : ∀ i, LQ (l i) kl)
  (hn : P.length ≤ 1000000) (hE : E ≤ 65535) (hk : (P.length + 1) * (kp + 4 * (E * kl + 1) + 1) ≤ 900000) (hkl : kl ≤ 900000) :
  Calls Tryz.prog 28 #[x.v, .agg #[.bool x0.t.s, .slice x0.t.a x0.t.n x0.t.c, .bool x0.l.s, .slice x0.l.a x0.l.n x0.l.c, .bool x1.t.s, .slice x1.t.a x1.t.n x1.t.c, .bool x1.l.s, .slice x1.l.a x1.l.n x1.l.c, .bool x2.t.s, .slice x2.t.a x2.t.n x2.t.c, .bool x2.l.s, .slice x2.l.a x2.l.n x2.l.c, .bool x3.t.s, .slice x3.t.a x3.t.n x3.t.c, .bool x3.l.s, .slice x3.l.a x3.l.n x3.l.c]] w fun e w' => ∃ y : FV, e = .returned (.tuple #[y.v, .int .i64 0]) ∧ DF w' w.heap.size y (ev P (atM l)) ∧ Below w.heap.size w w' := by
 obtain ⟨V0, hV⟩ : ∃ V, V = (w.alloc (.cells #[.bool x0.t.s, .slice x0.t.a x0.t.n x0.t.c, .bool x0.l.s, .slice x0.l.a x0.l.n x0.l.c, .bool x1.t.s, .slice x1.t.a x1.t.n x1.t.c, .bool x1.l.s, .slice x1.l.a x1.l.n x1.l.c, .bool x2.t.s, .slice x2.t.a x2.t.n x2.t.c, .bool x2.l.s, .slice x2.l.a x2.l.n x2.l.c, .bool x3.t.s, .slice x3.t.a x3.t.n x3.t.c, .bool x3.l.s, .slice x3.l.a x3.l.n x3.l.c] 56)).alloc (.cells #[.bool false, .slice none 0 0, .bool false, .slice none 0 0] 28) := ⟨_, rfl⟩
 have hbV : Below w.heap.size w V0 := by rw [hV]; exact ((Below.refl _ _).alloc (Nat.le_refl _) _).alloc (by go_size) _
 have B3 := Lib.hid (show Bxs V0 w.heap.size 56 [.bool x0.t.s, .slice x0.t.a x0.t.n x0.t.c, .bool x0.l.s, .slice x0.l.a x0.l.n x0.l.c, .bool x1.t.s, .slice x1.t.a x1.t.n x1.t.c, .bool x1.l.s, .slice x1.l.a x1.l.n x1.l.c, .bool x2.t.s, .slice x2.t.a x2.t.n x2.t.c, .bool x2.l.s, .slice x2.l.a x2.l.n x2.l.c, .bool x3.t.s, .slice x3.t.a x3.t.n x3.t.c, .bool x3.l.s, .slice x3.l.a x3.l.n x3.l.c] by rw [hV]; exact (Bxs.new w 56 [.bool x0.t.s, .slice x0.t.a x0.t.n x0.t.c, .bool x0.l.s, .slice x0.l.a x0.l.n x0.l.c, .bool x1.t.s, .slice x1.t.a x1.t.n x1.t.c, .bool x1.l.s, .slice x1.l.a x1.l.n x1.l.c, .bool x2.t.s, .slice x2.t.a x2.t.n x2.t.c, .bool x2.l.s, .slice x2.l.a x2.l.n x2.l.c, .bool x3.t.s, .slice x3.t.a x3.t.n x3.t.c, .bool x3.l.s, .slice x3.l.a x3.l.n x3.l.c]).alloc _)
 have B4 := Lib.hid (show Bxs V0 (w.heap.size + 1) 28 [.bool false, .slice none 0 0, .bool false, .slice none 0 0] by
  have h := Bxs.new (w.alloc (.cells #[.bool x0.t.s, .slice x0.t.a x0.t.n x0.t.c, .bool x0.l.s, .slice x0.l.a x0.l.n x0.l.c, .bool x1.t.s, .slice x1.t.a x1.t.n x1.t.c, .bool x1.l.s, .slice x1.l.a x1.l.n x1.l.c, .bool x2.t.s, .slice x2.t.a x2.t.n x2.t.c, .bool x2.l.s, .slice x2.l.a x2.l.n x2.l.c, .bool x3.t.s, .slice x3.t.a x3.t.n x3.t.c, .bool x3.l.s, .slice x3.l.a x3.l.n x3.l.c] 56)) 28 [.bool false, .slice none 0 0, .bool false, .slice none 0 0]
  rw [World.size_alloc] at h
  rw [hV]; exact h)
 have hkt : kp + 4 * (E * kl + 1) + 1 ≤ 900000 := Nat.le_trans (Nat.le_mul_of_pos_left _ (Nat.succ_pos _)) hk
 have hxl := hx.len
 have CK := Lib.hid (check_k (hx.below hbV) (fun t ht => (hp t ht).1.up (by omega)) (by omega))
 have HX := Lib.hid hx; have H4 := Lib.hid h4; have HP := Lib.hid hp; have HLK := Lib.hid hl; have HN := Lib.hid hn; have HEE := Lib.hid hE; have HK := Lib.hid hk; have HKT := Lib.hid hkt
 have HLQ := Lib.hid (show ∀ i, LQ (l i) 900000 from fun i => (hl i).up hkl)
 have KG := Lib.hid hbV
 have HV := Lib.hid hV
 obtain ⟨A3, hA3⟩ : ∃ A, A = w.heap.size := ⟨_, rfl⟩
 obtain ⟨A4, hA4⟩ : ∃ A, A = w.heap.size + 1 := ⟨_, rfl⟩
 have HA3 := Lib.hid (show w.heap.size ≤ A3 by omega)
 have HA4 := Lib.hid (show w.heap.size ≤ A4 by omega)
 have HN34 := Lib.hid (show A3 ≠ A4 by omega)
 rw [← hA4] at B4
 rw [← hA3] at B3
 have HE4 := Lib.hid hA4; have HE3 := Lib.hid hA3
 obtain ⟨L1, g1, g2, g3, g4⟩ := hx.ex
 have R1 := Lib.hid g1; have F1 := Lib.hid g3; have T1 := Lib.hid g4
 obtain ⟨xa, xn, xc⟩ := x
 have N1 := Lib.hid (show L1.length = xn from g2)
 have HXL := Lib.hid (show xn = P.length from hxl)
 change Calls Tryz.prog 28 #[.slice xa xn xc, .agg #[.bool x0.t.s, .slice x0.t.a x0.t.n x0.t.c, .bool x0.l.s, .slice x0.l.a x0.l.n x0.l.c, .bool x1.t.s, .slice x1.t.a x1.t.n x1.t.c, .bool x1.l.s, .slice x1.l.a x1.l.n x1.l.c, .bool x2.t.s, .slice x2.t.a x2.t.n x2.t.c, .bool x2.l.s, .slice x2.l.a x2.l.n x2.l.c, .bool x3.t.s, .slice x3.t.a x3.t.n x3.t.c, .bool x3.l.s, .slice x3.l.a x3.l.n x3.l.c]] w _
 clear hV hbV hx h4 hp hl hn hE hk hkl hkt hxl hA3 hA4 g1 g2 g3 g4
 go_enter Tryz.func28, Tryz.ntmps28
 go_upto_region 1 with (fail)
 rw [show (w.alloc (.cells #[.bool x0.t.s, .slice x0.t.a x0.t.n x0.t.c, .bool x0.l.s, .slice x0.l.a x0.l.n x0.l.c, .bool x1.t.s, .slice x1.t.a x1.t.n x1.t.c, .bool x1.l.s, .slice x1.l.a x1.l.n x1.l.c, .bool x2.t.s, .slice x2.t.a x2.t.n x2.t.c, .bool x2.l.s, .slice x2.l.a x2.l.n x2.l.c, .bool x3.t.s, .slice x3.t.a x3.t.n x3.t.c, .bool x3.l.s, .slice x3.l.a x3.l.n x3.l.c] 56)).alloc (.cells #[.bool false, .slice none 0 0, .bool false, .slice none 0 0] 28) = V0 from HV.out.symm, show w.heap.size + 1 = A4 from HE4.out.symm, show w.heap.size = A3 from HE3.out.symm]
 go_wp2_with fail
 with_reducible refine CK.out.mono ?_
 rintro e w1 ⟨rfl, hb⟩
 have B3 := Lib.hid (B3.out.below hb B3.out.lt)
 have B4 := Lib.hid (B4.out.below hb B4.out.lt)
 have KG := Lib.hid (KG.out.trans (hb.mono KG.out.size))
 have CN := Lib.hid (con_k A3 x0 x1 x2 x3 l w1 B3.out (H4.out.below KG.out) HLQ.out)
 clear hb CK
 go_wp2_with fail
 with_reducible refine CN.out.mono ?_
 rintro e w2 ⟨rfl, hb⟩
 have B3 := Lib.hid (B3.out.below hb B3.out.lt)
 have B4 := Lib.hid (B4.out.below hb B4.out.lt)
 have KG := Lib.hid (KG.out.trans (hb.mono KG.out.size))
 have OF := Lib.hid (qof 0 w2 (by decide) (by decide))
 clear hb CN
 go_wp2_with fail
 with_reducible refine OF.out.mono ?_
 rintro e w3 ⟨y, rfl, hy, hb⟩
 have B3 := Lib.hid (B3.out.below hb B3.out.lt)
 have B4 := Lib.hid (B4.out.below hb B4.out.lt)
 have HSZ := Lib.hid (show w.heap.size ≤ w2.heap.size from KG.out.size)
 have KG := Lib.hid (KG.out.trans (hb.mono KG.out.size))
 have HY0 := Lib.hid hy
 clear hy hb OF
 go_upto_region 4 with (fail)
 obtain ⟨V, hV⟩ : ∃ V, V = w3.alloc (.cells #[.bool y.t.s, .slice y.t.a y.t.n y.t.c, .bool y.l.s, .slice y.l.a y.l.n y.l.c] 28) := ⟨_, rfl⟩
 have hbV : Below w3.heap.size w3 V := by rw [hV]; exact (Below.refl _ _).alloc (Nat.le_refl _) _
 have B6 := Lib.hid (show Bxs V w3.heap.size 28 [.bool y.t.s, .slice y.t.a y.t.n y.t.c, .bool y.l.s, .slice y.l.a y.l.n y.l.c] by rw [hV]; exact Bxs.new w3 28 [.bool y.t.s, .slice y.t.a y.t.n y.t.c, .bool y.l.s, .slice y.l.a y.l.n y.l.c])
 obtain ⟨A6, hA6⟩ : ∃ A, A = w3.heap.size := ⟨_, rfl⟩
 have HN36 := Lib.hid (show A3 ≠ A6 by have := B3.out.lt; omega)
 have HN46 := Lib.hid (show A4 ≠ A6 by have := B4.out.lt; omega)
 have HA6 := Lib.hid (show w.heap.size ≤ A6 by have := KG.out.size; omega)
 have B3 := Lib.hid (B3.out.below hbV B3.out.lt)
 have B4 := Lib.hid (B4.out.below hbV B4.out.lt)
 have KG := Lib.hid (KG.out.trans (hbV.mono KG.out.size))
 have NS := Lib.hid (show DF V w.heap.size y (ev (P.take 0) (atM l)) from (HY0.out.below hbV).mono HSZ.out)
 rw [← hV, ← hA6]
 rw [← hA6] at B6
 have HW4 := Lib.hid H4.out
 clear hV hbV hA6 HY0 H4
 go_wp2_with fail
 go_loopw [22] (fun i wr => ∃ (j : Nat) (xs : FV), j ≤ xn ∧ i = .int .i64 j ∧ DF wr w.heap.size xs (ev (P.take j) (atM l)) ∧ Bxs wr A3 56 [.bool x0.t.s, .slice x0.t.a x0.t.n x0.t.c, .bool x0.l.s, .slice x0.l.a x0.l.n x0.l.c, .bool x1.t.s, .slice x1.t.a x1.t.n x1.t.c, .bool x1.l.s, .slice x1.l.a x1.l.n x1.l.c, .bool x2.t.s, .slice x2.t.a x2.t.n x2.t.c, .bool x2.l.s, .slice x2.l.a x2.l.n x2.l.c, .bool x3.t.s, .slice x3.t.a x3.t.n x3.t.c, .bool x3.l.s, .slice x3.l.a x3.l.n x3.l.c] ∧ Bxs wr A4 28 [.bool false, .slice none 0 0, .bool false, .slice none 0 0] ∧ Bxs wr A6 28 [.bool xs.t.s, .slice xs.t.a xs.t.n xs.t.c, .bool xs.l.s, .slice xs.l.a xs.l.n xs.l.c] ∧ Below w.heap.size w wr) (fun i _ => xn - (intOf i).toNat)
 case atStart => exact ⟨0, y, Nat.zero_le _, rfl, NS.out, B3.out, B4.out, B6.out, KG.out⟩
 case round =>
  obtain ⟨j, xs, hj, rfl, hs, hb3, hb4, hb6, hb0⟩ := hrel
  have HJ := Lib.hid hj; have NS := Lib.hid hs; have B3 := Lib.hid hb3; have B4 := Lib.hid hb4; have B6 := Lib.hid hb6; have KG := Lib.hid hb0
  clear hj hs hb3 hb4 hb6 hb0
  have HSQ := Lib.hid (show LQ (ev (P.take j) (atM l)) 900000 from by
   have h := ev_nq (L := P.take j) (f := atM l) (k := kp + 4 * (E * kl + 1)) (fun t ht => by
    have hm := List.mem_of_mem_take ht
    rw [← pw_four]
    exact pw_lq (HP.out t hm).1 HLK.out (fun i => at_one t.1 i E (HP.out t hm).2) 4)
   rcases h with h | ⟨n, h1, h2, h3⟩
   ·rw [h]; exact lq_zero (by decide)
   ·exact h3.lq (Nat.le_trans (Nat.mul_le_mul_right _ (by rw [List.length_take] at h2; omega)) HK.out))
  by_cases hjn : j < xn
  ·have HJN := Lib.hid hjn
   have hjl : j < L1.length := by rw [N1.out]; exact hjn
   obtain ⟨pb, po, rfl, hcs⟩ := (R1.out.below KG.out).one (fun h => by rw [List.map_eq_nil_iff] at h; rw [h] at hjl; simp at hjl)
   obtain ⟨e, he⟩ : ∃ e, L1[j]? = some e := ⟨_, List.getElem?_eq_getElem hjl⟩
   obtain ⟨t, q⟩ := e
   obtain ⟨c0, c1, c2, c3, c4, c5, c6, c7⟩ := (hcs j t (by rw [List.getElem?_map, he]; rfl)).eight
   have hmem := List.mem_of_getElem? he
   have HPJ := Lib.hid (show P[j]? = some (t.m, q) by rw [← T1.out, List.getElem?_map, he]; rfl)
   have NT := Lib.hid (show KF w t.c q from F1.out _ hmem)
   have hpm := List.mem_of_getElem? HPJ.out
   have HTQ := Lib.hid (show LQ q kp from (HP.out _ hpm).1)
   have HTE := Lib.hid (show ∀ i, t.m.at i ≤ E from fun i => at_one t.m i E (HP.out _ hpm).2)
   have LW := Lib.hid (show ∀ i, i ≤ 4 → LQ (pw l t.m q i) 900000 from fun i hi => (pw_lq HTQ.out HLK.out HTE.out i).up (by have := HKT.out; have := Nat.mul_le_mul_right (E * kl + 1) hi; omega))
   have PK : ∀ i, t.m.at i * kl + 1 ≤ 900000 := fun i => by have := HKT.out; have := Nat.mul_le_mul_right kl (HTE.out i); omega
   have SM : ∀ i, t.m.at i ≤ 65535 := fun i => Nat.le_trans (HTE.out i) HEE.out
   clear hcs he hjl hmem hpm
   go_upto_region 7 with (fail)
   obtain ⟨V, hV⟩ : ∃ V, V = wr.alloc (.cells #[.bool t.c.t.s, .slice t.c.t.a t.c.t.n t.c.t.c, .bool t.c.l.s, .slice t.c.l.a t.c.l.n t.c.l.c, .int .u16 t.m.x, .int .u16 t.m.y, .int .u16 t.m.z, .int .u16 t.m.t] 50) := ⟨_, rfl⟩
   have hbV : Below wr.heap.size wr V := by rw [hV]; exact (Below.refl _ _).alloc (Nat.le_refl _) _
   have B8 := Lib.hid (show Bxs V wr.heap.size 50 [.bool t.c.t.s, .slice t.c.t.a t.c.t.n t.c.t.c, .bool t.c.l.s, .slice t.c.l.a t.c.l.n t.c.l.c, .int .u16 t.m.x, .int .u16 t.m.y, .int .u16 t.m.z, .int .u16 t.m.t] by rw [hV]; exact Bxs.new wr 50 [.bool t.c.t.s, .slice t.c.t.a t.c.t.n t.c.t.c, .bool t.c.l.s, .slice t.c.l.a t.c.l.n t.c.l.c, .int .u16 t.m.x, .int .u16 t.m.y, .int .u16 t.m.z, .int .u16 t.m.t])
   obtain ⟨A8, hA8⟩ : ∃ A, A = wr.heap.size := ⟨_, rfl⟩
   have HN38 := Lib.hid (show A3 ≠ A8 by have := B3.out.lt; omega)
   have HN48 := Lib.hid (show A4 ≠ A8 by have := B4.out.lt; omega)
   have HN68 := Lib.hid (show A6 ≠ A8 by have := B6.out.lt; omega)
   have HA8 := Lib.hid (show w.heap.size ≤ A8 by have := KG.out.size; omega)
   have B3 := Lib.hid (B3.out.below hbV B3.out.lt)
   have B4 := Lib.hid (B4.out.below hbV B4.out.lt)
   have B6 := Lib.hid (B6.out.below hbV B6.out.lt)
   have NS := Lib.hid (NS.out.below hbV)
   have KG := Lib.hid (KG.out.trans (hbV.mono KG.out.size))
   rw [← hV, ← hA8]
   rw [← hA8] at B8
   have ek : IntKind.i64.wrap ((j : Int) + 1) = (j : Int) + 1 := IntWalk.i64_in _ (by have := HJN.out; have := HXL.out; have := HN.out; omega)
   clear hV hbV hA8 c0 c1 c2 c3 c4 c5 c6 c7 hjn
   have c0 := B8.out.cell (i := 0) rfl
   have c1 := B8.out.cell (i := 1) rfl
   have c2 := B8.out.cell (i := 2) rfl
   have c3 := B8.out.cell (i := 3) rfl
   have c4 := B8.out.cell (i := 4) rfl
   have c5 := B8.out.cell (i := 5) rfl
   have c6 := B8.out.cell (i := 6) rfl
   have c7 := B8.out.cell (i := 7) rfl
   go_wp2_with fail
   clear c0 c1 c2 c3 c4 c5 c6 c7
   go_loopw [28] (fun i wr => ∃ (i' : Nat) (xv : FV), ((i' = 0 ∧ i = .int .i64 0) ∨ (i' = 1 ∧ i = .int .i64 1) ∨ (i' = 2 ∧ i = .int .i64 2) ∨ (i' = 3 ∧ i = .int .i64 3) ∨ (i' = 4 ∧ i = .int .i64 4)) ∧ KF wr xv (pw l t.m q i') ∧ Bxs wr A8 50 [.bool xv.t.s, .slice xv.t.a xv.t.n xv.t.c, .bool xv.l.s, .slice xv.l.a xv.l.n xv.l.c, .int .u16 t.m.x, .int .u16 t.m.y, .int .u16 t.m.z, .int .u16 t.m.t] ∧ Bxs wr A3 56 [.bool x0.t.s, .slice x0.t.a x0.t.n x0.t.c, .bool x0.l.s, .slice x0.l.a x0.l.n x0.l.c, .bool x1.t.s, .slice x1.t.a x1.t.n x1.t.c, .bool x1.l.s, .slice x1.l.a x1.l.n x1.l.c, .bool x2.t.s, .slice x2.t.a x2.t.n x2.t.c, .bool x2.l.s, .slice x2.l.a x2.l.n x2.l.c, .bool x3.t.s, .slice x3.t.a x3.t.n x3.t.c, .bool x3.l.s, .slice x3.l.a x3.l.n x3.l.c] ∧ Bxs wr A4 28 [.bool false, .slice none 0 0, .bool false, .slice none 0 0] ∧ Bxs wr A6 28 [.bool xs.t.s, .slice xs.t.a xs.t.n xs.t.c, .bool xs.l.s, .slice xs.l.a xs.l.n xs.l.c] ∧ DF wr w.heap.size xs (ev (P.take j) (atM l)) ∧ Below w.heap.size w wr) (fun i _ => 4 - (intOf i).toNat)
   case atStart => exact ⟨0, t.c, .inl ⟨rfl, rfl⟩, NT.out.below KG.out, B8.out, B3.out, B4.out, B6.out, NS.out, KG.out⟩
   case round =>
    obtain ⟨i, xv, hi, hv, hb8, hb3, hb4, hb6, hs, hb0⟩ := hrel
    have NV := Lib.hid hv; have B8 := Lib.hid hb8; have B3 := Lib.hid hb3; have B4 := Lib.hid hb4; have B6 := Lib.hid hb6; have NS := Lib.hid hs; have KG := Lib.hid hb0
    clear hv hb8 hb3 hb4 hb6 hs hb0
    rcases hi with ⟨rfl, rfl⟩ | ⟨rfl, rfl⟩ | ⟨rfl, rfl⟩ | ⟨rfl, rfl⟩ | ⟨rfl, rfl⟩
    ·have ix0 : ∀ w, (Instr.index 48 (.agg #[.int .u16 t.m.x, .int .u16 t.m.y, .int .u16 t.m.z, .int .u16 t.m.t]) (.int .i64 0)).run Tryz.prog w = .ok (.int .u16 t.m.x) w := fun _ => by kernel_rfl
     have HPK0 := Lib.hid (show t.m.x * kl + 1 ≤ 900000 from PK 0)
     have HSM0 := Lib.hid (show t.m.x ≤ 65535 from SM 0)
     have HPW0 := Lib.hid (show LQ (l 0 ^ t.m.x) 900000 from (rat_pow_lq (HLK.out 0) _).up HPK0.out)
     have NV := Lib.hid (show KF wr xv (pw l t.m q 0) from NV.out)
     obtain ⟨qv, hqv⟩ : ∃ v, v = pw l t.m q 0 := ⟨_, rfl⟩
     rw [← hqv] at NV
     have LQqv := Lib.hid (show LQ qv 900000 by rw [hqv]; exact LW.out 0 (by omega))
     have HQV := Lib.hid hqv
     clear hqv
     have H4 := Lib.hid (HW4.out.below KG.out)
     obtain ⟨q101, hq101⟩ : ∃ z : Rat, z = l 0 ^ t.m.x := ⟨_, rfl⟩
     have Hq101 := Lib.hid hq101
     have LQq101 := Lib.hid (show LQ q101 900000 by rw [hq101]; exact HPW0.out)
     clear hq101
     obtain ⟨q102, hq102⟩ : ∃ z : Rat, z = qv * q101 := ⟨_, rfl⟩
     have Hq102 := Lib.hid hq102
     have LQq102 := Lib.hid (show LQ q102 1800000 by rw [hq102]; exact LQ.mul (LQqv.out.up (by decide : _ ≤ 900000)) (LQq101.out.up (by decide : _ ≤ 900000)) (by decide))
     clear hq102
     go_upto_region 10 with (fail)
     refine Go.FS.wp_region_fresh 9 [] (Go.FS.spOf [(6, Go.FS.Sp.made (fun x : FV => x.v) (fun x w' => DF w' wr.heap.size x q101) FV.blk), (7, Go.FS.Sp.made (fun x : FV => x.v) (fun x w' => DF w' wr.heap.size x q102) FV.blk)])
      (fun w' => Below wr.heap.size wr w') (by kernel_rfl) (by kernel_rfl) (by kernel_rfl)
      (Go.FS.spOf_cons (Go.FS.Sp.made_keeps _ (fun _ _ _ h _ hk => h.kept hk) (Go.FS.notTaken (by kernel_rfl))) (Go.FS.spOf_cons (Go.FS.Sp.made_keeps _ (fun _ _ _ h _ hk => h.kept hk) (Go.FS.notTaken (by kernel_rfl))) (Go.FS.spOf_nil))) (fun _ _ h hb => h.trans (hb.mono h.size)) ((Below.refl _ _).drew) ?_
     simp only [List.append_eq, List.cons_append, List.nil_append, List.take_succ_cons, List.take_zero, List.drop_succ_cons, List.drop_zero]
     refine Go.FS.wpF_reads rfl rfl rfl ?_ (fun w' hw' => ?_) ?_
     rotate_left
     ·have hb' := hw'.world
      skip
      clear hw'
      go_simp
      try rfl
     conv => arg 10; simp only [Act.put, Go.q0, Go.q1, Go.q2]
     refine Go.FS.wpF_reads rfl rfl rfl ?_ (fun w' hw' => ?_) ?_
     rotate_left
     ·have hb' := hw'.world
      have hs0 := (B8.out.below hb' B8.out.lt).cell (i := 0) rfl
      have hs1 := (B8.out.below hb' B8.out.lt).cell (i := 1) rfl
      have hs2 := (B8.out.below hb' B8.out.lt).cell (i := 2) rfl
      have hs3 := (B8.out.below hb' B8.out.lt).cell (i := 3) rfl
      have hs4 := (B8.out.below hb' B8.out.lt).cell (i := 4) rfl
      have hs5 := (B8.out.below hb' B8.out.lt).cell (i := 5) rfl
      have hs6 := (B8.out.below hb' B8.out.lt).cell (i := 6) rfl
      have hs7 := (B8.out.below hb' B8.out.lt).cell (i := 7) rfl
      have hsf := (B8.out.below hb' B8.out.lt).fz
      have hsl := (B8.out.below hb' B8.out.lt).lt
      clear hw'
      go_simp
      try rfl
     conv => arg 10; simp only [Act.put, Go.q0, Go.q1, Go.q2]
     iterate 2
      refine Go.FS.wpF_reads rfl rfl rfl ?_ (fun w' hw' => ?_) ?_
      rotate_left
      ·have hb' := hw'.world
       skip
       clear hw'
       go_simp
       try rfl
      conv => arg 10; simp only [Act.put, Go.q0, Go.q1, Go.q2]
     refine Go.FS.wpF_reads rfl rfl rfl ?_ (fun w' hw' => ?_) ?_
     rotate_left
     ·have hb' := hw'.world
      have hs0 := (B3.out.below hb' B3.out.lt).cell (i := 0) rfl
      have hs1 := (B3.out.below hb' B3.out.lt).cell (i := 1) rfl
      have hs2 := (B3.out.below hb' B3.out.lt).cell (i := 2) rfl
      have hs3 := (B3.out.below hb' B3.out.lt).cell (i := 3) rfl
      clear hw'
      go_simp
      try rfl
     conv => arg 10; simp only [Act.put, Go.q0, Go.q1, Go.q2]
     refine Go.FS.wpF_reads rfl rfl rfl ?_ (fun w' hw' => ?_) ?_
     rotate_left
     ·have hb' := hw'.world
      skip
      clear hw'
      go_simp
      try rfl
     conv => arg 10; simp only [Act.put, Go.q0, Go.q1, Go.q2]
     refine Go.FS.wpF_spec rfl rfl rfl (fun w' hw' => ?_) ?_
     ·have hb' := hw'.world
      refine Go.FS.gives_of (Go.FS.PM (fun x : FV => x.v) (fun x w' => DF w' wr.heap.size x q101) FV.blk w'.heap.size) ?_ (fun _ _ h => h.post (fun _ _ => FV.inj))
      go_simp
      have CT := power_any x0 (l 0) t.m.x kl w' (H4.out.k0.below hb') (HLK.out 0) HSM0.out HPK0.out
      rw [show l 0 ^ t.m.x = q101 from Hq101.out.symm] at CT
      refine CT.mono ?_
      rintro e w'' ⟨za, rfl, ho, hb⟩
      exact ⟨_, rfl, ⟨za, rfl, ho.mono hb'.size, ho.blks⟩, hb⟩
     rintro _ ⟨y6, rfl⟩
     conv => arg 10; simp only [Act.put, Go.q0, Go.q1, Go.q2]
     refine Go.FS.wpF_spec rfl rfl rfl (fun w' hw' => ?_) ?_
     ·have hb' := hw'.world
      refine Go.FS.gives_of (Go.FS.PM (fun x : FV => x.v) (fun x w' => DF w' wr.heap.size x q102) FV.blk w'.heap.size) ?_ (fun _ _ h => h.post (fun _ _ => FV.inj))
      go_simp
      have f6 := Go.FS.made_of (val := (fun x : FV => x.v)) (Φ := fun x w' => DF w' wr.heap.size x q101) (fun _ _ => FV.inj) (hw'.fact 6 (by kernel_rfl))
      have CT := qmul ((NV.out.below hb')).any (((NV.out.below hb')).len LQqv.out (by decide : _ ≤ 900000)) (f6).k.any (((f6).k).len LQq101.out (by decide : _ ≤ 900000))
      rw [show qv * q101 = q102 from Hq102.out.symm] at CT
      refine CT.mono ?_
      rintro e w'' ⟨za, rfl, ho, hb⟩
      exact ⟨_, rfl, ⟨za, rfl, ho.mono hb'.size, ho.blks⟩, hb⟩
     rintro _ ⟨y7, rfl⟩
     conv => arg 10; simp only [Act.put, Go.q0, Go.q1, Go.q2]
     refine Go.FS.wpF_reads rfl rfl rfl ?_ (fun w' hw' => ?_) ?_
     rotate_left
     ·have hb' := hw'.world
      skip
      clear hw'
      go_simp
      try rfl
     conv => arg 10; simp only [Act.put, Go.q0, Go.q1, Go.q2]
     refine Go.FS.wpF_nil (fun w103 hb hF => ?_)
     have N104 := Lib.hid (show DF w103 wr.heap.size y7 q102 from (Go.FS.made_of (val := (fun x : FV => x.v)) (Φ := fun x w' => DF w' wr.heap.size x q102) (fun _ _ => FV.inj) (hF.all 7)))
     clear hF
     have NV := Lib.hid (NV.out.below hb)
     have NS := Lib.hid (NS.out.below hb)
     have H4 := Lib.hid (H4.out.below hb)
     have B8 := Lib.hid (B8.out.below hb B8.out.lt)
     have B3 := Lib.hid (B3.out.below hb B3.out.lt)
     have B4 := Lib.hid (B4.out.below hb B4.out.lt)
     have B6 := Lib.hid (B6.out.below hb B6.out.lt)
     have KG := Lib.hid (KG.out.trans (hb.mono KG.out.size))
     clear hb
     have HNW := Lib.hid (show DF w103 wr.heap.size y7 (pw l t.m q 1) by rw [show pw l t.m q 1 = pw l t.m q 0 * l 0 ^ t.m.x from rfl, ← HQV.out, ← Hq101.out, ← Hq102.out]; exact N104.out)
     have c80 := B8.out.cell (i := 0) rfl
     have c81 := B8.out.cell (i := 1) rfl
     have c82 := B8.out.cell (i := 2) rfl
     have c83 := B8.out.cell (i := 3) rfl
     have c84 := B8.out.cell (i := 4) rfl
     have c85 := B8.out.cell (i := 5) rfl
     have c86 := B8.out.cell (i := 6) rfl
     have c87 := B8.out.cell (i := 7) rfl
     have c8f := B8.out.fz
     have c8l := B8.out.lt
     go_wp2_with fail
     go_roundw
     case rel =>
      exact ⟨1, y7, by simp, (put4_df8 HNW.out B8.out (by decide) ..).k, put4_bxs8 B8.out .., put4_other B3.out HN38.out .., put4_other B4.out HN48.out .., put4_other B6.out HN68.out .., put4_df8 NS.out B8.out (by decide) .., put4_below KG.out HA8.out ..⟩
     case measure => simp [intOf]
    ·have ix1 : ∀ w, (Instr.index 48 (.agg #[.int .u16 t.m.x, .int .u16 t.m.y, .int .u16 t.m.z, .int .u16 t.m.t]) (.int .i64 1)).run Tryz.prog w = .ok (.int .u16 t.m.y) w := fun _ => by kernel_rfl
     have HPK1 := Lib.hid (show t.m.y * kl + 1 ≤ 900000 from PK 1)
     have HSM1 := Lib.hid (show t.m.y ≤ 65535 from SM 1)
     have HPW1 := Lib.hid (show LQ (l 1 ^ t.m.y) 900000 from (rat_pow_lq (HLK.out 1) _).up HPK1.out)
     have NV := Lib.hid (show KF wr xv (pw l t.m q 1) from NV.out)
     obtain ⟨qv, hqv⟩ : ∃ v, v = pw l t.m q 1 := ⟨_, rfl⟩
     rw [← hqv] at NV
     have LQqv := Lib.hid (show LQ qv 900000 by rw [hqv]; exact LW.out 1 (by omega))
     have HQV := Lib.hid hqv
     clear hqv
     have H4 := Lib.hid (HW4.out.below KG.out)
     obtain ⟨q101, hq101⟩ : ∃ z : Rat, z = l 1 ^ t.m.y := ⟨_, rfl⟩
     have Hq101 := Lib.hid hq101
     have LQq101 := Lib.hid (show LQ q101 900000 by rw [hq101]; exact HPW1.out)
     clear hq101
     obtain ⟨q102, hq102⟩ : ∃ z : Rat, z = qv * q101 := ⟨_, rfl⟩
     have Hq102 := Lib.hid hq102
     have LQq102 := Lib.hid (show LQ q102 1800000 by rw [hq102]; exact LQ.mul (LQqv.out.up (by decide : _ ≤ 900000)) (LQq101.out.up (by decide : _ ≤ 900000)) (by decide))
     clear hq102
     go_upto_region 10 with (fail)
     refine Go.FS.wp_region_fresh 9 [] (Go.FS.spOf [(6, Go.FS.Sp.made (fun x : FV => x.v) (fun x w' => DF w' wr.heap.size x q101) FV.blk), (7, Go.FS.Sp.made (fun x : FV => x.v) (fun x w' => DF w' wr.heap.size x q102) FV.blk)])
      (fun w' => Below wr.heap.size wr w') (by kernel_rfl) (by kernel_rfl) (by kernel_rfl)
      (Go.FS.spOf_cons (Go.FS.Sp.made_keeps _ (fun _ _ _ h _ hk => h.kept hk) (Go.FS.notTaken (by kernel_rfl))) (Go.FS.spOf_cons (Go.FS.Sp.made_keeps _ (fun _ _ _ h _ hk => h.kept hk) (Go.FS.notTaken (by kernel_rfl))) (Go.FS.spOf_nil))) (fun _ _ h hb => h.trans (hb.mono h.size)) ((Below.refl _ _).drew) ?_
     simp only [List.append_eq, List.cons_append, List.nil_append, List.take_succ_cons, List.take_zero, List.drop_succ_cons, List.drop_zero]
     refine Go.FS.wpF_reads rfl rfl rfl ?_ (fun w' hw' => ?_) ?_
     rotate_left
     ·have hb' := hw'.world
      skip
      clear hw'
      go_simp
      try rfl
     conv => arg 10; simp only [Act.put, Go.q0, Go.q1, Go.q2]
     refine Go.FS.wpF_reads rfl rfl rfl ?_ (fun w' hw' => ?_) ?_
     rotate_left
     ·have hb' := hw'.world
      have hs0 := (B8.out.below hb' B8.out.lt).cell (i := 0) rfl
      have hs1 := (B8.out.below hb' B8.out.lt).cell (i := 1) rfl
      have hs2 := (B8.out.below hb' B8.out.lt).cell (i := 2) rfl
      have hs3 := (B8.out.below hb' B8.out.lt).cell (i := 3) rfl
      have hs4 := (B8.out.below hb' B8.out.lt).cell (i := 4) rfl
      have hs5 := (B8.out.below hb' B8.out.lt).cell (i := 5) rfl
      have hs6 := (B8.out.below hb' B8.out.lt).cell (i := 6) rfl
      have hs7 := (B8.out.below hb' B8.out.lt).cell (i := 7) rfl
      have hsf := (B8.out.below hb' B8.out.lt).fz
      have hsl := (B8.out.below hb' B8.out.lt).lt
      clear hw'
      go_simp
      try rfl
     conv => arg 10; simp only [Act.put, Go.q0, Go.q1, Go.q2]
     iterate 2
      refine Go.FS.wpF_reads rfl rfl rfl ?_ (fun w' hw' => ?_) ?_
      rotate_left
      ·have hb' := hw'.world
       skip
       clear hw'
       go_simp
       try rfl
      conv => arg 10; simp only [Act.put, Go.q0, Go.q1, Go.q2]
     refine Go.FS.wpF_reads rfl rfl rfl ?_ (fun w' hw' => ?_) ?_
     rotate_left
     ·have hb' := hw'.world
      have hs4 := (B3.out.below hb' B3.out.lt).cell (i := 4) rfl
      have hs5 := (B3.out.below hb' B3.out.lt).cell (i := 5) rfl
      have hs6 := (B3.out.below hb' B3.out.lt).cell (i := 6) rfl
      have hs7 := (B3.out.below hb' B3.out.lt).cell (i := 7) rfl
      clear hw'
      go_simp
      try rfl
     conv => arg 10; simp only [Act.put, Go.q0, Go.q1, Go.q2]
     refine Go.FS.wpF_reads rfl rfl rfl ?_ (fun w' hw' => ?_) ?_
     rotate_left
     ·have hb' := hw'.world
      skip
      clear hw'
      go_simp
      try rfl
     conv => arg 10; simp only [Act.put, Go.q0, Go.q1, Go.q2]
     refine Go.FS.wpF_spec rfl rfl rfl (fun w' hw' => ?_) ?_
     ·have hb' := hw'.world
      refine Go.FS.gives_of (Go.FS.PM (fun x : FV => x.v) (fun x w' => DF w' wr.heap.size x q101) FV.blk w'.heap.size) ?_ (fun _ _ h => h.post (fun _ _ => FV.inj))
      go_simp
      have CT := power_any x1 (l 1) t.m.y kl w' (H4.out.k1.below hb') (HLK.out 1) HSM1.out HPK1.out
      rw [show l 1 ^ t.m.y = q101 from Hq101.out.symm] at CT
      refine CT.mono ?_
      rintro e w'' ⟨za, rfl, ho, hb⟩
      exact ⟨_, rfl, ⟨za, rfl, ho.mono hb'.size, ho.blks⟩, hb⟩
     rintro _ ⟨y6, rfl⟩
     conv => arg 10; simp only [Act.put, Go.q0, Go.q1, Go.q2]
     refine Go.FS.wpF_spec rfl rfl rfl (fun w' hw' => ?_) ?_
     ·have hb' := hw'.world
      refine Go.FS.gives_of (Go.FS.PM (fun x : FV => x.v) (fun x w' => DF w' wr.heap.size x q102) FV.blk w'.heap.size) ?_ (fun _ _ h => h.post (fun _ _ => FV.inj))
      go_simp
      have f6 := Go.FS.made_of (val := (fun x : FV => x.v)) (Φ := fun x w' => DF w' wr.heap.size x q101) (fun _ _ => FV.inj) (hw'.fact 6 (by kernel_rfl))
      have CT := qmul ((NV.out.below hb')).any (((NV.out.below hb')).len LQqv.out (by decide : _ ≤ 900000)) (f6).k.any (((f6).k).len LQq101.out (by decide : _ ≤ 900000))
      rw [show qv * q101 = q102 from Hq102.out.symm] at CT
      refine CT.mono ?_
      rintro e w'' ⟨za, rfl, ho, hb⟩
      exact ⟨_, rfl, ⟨za, rfl, ho.mono hb'.size, ho.blks⟩, hb⟩
     rintro _ ⟨y7, rfl⟩
     conv => arg 10; simp only [Act.put, Go.q0, Go.q1, Go.q2]
     refine Go.FS.wpF_reads rfl rfl rfl ?_ (fun w' hw' => ?_) ?_
     rotate_left
     ·have hb' := hw'.world
      skip
      clear hw'
      go_simp
      try rfl
     conv => arg 10; simp only [Act.put, Go.q0, Go.q1, Go.q2]
     refine Go.FS.wpF_nil (fun w103 hb hF => ?_)
     have N104 := Lib.hid (show DF w103 wr.heap.size y7 q102 from (Go.FS.made_of (val := (fun x : FV => x.v)) (Φ := fun x w' => DF w' wr.heap.size x q102) (fun _ _ => FV.inj) (hF.all 7)))
     clear hF
     have NV := Lib.hid (NV.out.below hb)
     have NS := Lib.hid (NS.out.below hb)
     have H4 := Lib.hid (H4.out.below hb)
     have B8 := Lib.hid (B8.out.below hb B8.out.lt)
     have B3 := Lib.hid (B3.out.below hb B3.out.lt)
     have B4 := Lib.hid (B4.out.below hb B4.out.lt)
     have B6 := Lib.hid (B6.out.below hb B6.out.lt)
     have KG := Lib.hid (KG.out.trans (hb.mono KG.out.size))
     clear hb
     have HNW := Lib.hid (show DF w103 wr.heap.size y7 (pw l t.m q 2) by rw [show pw l t.m q 2 = pw l t.m q 1 * l 1 ^ t.m.y from rfl, ← HQV.out, ← Hq101.out, ← Hq102.out]; exact N104.out)
     have c80 := B8.out.cell (i := 0) rfl
     have c81 := B8.out.cell (i := 1) rfl
     have c82 := B8.out.cell (i := 2) rfl
     have c83 := B8.out.cell (i := 3) rfl
     have c84 := B8.out.cell (i := 4) rfl
     have c85 := B8.out.cell (i := 5) rfl
     have c86 := B8.out.cell (i := 6) rfl
     have c87 := B8.out.cell (i := 7) rfl
     have c8f := B8.out.fz
     have c8l := B8.out.lt
     go_wp2_with fail
     go_roundw
     case rel =>
      exact ⟨2, y7, by simp, (put4_df8 HNW.out B8.out (by decide) ..).k, put4_bxs8 B8.out .., put4_other B3.out HN38.out .., put4_other B4.out HN48.out .., put4_other B6.out HN68.out .., put4_df8 NS.out B8.out (by decide) .., put4_below KG.out HA8.out ..⟩
     case measure => simp [intOf]
    ·have ix2 : ∀ w, (Instr.index 48 (.agg #[.int .u16 t.m.x, .int .u16 t.m.y, .int .u16 t.m.z, .int .u16 t.m.t]) (.int .i64 2)).run Tryz.prog w = .ok (.int .u16 t.m.z) w := fun _ => by kernel_rfl
     have HPK2 := Lib.hid (show t.m.z * kl + 1 ≤ 900000 from PK 2)
     have HSM2 := Lib.hid (show t.m.z ≤ 65535 from SM 2)
     have HPW2 := Lib.hid (show LQ (l 2 ^ t.m.z) 900000 from (rat_pow_lq (HLK.out 2) _).up HPK2.out)
     have NV := Lib.hid (show KF wr xv (pw l t.m q 2) from NV.out)
     obtain ⟨qv, hqv⟩ : ∃ v, v = pw l t.m q 2 := ⟨_, rfl⟩
     rw [← hqv] at NV
     have LQqv := Lib.hid (show LQ qv 900000 by rw [hqv]; exact LW.out 2 (by omega))
     have HQV := Lib.hid hqv
     clear hqv
     have H4 := Lib.hid (HW4.out.below KG.out)
     obtain ⟨q101, hq101⟩ : ∃ z : Rat, z = l 2 ^ t.m.z := ⟨_, rfl⟩
     have Hq101 := Lib.hid hq101
     have LQq101 := Lib.hid (show LQ q101 900000 by rw [hq101]; exact HPW2.out)
     clear hq101
     obtain ⟨q102, hq102⟩ : ∃ z : Rat, z = qv * q101 := ⟨_, rfl⟩
     have Hq102 := Lib.hid hq102
     have LQq102 := Lib.hid (show LQ q102 1800000 by rw [hq102]; exact LQ.mul (LQqv.out.up (by decide : _ ≤ 900000)) (LQq101.out.up (by decide : _ ≤ 900000)) (by decide))
     clear hq102
     go_upto_region 10 with (fail)
     refine Go.FS.wp_region_fresh 9 [] (Go.FS.spOf [(6, Go.FS.Sp.made (fun x : FV => x.v) (fun x w' => DF w' wr.heap.size x q101) FV.blk), (7, Go.FS.Sp.made (fun x : FV => x.v) (fun x w' => DF w' wr.heap.size x q102) FV.blk)])
      (fun w' => Below wr.heap.size wr w') (by kernel_rfl) (by kernel_rfl) (by kernel_rfl)
      (Go.FS.spOf_cons (Go.FS.Sp.made_keeps _ (fun _ _ _ h _ hk => h.kept hk) (Go.FS.notTaken (by kernel_rfl))) (Go.FS.spOf_cons (Go.FS.Sp.made_keeps _ (fun _ _ _ h _ hk => h.kept hk) (Go.FS.notTaken (by kernel_rfl))) (Go.FS.spOf_nil))) (fun _ _ h hb => h.trans (hb.mono h.size)) ((Below.refl _ _).drew) ?_
     simp only [List.append_eq, List.cons_append, List.nil_append, List.take_succ_cons, List.take_zero, List.drop_succ_cons, List.drop_zero]
     refine Go.FS.wpF_reads rfl rfl rfl ?_ (fun w' hw' => ?_) ?_
     rotate_left
     ·have hb' := hw'.world
      skip
      clear hw'
      go_simp
      try rfl
     conv => arg 10; simp only [Act.put, Go.q0, Go.q1, Go.q2]
     refine Go.FS.wpF_reads rfl rfl rfl ?_ (fun w' hw' => ?_) ?_
     rotate_left
     ·have hb' := hw'.world
      have hs0 := (B8.out.below hb' B8.out.lt).cell (i := 0) rfl
      have hs1 := (B8.out.below hb' B8.out.lt).cell (i := 1) rfl
      have hs2 := (B8.out.below hb' B8.out.lt).cell (i := 2) rfl
      have hs3 := (B8.out.below hb' B8.out.lt).cell (i := 3) rfl
      have hs4 := (B8.out.below hb' B8.out.lt).cell (i := 4) rfl
      have hs5 := (B8.out.below hb' B8.out.lt).cell (i := 5) rfl
      have hs6 := (B8.out.below hb' B8.out.lt).cell (i := 6) rfl
      have hs7 := (B8.out.below hb' B8.out.lt).cell (i := 7) rfl
      have hsf := (B8.out.below hb' B8.out.lt).fz
      have hsl := (B8.out.below hb' B8.out.lt).lt
      clear hw'
      go_simp
      try rfl
     conv => arg 10; simp only [Act.put, Go.q0, Go.q1, Go.q2]
     iterate 2
      refine Go.FS.wpF_reads rfl rfl rfl ?_ (fun w' hw' => ?_) ?_
      rotate_left
      ·have hb' := hw'.world
       skip
       clear hw'
       go_simp
       try rfl
      conv => arg 10; simp only [Act.put, Go.q0, Go.q1, Go.q2]
     refine Go.FS.wpF_reads rfl rfl rfl ?_ (fun w' hw' => ?_) ?_
     rotate_left
     ·have hb' := hw'.world
      have hs8 := (B3.out.below hb' B3.out.lt).cell (i := 8) rfl
      have hs9 := (B3.out.below hb' B3.out.lt).cell (i := 9) rfl
      have hs10 := (B3.out.below hb' B3.out.lt).cell (i := 10) rfl
      have hs11 := (B3.out.below hb' B3.out.lt).cell (i := 11) rfl
      clear hw'
      go_simp
      try rfl
     conv => arg 10; simp only [Act.put, Go.q0, Go.q1, Go.q2]
     refine Go.FS.wpF_reads rfl rfl rfl ?_ (fun w' hw' => ?_) ?_
     rotate_left
     ·have hb' := hw'.world
      skip
      clear hw'
      go_simp
      try rfl
     conv => arg 10; simp only [Act.put, Go.q0, Go.q1, Go.q2]
     refine Go.FS.wpF_spec rfl rfl rfl (fun w' hw' => ?_) ?_
     ·have hb' := hw'.world
      refine Go.FS.gives_of (Go.FS.PM (fun x : FV => x.v) (fun x w' => DF w' wr.heap.size x q101) FV.blk w'.heap.size) ?_ (fun _ _ h => h.post (fun _ _ => FV.inj))
      go_simp
      have CT := power_any x2 (l 2) t.m.z kl w' (H4.out.k2.below hb') (HLK.out 2) HSM2.out HPK2.out
      rw [show l 2 ^ t.m.z = q101 from Hq101.out.symm] at CT
      refine CT.mono ?_
      rintro e w'' ⟨za, rfl, ho, hb⟩
      exact ⟨_, rfl, ⟨za, rfl, ho.mono hb'.size, ho.blks⟩, hb⟩
     rintro _ ⟨y6, rfl⟩
     conv => arg 10; simp only [Act.put, Go.q0, Go.q1, Go.q2]
     refine Go.FS.wpF_spec rfl rfl rfl (fun w' hw' => ?_) ?_
     ·have hb' := hw'.world
      refine Go.FS.gives_of (Go.FS.PM (fun x : FV => x.v) (fun x w' => DF w' wr.heap.size x q102) FV.blk w'.heap.size) ?_ (fun _ _ h => h.post (fun _ _ => FV.inj))
      go_simp
      have f6 := Go.FS.made_of (val := (fun x : FV => x.v)) (Φ := fun x w' => DF w' wr.heap.size x q101) (fun _ _ => FV.inj) (hw'.fact 6 (by kernel_rfl))
      have CT := qmul ((NV.out.below hb')).any (((NV.out.below hb')).len LQqv.out (by decide : _ ≤ 900000)) (f6).k.any (((f6).k).len LQq101.out (by decide : _ ≤ 900000))
      rw [show qv * q101 = q102 from Hq102.out.symm] at CT
      refine CT.mono ?_
      rintro e w'' ⟨za, rfl, ho, hb⟩
      exact ⟨_, rfl, ⟨za, rfl, ho.mono hb'.size, ho.blks⟩, hb⟩
     rintro _ ⟨y7, rfl⟩
     conv => arg 10; simp only [Act.put, Go.q0, Go.q1, Go.q2]
     refine Go.FS.wpF_reads rfl rfl rfl ?_ (fun w' hw' => ?_) ?_
     rotate_left
     ·have hb' := hw'.world
      skip
      clear hw'
      go_simp
      try rfl
     conv => arg 10; simp only [Act.put, Go.q0, Go.q1, Go.q2]
     refine Go.FS.wpF_nil (fun w103 hb hF => ?_)
     have N104 := Lib.hid (show DF w103 wr.heap.size y7 q102 from (Go.FS.made_of (val := (fun x : FV => x.v)) (Φ := fun x w' => DF w' wr.heap.size x q102) (fun _ _ => FV.inj) (hF.all 7)))
     clear hF
     have NV := Lib.hid (NV.out.below hb)
     have NS := Lib.hid (NS.out.below hb)
     have H4 := Lib.hid (H4.out.below hb)
     have B8 := Lib.hid (B8.out.below hb B8.out.lt)
     have B3 := Lib.hid (B3.out.below hb B3.out.lt)
     have B4 := Lib.hid (B4.out.below hb B4.out.lt)
     have B6 := Lib.hid (B6.out.below hb B6.out.lt)
     have KG := Lib.hid (KG.out.trans (hb.mono KG.out.size))
     clear hb
     have HNW := Lib.hid (show DF w103 wr.heap.size y7 (pw l t.m q 3) by rw [show pw l t.m q 3 = pw l t.m q 2 * l 2 ^ t.m.z from rfl, ← HQV.out, ← Hq101.out, ← Hq102.out]; exact N104.out)
     have c80 := B8.out.cell (i := 0) rfl
     have c81 := B8.out.cell (i := 1) rfl
     have c82 := B8.out.cell (i := 2) rfl
     have c83 := B8.out.cell (i := 3) rfl
     have c84 := B8.out.cell (i := 4) rfl
     have c85 := B8.out.cell (i := 5) rfl
     have c86 := B8.out.cell (i := 6) rfl
     have c87 := B8.out.cell (i := 7) rfl
     have c8f := B8.out.fz
     have c8l := B8.out.lt
     go_wp2_with fail
     go_roundw
     case rel =>
      exact ⟨3, y7, by simp, (put4_df8 HNW.out B8.out (by decide) ..).k, put4_bxs8 B8.out .., put4_other B3.out HN38.out .., put4_other B4.out HN48.out .., put4_other B6.out HN68.out .., put4_df8 NS.out B8.out (by decide) .., put4_below KG.out HA8.out ..⟩
     case measure => simp [intOf]
    ·have ix3 : ∀ w, (Instr.index 48 (.agg #[.int .u16 t.m.x, .int .u16 t.m.y, .int .u16 t.m.z, .int .u16 t.m.t]) (.int .i64 3)).run Tryz.prog w = .ok (.int .u16 t.m.t) w := fun _ => by kernel_rfl
     have HPK3 := Lib.hid (show t.m.t * kl + 1 ≤ 900000 from PK 3)
     have HSM3 := Lib.hid (show t.m.t ≤ 65535 from SM 3)
     have HPW3 := Lib.hid (show LQ (l 3 ^ t.m.t) 900000 from (rat_pow_lq (HLK.out 3) _).up HPK3.out)
     have NV := Lib.hid (show KF wr xv (pw l t.m q 3) from NV.out)
     obtain ⟨qv, hqv⟩ : ∃ v, v = pw l t.m q 3 := ⟨_, rfl⟩
     rw [← hqv] at NV
     have LQqv := Lib.hid (show LQ qv 900000 by rw [hqv]; exact LW.out 3 (by omega))
     have HQV := Lib.hid hqv
     clear hqv
     have H4 := Lib.hid (HW4.out.below KG.out)
     obtain ⟨q101, hq101⟩ : ∃ z : Rat, z = l 3 ^ t.m.t := ⟨_, rfl⟩
     have Hq101 := Lib.hid hq101
     have LQq101 := Lib.hid (show LQ q101 900000 by rw [hq101]; exact HPW3.out)
     clear hq101
     obtain ⟨q102, hq102⟩ : ∃ z : Rat, z = qv * q101 := ⟨_, rfl⟩
     have Hq102 := Lib.hid hq102
     have LQq102 := Lib.hid (show LQ q102 1800000 by rw [hq102]; exact LQ.mul (LQqv.out.up (by decide : _ ≤ 900000)) (LQq101.out.up (by decide : _ ≤ 900000)) (by decide))
     clear hq102
     go_upto_region 10 with (fail)
     refine Go.FS.wp_region_fresh 9 [] (Go.FS.spOf [(6, Go.FS.Sp.made (fun x : FV => x.v) (fun x w' => DF w' wr.heap.size x q101) FV.blk), (7, Go.FS.Sp.made (fun x : FV => x.v) (fun x w' => DF w' wr.heap.size x q102) FV.blk)])
      (fun w' => Below wr.heap.size wr w') (by kernel_rfl) (by kernel_rfl) (by kernel_rfl)
      (Go.FS.spOf_cons (Go.FS.Sp.made_keeps _ (fun _ _ _ h _ hk => h.kept hk) (Go.FS.notTaken (by kernel_rfl))) (Go.FS.spOf_cons (Go.FS.Sp.made_keeps _ (fun _ _ _ h _ hk => h.kept hk) (Go.FS.notTaken (by kernel_rfl))) (Go.FS.spOf_nil))) (fun _ _ h hb => h.trans (hb.mono h.size)) ((Below.refl _ _).drew) ?_
     simp only [List.append_eq, List.cons_append, List.nil_append, List.take_succ_cons, List.take_zero, List.drop_succ_cons, List.drop_zero]
     refine Go.FS.wpF_reads rfl rfl rfl ?_ (fun w' hw' => ?_) ?_
     rotate_left
     ·have hb' := hw'.world
      skip
      clear hw'
      go_simp
      try rfl
     conv => arg 10; simp only [Act.put, Go.q0, Go.q1, Go.q2]
     refine Go.FS.wpF_reads rfl rfl rfl ?_ (fun w' hw' => ?_) ?_
     rotate_left
     ·have hb' := hw'.world
      have hs0 := (B8.out.below hb' B8.out.lt).cell (i := 0) rfl
      have hs1 := (B8.out.below hb' B8.out.lt).cell (i := 1) rfl
      have hs2 := (B8.out.below hb' B8.out.lt).cell (i := 2) rfl
      have hs3 := (B8.out.below hb' B8.out.lt).cell (i := 3) rfl
      have hs4 := (B8.out.below hb' B8.out.lt).cell (i := 4) rfl
      have hs5 := (B8.out.below hb' B8.out.lt).cell (i := 5) rfl
      have hs6 := (B8.out.below hb' B8.out.lt).cell (i := 6) rfl
      have hs7 := (B8.out.below hb' B8.out.lt).cell (i := 7) rfl
      have hsf := (B8.out.below hb' B8.out.lt).fz
      have hsl := (B8.out.below hb' B8.out.lt).lt
      clear hw'
      go_simp
      try rfl
     conv => arg 10; simp only [Act.put, Go.q0, Go.q1, Go.q2]
     iterate 2
      refine Go.FS.wpF_reads rfl rfl rfl ?_ (fun w' hw' => ?_) ?_
      rotate_left
      ·have hb' := hw'.world
       skip
       clear hw'
       go_simp
       try rfl
      conv => arg 10; simp only [Act.put, Go.q0, Go.q1, Go.q2]
     refine Go.FS.wpF_reads rfl rfl rfl ?_ (fun w' hw' => ?_) ?_
     rotate_left
     ·have hb' := hw'.world
      have hs12 := (B3.out.below hb' B3.out.lt).cell (i := 12) rfl
      have hs13 := (B3.out.below hb' B3.out.lt).cell (i := 13) rfl
      have hs14 := (B3.out.below hb' B3.out.lt).cell (i := 14) rfl
      have hs15 := (B3.out.below hb' B3.out.lt).cell (i := 15) rfl
      clear hw'
      go_simp
      try rfl
     conv => arg 10; simp only [Act.put, Go.q0, Go.q1, Go.q2]
     refine Go.FS.wpF_reads rfl rfl rfl ?_ (fun w' hw' => ?_) ?_
     rotate_left
     ·have hb' := hw'.world
      skip
      clear hw'
      go_simp
      try rfl
     conv => arg 10; simp only [Act.put, Go.q0, Go.q1, Go.q2]
     refine Go.FS.wpF_spec rfl rfl rfl (fun w' hw' => ?_) ?_
     ·have hb' := hw'.world
      refine Go.FS.gives_of (Go.FS.PM (fun x : FV => x.v) (fun x w' => DF w' wr.heap.size x q101) FV.blk w'.heap.size) ?_ (fun _ _ h => h.post (fun _ _ => FV.inj))
      go_simp
      have CT := power_any x3 (l 3) t.m.t kl w' (H4.out.k3.below hb') (HLK.out 3) HSM3.out HPK3.out
      rw [show l 3 ^ t.m.t = q101 from Hq101.out.symm] at CT
      refine CT.mono ?_
      rintro e w'' ⟨za, rfl, ho, hb⟩
      exact ⟨_, rfl, ⟨za, rfl, ho.mono hb'.size, ho.blks⟩, hb⟩
     rintro _ ⟨y6, rfl⟩
     conv => arg 10; simp only [Act.put, Go.q0, Go.q1, Go.q2]
     refine Go.FS.wpF_spec rfl rfl rfl (fun w' hw' => ?_) ?_
     ·have hb' := hw'.world
      refine Go.FS.gives_of (Go.FS.PM (fun x : FV => x.v) (fun x w' => DF w' wr.heap.size x q102) FV.blk w'.heap.size) ?_ (fun _ _ h => h.post (fun _ _ => FV.inj))
      go_simp
      have f6 := Go.FS.made_of (val := (fun x : FV => x.v)) (Φ := fun x w' => DF w' wr.heap.size x q101) (fun _ _ => FV.inj) (hw'.fact 6 (by kernel_rfl))
      have CT := qmul ((NV.out.below hb')).any (((NV.out.below hb')).len LQqv.out (by decide : _ ≤ 900000)) (f6).k.any (((f6).k).len LQq101.out (by decide : _ ≤ 900000))
      rw [show qv * q101 = q102 from Hq102.out.symm] at CT
      refine CT.mono ?_
      rintro e w'' ⟨za, rfl, ho, hb⟩
      exact ⟨_, rfl, ⟨za, rfl, ho.mono hb'.size, ho.blks⟩, hb⟩
     rintro _ ⟨y7, rfl⟩
     conv => arg 10; simp only [Act.put, Go.q0, Go.q1, Go.q2]
     refine Go.FS.wpF_reads rfl rfl rfl ?_ (fun w' hw' => ?_) ?_
     rotate_left
     ·have hb' := hw'.world
      skip
      clear hw'
      go_simp
      try rfl
     conv => arg 10; simp only [Act.put, Go.q0, Go.q1, Go.q2]
     refine Go.FS.wpF_nil (fun w103 hb hF => ?_)
     have N104 := Lib.hid (show DF w103 wr.heap.size y7 q102 from (Go.FS.made_of (val := (fun x : FV => x.v)) (Φ := fun x w' => DF w' wr.heap.size x q102) (fun _ _ => FV.inj) (hF.all 7)))
     clear hF
     have NV := Lib.hid (NV.out.below hb)
     have NS := Lib.hid (NS.out.below hb)
     have H4 := Lib.hid (H4.out.below hb)
     have B8 := Lib.hid (B8.out.below hb B8.out.lt)
     have B3 := Lib.hid (B3.out.below hb B3.out.lt)
     have B4 := Lib.hid (B4.out.below hb B4.out.lt)
     have B6 := Lib.hid (B6.out.below hb B6.out.lt)
     have KG := Lib.hid (KG.out.trans (hb.mono KG.out.size))
     clear hb
     have HNW := Lib.hid (show DF w103 wr.heap.size y7 (pw l t.m q 4) by rw [show pw l t.m q 4 = pw l t.m q 3 * l 3 ^ t.m.t from rfl, ← HQV.out, ← Hq101.out, ← Hq102.out]; exact N104.out)
     have c80 := B8.out.cell (i := 0) rfl
     have c81 := B8.out.cell (i := 1) rfl
     have c82 := B8.out.cell (i := 2) rfl
     have c83 := B8.out.cell (i := 3) rfl
     have c84 := B8.out.cell (i := 4) rfl
     have c85 := B8.out.cell (i := 5) rfl
     have c86 := B8.out.cell (i := 6) rfl
     have c87 := B8.out.cell (i := 7) rfl
     have c8f := B8.out.fz
     have c8l := B8.out.lt
     go_wp2_with fail
     go_roundw
     case rel =>
      exact ⟨4, y7, by simp, (put4_df8 HNW.out B8.out (by decide) ..).k, put4_bxs8 B8.out .., put4_other B3.out HN38.out .., put4_other B4.out HN48.out .., put4_other B6.out HN68.out .., put4_df8 NS.out B8.out (by decide) .., put4_below KG.out HA8.out ..⟩
     case measure => simp [intOf]
    ·have NV := Lib.hid (show KF wr xv (q * atM l t.m) from by rw [← pw_four]; exact NV.out)
     have LV := Lib.hid (show LQ (q * atM l t.m) 900000 from by rw [← pw_four]; exact LW.out 4 (Nat.le_refl _))
     have AD := Lib.hid (qadd NS.out.k.any (NS.out.k.len HSQ.out (Nat.le_refl _)) NV.out.any (NV.out.len LV.out (Nat.le_refl _)))
     have c60 := B6.out.cell (i := 0) rfl
     have c61 := B6.out.cell (i := 1) rfl
     have c62 := B6.out.cell (i := 2) rfl
     have c63 := B6.out.cell (i := 3) rfl
     have c6f := B6.out.fz
     have c6l := B6.out.lt
     have c80 := B8.out.cell (i := 0) rfl
     have c81 := B8.out.cell (i := 1) rfl
     have c82 := B8.out.cell (i := 2) rfl
     have c83 := B8.out.cell (i := 3) rfl
     have c84 := B8.out.cell (i := 4) rfl
     have c85 := B8.out.cell (i := 5) rfl
     have c86 := B8.out.cell (i := 6) rfl
     have c87 := B8.out.cell (i := 7) rfl
     have c8f := B8.out.fz
     have c8l := B8.out.lt
     go_wp2_with fail
     with_reducible refine AD.out.mono ?_
     rintro _ w5 ⟨y5, rfl, hy, hb⟩
     have B3 := Lib.hid (B3.out.below hb B3.out.lt)
     have B4 := Lib.hid (B4.out.below hb B4.out.lt)
     have B6 := Lib.hid (B6.out.below hb B6.out.lt)
     have NS := Lib.hid (show DF w5 w.heap.size y5 (ev (P.take (j + 1)) (atM l)) from by
      rw [List.take_add_one, HPJ.out, ev_append, show ev (some (t.m, q)).toList (atM l) = q * atM l t.m from Rat.add_zero _]
      exact hy.mono KG.out.size)
     have KG := Lib.hid (KG.out.trans (hb.mono KG.out.size))
     clear hy hb AD c60 c61 c62 c63 c6f c6l c80 c81 c82 c83 c84 c85 c86 c87 c8f c8l
     have c60 := B6.out.cell (i := 0) rfl
     have c61 := B6.out.cell (i := 1) rfl
     have c62 := B6.out.cell (i := 2) rfl
     have c63 := B6.out.cell (i := 3) rfl
     have c6f := B6.out.fz
     have c6l := B6.out.lt
     go_wp2_with fail
     go_roundw
     case rel =>
      exact ⟨j + 1, y5, by have := HJN.out; omega, rfl, put4_df NS.out B6.out (by decide) .., put4_other B3.out HN36.out .., put4_other B4.out HN46.out .., put4_bxs B6.out .., put4_below KG.out HA6.out ..⟩
     case measure => simp [intOf]; have := HJN.out; omega
  ·have hge : ¬ ((j : Int) < (xn : Int)) := by omega
   have HJE := Lib.hid (show j = xn by have := HJ.out; omega)
   clear hjn
   have c60 := B6.out.cell (i := 0) rfl
   have c61 := B6.out.cell (i := 1) rfl
   have c62 := B6.out.cell (i := 2) rfl
   have c63 := B6.out.cell (i := 3) rfl
   have c6f := B6.out.fz
   have c6l := B6.out.lt
   have c40 := B4.out.cell (i := 0) rfl
   have c41 := B4.out.cell (i := 1) rfl
   have c42 := B4.out.cell (i := 2) rfl
   have c43 := B4.out.cell (i := 3) rfl
   have c4f := B4.out.fz
   have c4l := B4.out.lt
   have HR := Lib.hid (show DF (put4 wr A4 (.bool xs.t.s) (.slice xs.t.a xs.t.n xs.t.c) (.bool xs.l.s) (.slice xs.l.a xs.l.n xs.l.c)) w.heap.size xs (ev P (atM l)) from by
    have h := put4_df NS.out B4.out (by decide) (.bool xs.t.s) (.slice xs.t.a xs.t.n xs.t.c) (.bool xs.l.s) (.slice xs.l.a xs.l.n xs.l.c)
    rwa [List.take_of_length_le (by rw [HJE.out, HXL.out]; exact Nat.le_refl _)] at h)
   go_wp2_with fail
   exact bodyPost_ret (results_ct rfl _ _ _ _ _ _ _ rfl (put4_bxs B4.out ..) Tryz.underlying28 rfl (by kernel_rfl)) rfl ⟨xs, rfl, HR.out, put4_below KG.out HA4.out ..⟩
def FB (w : World) (x : FV) (ok : Bool) : Prop := match ok with
 | true => ∃ q, KF w x q
 | false => BF w x
theorem FB.below {w w' : World} {x : FV} {ok : Bool} (h : FB w x ok) (hb : Below w.heap.size w w') : FB w' x ok := by
 cases ok with
 | true => exact h.imp fun q h => KF.below h hb
 | false => exact BF.below h hb
set_option maxRecDepth 100000 in
set_option maxHeartbeats 4000000 in
theorem at1_c (x : FV) (ok : Bool) (w : World) (h : FB w x ok) (hl : LF x 900000) : Calls Tryz.prog 75 #[x.v] w fun e w' => e = .returned (.bool (!ok)) ∧ Below w.heap.size w w' := by
 obtain ⟨V, hV⟩ : ∃ V, V = w.alloc (.cells #[.bool x.t.s, .slice x.t.a x.t.n x.t.c, .bool x.l.s, .slice x.l.a x.l.n x.l.c] 28) := ⟨_, rfl⟩
 have hbV : Below w.heap.size w V := by rw [hV]; exact (Below.refl _ _).alloc (Nat.le_refl _) _
 have B1 := Lib.hid (show Bxs V w.heap.size 28 [.bool x.t.s, .slice x.t.a x.t.n x.t.c, .bool x.l.s, .slice x.l.a x.l.n x.l.c] by rw [hV]; exact Bxs.new w 28 [.bool x.t.s, .slice x.t.a x.t.n x.t.c, .bool x.l.s, .slice x.l.a x.l.n x.l.c])
 have KG := Lib.hid hbV
 have HV := Lib.hid hV
 have CK := Lib.hid (show Calls Tryz.prog 12 #[x.v] V fun e w' => e = .returned (.bool ok) ∧ Below V.heap.size V w' by
  cases ok with
  | true => obtain ⟨q, hq⟩ := h; exact qcheck (hq.below hbV) hl
  | false => exact qcheckB (BF.below h hbV) hl)
 clear hV hbV h hl
 change Calls Tryz.prog 75 #[.agg #[.bool x.t.s, .slice x.t.a x.t.n x.t.c, .bool x.l.s, .slice x.l.a x.l.n x.l.c]] w _
 go_enter Tryz.func75, Tryz.ntmps75
 go_upto_region 1 with (fail)
 rw [show w.alloc (.cells #[.bool x.t.s, .slice x.t.a x.t.n x.t.c, .bool x.l.s, .slice x.l.a x.l.n x.l.c] 28) = V from HV.out.symm]
 have c0 := B1.out.cell (i := 0) rfl
 have c1 := B1.out.cell (i := 1) rfl
 have c2 := B1.out.cell (i := 2) rfl
 have c3 := B1.out.cell (i := 3) rfl
 go_wp2_with fail
 with_reducible refine CK.out.mono ?_
 rintro e w1 ⟨rfl, hb⟩
 have KG := Lib.hid (KG.out.trans (hb.mono KG.out.size))
 clear hb CK c0 c1 c2 c3
 go_wp2_with fail
 go_ret
 exact ⟨rfl, KG.out⟩
structure B4 (w : World) (x0 x1 x2 x3 : FV) (ok : Nat → Bool) : Prop where
 k0 : FB w x0 (ok 0)
 k1 : FB w x1 (ok 1)
 k2 : FB w x2 (ok 2)
 k3 : FB w x3 (ok 3)
 l0 : LF x0 900000
 l1 : LF x1 900000
 l2 : LF x2 900000
 l3 : LF x3 900000
theorem B4.below {w w' : World} {x0 x1 x2 x3 : FV} {ok : Nat → Bool} (h : B4 w x0 x1 x2 x3 ok) (hb : Below w.heap.size w w') : B4 w' x0 x1 x2 x3 ok := ⟨h.k0.below hb, h.k1.below hb, h.k2.below hb, h.k3.below hb, h.l0, h.l1, h.l2, h.l3⟩
def IN (w : World) (e : Ending) (w' : World) : Prop := ∃ r : Nat, e = .returned (.int .i64 (r : Int)) ∧ Below w.heap.size w w'
theorem IN.is {w w' : World} (r : Nat) (h : Below w.heap.size w w') : IN w (.returned (.int .i64 (r : Int))) w' := ⟨r, rfl, h⟩
set_option maxRecDepth 100000 in
set_option maxHeartbeats 16000000 in
theorem idx_c (b : Nat) (x0 x1 x2 x3 : FV) (ok : Nat → Bool) (w : World) (hb : Bxs w b 56 [.bool x0.t.s, .slice x0.t.a x0.t.n x0.t.c, .bool x0.l.s, .slice x0.l.a x0.l.n x0.l.c, .bool x1.t.s, .slice x1.t.a x1.t.n x1.t.c, .bool x1.l.s, .slice x1.l.a x1.l.n x1.l.c, .bool x2.t.s, .slice x2.t.a x2.t.n x2.t.c, .bool x2.l.s, .slice x2.l.a x2.l.n x2.l.c, .bool x3.t.s, .slice x3.t.a x3.t.n x3.t.c, .bool x3.l.s, .slice x3.l.a x3.l.n x3.l.c]) (h : B4 w x0 x1 x2 x3 ok) (hn : ∃ i, i < 4 ∧ ok i = false) :
  Calls Tryz.prog 107 #[.slice (some ⟨b, 0, none⟩) 4 4, .func (.func 75) #[] #[]] w (IN w) := by
 have BB := Lib.hid hb; have HH := Lib.hid h; have HN := Lib.hid hn
 have hcf : ∀ (args : Array Value) (w : World), (callFunc 75 args).run Tryz.prog w = .ok (.enter 75 args) w := fun _ _ => by kernel_rfl
 clear hb h hn
 go_enter Tryz.func107, Tryz.ntmps107
 go_wp2_with fail
 go_loopw [8] (fun i wr => ∃ j : Nat, j ≤ 4 ∧ i = .int .i64 j ∧ (∀ i, i < j → ok i = true) ∧ Below w.heap.size w wr) (fun i _ => 4 - (intOf i).toNat)
 case atStart => exact ⟨0, Nat.zero_le _, rfl, fun i hi => absurd hi (Nat.not_lt_zero _), Below.refl _ _⟩
 case round =>
  obtain ⟨j, hj, rfl, hal, hb0⟩ := hrel
  have KG := Lib.hid hb0
  have HAL := Lib.hid hal
  have B1 := Lib.hid (BB.out.below hb0 BB.out.lt)
  have H4 := Lib.hid (HH.out.below hb0)
  clear hb0 hal
  by_cases hjn : j < 4
  ·have hl5 : j = 0 ∨ j = 1 ∨ j = 2 ∨ j = 3 := by omega
   clear hj hjn
   have c0 := B1.out.cell (i := 0) rfl
   have c1 := B1.out.cell (i := 1) rfl
   have c2 := B1.out.cell (i := 2) rfl
   have c3 := B1.out.cell (i := 3) rfl
   have c4 := B1.out.cell (i := 4) rfl
   have c5 := B1.out.cell (i := 5) rfl
   have c6 := B1.out.cell (i := 6) rfl
   have c7 := B1.out.cell (i := 7) rfl
   have c8 := B1.out.cell (i := 8) rfl
   have c9 := B1.out.cell (i := 9) rfl
   have c10 := B1.out.cell (i := 10) rfl
   have c11 := B1.out.cell (i := 11) rfl
   have c12 := B1.out.cell (i := 12) rfl
   have c13 := B1.out.cell (i := 13) rfl
   have c14 := B1.out.cell (i := 14) rfl
   have c15 := B1.out.cell (i := 15) rfl
   rcases hl5 with rfl | rfl | rfl | rfl
   ·have AK := Lib.hid (at1_c x0 (ok 0) wr H4.out.k0 H4.out.l0)
    obtain ⟨o, ho⟩ : ∃ o, o = ok 0 := ⟨_, rfl⟩
    rw [← ho] at AK
    have HO := Lib.hid ho
    clear ho
    go_wp2_with fail
    with_reducible refine AK.out.mono ?_
    rintro e w1 ⟨rfl, hb⟩
    have KG := Lib.hid (KG.out.trans (hb.mono KG.out.size))
    clear hb AK c0 c1 c2 c3 c4 c5 c6 c7 c8 c9 c10 c11 c12 c13 c14 c15
    rcases Bool.eq_false_or_eq_true o with rfl | rfl
    ·go_wp2_with fail
     go_roundw
     case rel => exact ⟨1, by omega, rfl, fun i hi => (by
      by_cases hi2 : i < 0
      ·exact HAL.out i hi2
      ·obtain rfl : i = 0 := by omega
       exact HO.out.symm), KG.out⟩
     case measure => simp [intOf]
    ·go_wp2_with fail
     go_ret
     exact IN.is 0 KG.out
   ·have AK := Lib.hid (at1_c x1 (ok 1) wr H4.out.k1 H4.out.l1)
    obtain ⟨o, ho⟩ : ∃ o, o = ok 1 := ⟨_, rfl⟩
    rw [← ho] at AK
    have HO := Lib.hid ho
    clear ho
    go_wp2_with fail
    with_reducible refine AK.out.mono ?_
    rintro e w1 ⟨rfl, hb⟩
    have KG := Lib.hid (KG.out.trans (hb.mono KG.out.size))
    clear hb AK c0 c1 c2 c3 c4 c5 c6 c7 c8 c9 c10 c11 c12 c13 c14 c15
    rcases Bool.eq_false_or_eq_true o with rfl | rfl
    ·go_wp2_with fail
     go_roundw
     case rel => exact ⟨2, by omega, rfl, fun i hi => (by
      by_cases hi2 : i < 1
      ·exact HAL.out i hi2
      ·obtain rfl : i = 1 := by omega
       exact HO.out.symm), KG.out⟩
     case measure => simp [intOf]
    ·go_wp2_with fail
     go_ret
     exact IN.is 1 KG.out
   ·have AK := Lib.hid (at1_c x2 (ok 2) wr H4.out.k2 H4.out.l2)
    obtain ⟨o, ho⟩ : ∃ o, o = ok 2 := ⟨_, rfl⟩
    rw [← ho] at AK
    have HO := Lib.hid ho
    clear ho
    go_wp2_with fail
    with_reducible refine AK.out.mono ?_
    rintro e w1 ⟨rfl, hb⟩
    have KG := Lib.hid (KG.out.trans (hb.mono KG.out.size))
    clear hb AK c0 c1 c2 c3 c4 c5 c6 c7 c8 c9 c10 c11 c12 c13 c14 c15
    rcases Bool.eq_false_or_eq_true o with rfl | rfl
    ·go_wp2_with fail
     go_roundw
     case rel => exact ⟨3, by omega, rfl, fun i hi => (by
      by_cases hi2 : i < 2
      ·exact HAL.out i hi2
      ·obtain rfl : i = 2 := by omega
       exact HO.out.symm), KG.out⟩
     case measure => simp [intOf]
    ·go_wp2_with fail
     go_ret
     exact IN.is 2 KG.out
   ·have AK := Lib.hid (at1_c x3 (ok 3) wr H4.out.k3 H4.out.l3)
    obtain ⟨o, ho⟩ : ∃ o, o = ok 3 := ⟨_, rfl⟩
    rw [← ho] at AK
    have HO := Lib.hid ho
    clear ho
    go_wp2_with fail
    with_reducible refine AK.out.mono ?_
    rintro e w1 ⟨rfl, hb⟩
    have KG := Lib.hid (KG.out.trans (hb.mono KG.out.size))
    clear hb AK c0 c1 c2 c3 c4 c5 c6 c7 c8 c9 c10 c11 c12 c13 c14 c15
    rcases Bool.eq_false_or_eq_true o with rfl | rfl
    ·go_wp2_with fail
     go_roundw
     case rel => exact ⟨4, by omega, rfl, fun i hi => (by
      by_cases hi2 : i < 3
      ·exact HAL.out i hi2
      ·obtain rfl : i = 3 := by omega
       exact HO.out.symm), KG.out⟩
     case measure => simp [intOf]
    ·go_wp2_with fail
     go_ret
     exact IN.is 3 KG.out
  ·obtain rfl : j = 4 := by omega
   obtain ⟨i, hi, h0⟩ := HN.out
   rw [HAL.out i hi] at h0
   cases h0
set_option maxRecDepth 100000 in
set_option maxHeartbeats 4000000 in
theorem con_c (b : Nat) (x0 x1 x2 x3 : FV) (ok : Nat → Bool) (w : World) (hb : Bxs w b 56 [.bool x0.t.s, .slice x0.t.a x0.t.n x0.t.c, .bool x0.l.s, .slice x0.l.a x0.l.n x0.l.c, .bool x1.t.s, .slice x1.t.a x1.t.n x1.t.c, .bool x1.l.s, .slice x1.l.a x1.l.n x1.l.c, .bool x2.t.s, .slice x2.t.a x2.t.n x2.t.c, .bool x2.l.s, .slice x2.l.a x2.l.n x2.l.c, .bool x3.t.s, .slice x3.t.a x3.t.n x3.t.c, .bool x3.l.s, .slice x3.l.a x3.l.n x3.l.c]) (h : B4 w x0 x1 x2 x3 ok) (hn : ∃ i, i < 4 ∧ ok i = false) :
  Calls Tryz.prog 74 #[.slice (some ⟨b, 0, none⟩) 4 4, .func (.func 75) #[] #[]] w fun e w' => e = .returned (.bool true) ∧ Below w.heap.size w w' := by
 have IK := Lib.hid (idx_c b x0 x1 x2 x3 ok w hb h hn)
 clear hb h hn
 go_enter Tryz.func74, Tryz.ntmps74
 go_wp2_with fail
 with_reducible refine IK.out.mono ?_
 rintro e w1 ⟨r, rfl, hb⟩
 have KG := Lib.hid hb
 have h1 : (r : Int) ≥ 0 := by omega
 have h2 : (0 : Int) ≤ (r : Int) := h1
 clear hb IK
 go_wp2_with fail
 go_ret
 exact ⟨rfl, KG.out⟩
set_option maxRecDepth 100000 in
set_option maxHeartbeats 4000000 in
theorem at_bad (x : PV) (x0 x1 x2 x3 : FV) (w : World) (hx : BP w x) (hn : x.n ≤ 1000000000) :
  Calls Tryz.prog 28 #[x.v, .agg #[.bool x0.t.s, .slice x0.t.a x0.t.n x0.t.c, .bool x0.l.s, .slice x0.l.a x0.l.n x0.l.c, .bool x1.t.s, .slice x1.t.a x1.t.n x1.t.c, .bool x1.l.s, .slice x1.l.a x1.l.n x1.l.c, .bool x2.t.s, .slice x2.t.a x2.t.n x2.t.c, .bool x2.l.s, .slice x2.l.a x2.l.n x2.l.c, .bool x3.t.s, .slice x3.t.a x3.t.n x3.t.c, .bool x3.l.s, .slice x3.l.a x3.l.n x3.l.c]] w fun e w' => e = .returned (.tuple #[.agg #[.bool false, .slice none 0 0, .bool false, .slice none 0 0], .int .i64 1]) ∧ Below w.heap.size w w' := by
 obtain ⟨V0, hV⟩ : ∃ V, V = (w.alloc (.cells #[.bool x0.t.s, .slice x0.t.a x0.t.n x0.t.c, .bool x0.l.s, .slice x0.l.a x0.l.n x0.l.c, .bool x1.t.s, .slice x1.t.a x1.t.n x1.t.c, .bool x1.l.s, .slice x1.l.a x1.l.n x1.l.c, .bool x2.t.s, .slice x2.t.a x2.t.n x2.t.c, .bool x2.l.s, .slice x2.l.a x2.l.n x2.l.c, .bool x3.t.s, .slice x3.t.a x3.t.n x3.t.c, .bool x3.l.s, .slice x3.l.a x3.l.n x3.l.c] 56)).alloc (.cells #[.bool false, .slice none 0 0, .bool false, .slice none 0 0] 28) := ⟨_, rfl⟩
 have hbV : Below w.heap.size w V0 := by rw [hV]; exact ((Below.refl _ _).alloc (Nat.le_refl _) _).alloc (by go_size) _
 have B3 := Lib.hid (show Bxs V0 w.heap.size 56 [.bool x0.t.s, .slice x0.t.a x0.t.n x0.t.c, .bool x0.l.s, .slice x0.l.a x0.l.n x0.l.c, .bool x1.t.s, .slice x1.t.a x1.t.n x1.t.c, .bool x1.l.s, .slice x1.l.a x1.l.n x1.l.c, .bool x2.t.s, .slice x2.t.a x2.t.n x2.t.c, .bool x2.l.s, .slice x2.l.a x2.l.n x2.l.c, .bool x3.t.s, .slice x3.t.a x3.t.n x3.t.c, .bool x3.l.s, .slice x3.l.a x3.l.n x3.l.c] by rw [hV]; exact (Bxs.new w 56 [.bool x0.t.s, .slice x0.t.a x0.t.n x0.t.c, .bool x0.l.s, .slice x0.l.a x0.l.n x0.l.c, .bool x1.t.s, .slice x1.t.a x1.t.n x1.t.c, .bool x1.l.s, .slice x1.l.a x1.l.n x1.l.c, .bool x2.t.s, .slice x2.t.a x2.t.n x2.t.c, .bool x2.l.s, .slice x2.l.a x2.l.n x2.l.c, .bool x3.t.s, .slice x3.t.a x3.t.n x3.t.c, .bool x3.l.s, .slice x3.l.a x3.l.n x3.l.c]).alloc _)
 have B5 := Lib.hid (show Bxs V0 (w.heap.size + 1) 28 [.bool false, .slice none 0 0, .bool false, .slice none 0 0] by
  have h := Bxs.new (w.alloc (.cells #[.bool x0.t.s, .slice x0.t.a x0.t.n x0.t.c, .bool x0.l.s, .slice x0.l.a x0.l.n x0.l.c, .bool x1.t.s, .slice x1.t.a x1.t.n x1.t.c, .bool x1.l.s, .slice x1.l.a x1.l.n x1.l.c, .bool x2.t.s, .slice x2.t.a x2.t.n x2.t.c, .bool x2.l.s, .slice x2.l.a x2.l.n x2.l.c, .bool x3.t.s, .slice x3.t.a x3.t.n x3.t.c, .bool x3.l.s, .slice x3.l.a x3.l.n x3.l.c] 56)) 28 [.bool false, .slice none 0 0, .bool false, .slice none 0 0]
  rw [World.size_alloc] at h
  rw [hV]; exact h)
 obtain ⟨A3, hA3⟩ : ∃ A, A = w.heap.size := ⟨_, rfl⟩
 obtain ⟨A4, hA4⟩ : ∃ A, A = w.heap.size + 1 := ⟨_, rfl⟩
 have HA4 := Lib.hid (show w.heap.size ≤ A4 by omega)
 have KG := Lib.hid hbV
 have HV := Lib.hid hV
 have CK := Lib.hid (check_b (hx.below hbV) hn)
 clear hx hn
 have HE4 := Lib.hid hA4; have HE3 := Lib.hid hA3
 rw [← hA4] at B5
 rw [← hA3] at B3
 obtain ⟨xa, xn, xc⟩ := x
 change Calls Tryz.prog 28 #[.slice xa xn xc, .agg #[.bool x0.t.s, .slice x0.t.a x0.t.n x0.t.c, .bool x0.l.s, .slice x0.l.a x0.l.n x0.l.c, .bool x1.t.s, .slice x1.t.a x1.t.n x1.t.c, .bool x1.l.s, .slice x1.l.a x1.l.n x1.l.c, .bool x2.t.s, .slice x2.t.a x2.t.n x2.t.c, .bool x2.l.s, .slice x2.l.a x2.l.n x2.l.c, .bool x3.t.s, .slice x3.t.a x3.t.n x3.t.c, .bool x3.l.s, .slice x3.l.a x3.l.n x3.l.c]] w _
 clear hV hbV hA3 hA4
 go_enter Tryz.func28, Tryz.ntmps28
 go_upto_region 1 with (fail)
 rw [show (w.alloc (.cells #[.bool x0.t.s, .slice x0.t.a x0.t.n x0.t.c, .bool x0.l.s, .slice x0.l.a x0.l.n x0.l.c, .bool x1.t.s, .slice x1.t.a x1.t.n x1.t.c, .bool x1.l.s, .slice x1.l.a x1.l.n x1.l.c, .bool x2.t.s, .slice x2.t.a x2.t.n x2.t.c, .bool x2.l.s, .slice x2.l.a x2.l.n x2.l.c, .bool x3.t.s, .slice x3.t.a x3.t.n x3.t.c, .bool x3.l.s, .slice x3.l.a x3.l.n x3.l.c] 56)).alloc (.cells #[.bool false, .slice none 0 0, .bool false, .slice none 0 0] 28) = V0 from HV.out.symm, show w.heap.size + 1 = A4 from HE4.out.symm, show w.heap.size = A3 from HE3.out.symm]
 go_wp2_with fail
 with_reducible refine CK.out.mono ?_
 rintro e w1 ⟨rfl, hb⟩
 have B3 := Lib.hid (B3.out.below hb B3.out.lt)
 have B5 := Lib.hid (B5.out.below hb B5.out.lt)
 have KG := Lib.hid (KG.out.trans (hb.mono KG.out.size))
 clear hb CK
 have c0 := B5.out.cell (i := 0) rfl
 have c1 := B5.out.cell (i := 1) rfl
 have c2 := B5.out.cell (i := 2) rfl
 have c3 := B5.out.cell (i := 3) rfl
 have cf := B5.out.fz
 have cl := B5.out.lt
 go_wp2_with fail
 exact bodyPost_ret (results_ct rfl _ _ _ _ _ _ _ rfl (put4_bxs B5.out ..) Tryz.underlying28 rfl (by kernel_rfl)) rfl ⟨rfl, put4_below KG.out HA4.out ..⟩
set_option maxRecDepth 100000 in
set_option maxHeartbeats 4000000 in
theorem at_lbad (x : PV) (x0 x1 x2 x3 : FV) (w : World) (P : List Tm) (ok : Nat → Bool) (hx : KP w x P) (hp : ∀ t ∈ P, LQ t.2 900000) (hn : x.n ≤ 1000000000) (h4 : B4 w x0 x1 x2 x3 ok) (hb4 : ∃ i, i < 4 ∧ ok i = false) :
  Calls Tryz.prog 28 #[x.v, .agg #[.bool x0.t.s, .slice x0.t.a x0.t.n x0.t.c, .bool x0.l.s, .slice x0.l.a x0.l.n x0.l.c, .bool x1.t.s, .slice x1.t.a x1.t.n x1.t.c, .bool x1.l.s, .slice x1.l.a x1.l.n x1.l.c, .bool x2.t.s, .slice x2.t.a x2.t.n x2.t.c, .bool x2.l.s, .slice x2.l.a x2.l.n x2.l.c, .bool x3.t.s, .slice x3.t.a x3.t.n x3.t.c, .bool x3.l.s, .slice x3.l.a x3.l.n x3.l.c]] w fun e w' => e = .returned (.tuple #[.agg #[.bool false, .slice none 0 0, .bool false, .slice none 0 0], .int .i64 1]) ∧ Below w.heap.size w w' := by
 obtain ⟨V0, hV⟩ : ∃ V, V = (w.alloc (.cells #[.bool x0.t.s, .slice x0.t.a x0.t.n x0.t.c, .bool x0.l.s, .slice x0.l.a x0.l.n x0.l.c, .bool x1.t.s, .slice x1.t.a x1.t.n x1.t.c, .bool x1.l.s, .slice x1.l.a x1.l.n x1.l.c, .bool x2.t.s, .slice x2.t.a x2.t.n x2.t.c, .bool x2.l.s, .slice x2.l.a x2.l.n x2.l.c, .bool x3.t.s, .slice x3.t.a x3.t.n x3.t.c, .bool x3.l.s, .slice x3.l.a x3.l.n x3.l.c] 56)).alloc (.cells #[.bool false, .slice none 0 0, .bool false, .slice none 0 0] 28) := ⟨_, rfl⟩
 have hbV : Below w.heap.size w V0 := by rw [hV]; exact ((Below.refl _ _).alloc (Nat.le_refl _) _).alloc (by go_size) _
 have B3 := Lib.hid (show Bxs V0 w.heap.size 56 [.bool x0.t.s, .slice x0.t.a x0.t.n x0.t.c, .bool x0.l.s, .slice x0.l.a x0.l.n x0.l.c, .bool x1.t.s, .slice x1.t.a x1.t.n x1.t.c, .bool x1.l.s, .slice x1.l.a x1.l.n x1.l.c, .bool x2.t.s, .slice x2.t.a x2.t.n x2.t.c, .bool x2.l.s, .slice x2.l.a x2.l.n x2.l.c, .bool x3.t.s, .slice x3.t.a x3.t.n x3.t.c, .bool x3.l.s, .slice x3.l.a x3.l.n x3.l.c] by rw [hV]; exact (Bxs.new w 56 [.bool x0.t.s, .slice x0.t.a x0.t.n x0.t.c, .bool x0.l.s, .slice x0.l.a x0.l.n x0.l.c, .bool x1.t.s, .slice x1.t.a x1.t.n x1.t.c, .bool x1.l.s, .slice x1.l.a x1.l.n x1.l.c, .bool x2.t.s, .slice x2.t.a x2.t.n x2.t.c, .bool x2.l.s, .slice x2.l.a x2.l.n x2.l.c, .bool x3.t.s, .slice x3.t.a x3.t.n x3.t.c, .bool x3.l.s, .slice x3.l.a x3.l.n x3.l.c]).alloc _)
 have B5 := Lib.hid (show Bxs V0 (w.heap.size + 1) 28 [.bool false, .slice none 0 0, .bool false, .slice none 0 0] by
  have h := Bxs.new (w.alloc (.cells #[.bool x0.t.s, .slice x0.t.a x0.t.n x0.t.c, .bool x0.l.s, .slice x0.l.a x0.l.n x0.l.c, .bool x1.t.s, .slice x1.t.a x1.t.n x1.t.c, .bool x1.l.s, .slice x1.l.a x1.l.n x1.l.c, .bool x2.t.s, .slice x2.t.a x2.t.n x2.t.c, .bool x2.l.s, .slice x2.l.a x2.l.n x2.l.c, .bool x3.t.s, .slice x3.t.a x3.t.n x3.t.c, .bool x3.l.s, .slice x3.l.a x3.l.n x3.l.c] 56)) 28 [.bool false, .slice none 0 0, .bool false, .slice none 0 0]
  rw [World.size_alloc] at h
  rw [hV]; exact h)
 obtain ⟨A3, hA3⟩ : ∃ A, A = w.heap.size := ⟨_, rfl⟩
 obtain ⟨A4, hA4⟩ : ∃ A, A = w.heap.size + 1 := ⟨_, rfl⟩
 have HA4 := Lib.hid (show w.heap.size ≤ A4 by omega)
 have KG := Lib.hid hbV
 have HV := Lib.hid hV
 have CK := Lib.hid (check_k (hx.below hbV) hp hn)
 have H4 := Lib.hid h4; have HB4 := Lib.hid hb4
 clear hx hp hn h4 hb4
 have HE4 := Lib.hid hA4; have HE3 := Lib.hid hA3
 rw [← hA4] at B5
 rw [← hA3] at B3
 obtain ⟨xa, xn, xc⟩ := x
 change Calls Tryz.prog 28 #[.slice xa xn xc, .agg #[.bool x0.t.s, .slice x0.t.a x0.t.n x0.t.c, .bool x0.l.s, .slice x0.l.a x0.l.n x0.l.c, .bool x1.t.s, .slice x1.t.a x1.t.n x1.t.c, .bool x1.l.s, .slice x1.l.a x1.l.n x1.l.c, .bool x2.t.s, .slice x2.t.a x2.t.n x2.t.c, .bool x2.l.s, .slice x2.l.a x2.l.n x2.l.c, .bool x3.t.s, .slice x3.t.a x3.t.n x3.t.c, .bool x3.l.s, .slice x3.l.a x3.l.n x3.l.c]] w _
 clear hV hbV hA3 hA4
 go_enter Tryz.func28, Tryz.ntmps28
 go_upto_region 1 with (fail)
 rw [show (w.alloc (.cells #[.bool x0.t.s, .slice x0.t.a x0.t.n x0.t.c, .bool x0.l.s, .slice x0.l.a x0.l.n x0.l.c, .bool x1.t.s, .slice x1.t.a x1.t.n x1.t.c, .bool x1.l.s, .slice x1.l.a x1.l.n x1.l.c, .bool x2.t.s, .slice x2.t.a x2.t.n x2.t.c, .bool x2.l.s, .slice x2.l.a x2.l.n x2.l.c, .bool x3.t.s, .slice x3.t.a x3.t.n x3.t.c, .bool x3.l.s, .slice x3.l.a x3.l.n x3.l.c] 56)).alloc (.cells #[.bool false, .slice none 0 0, .bool false, .slice none 0 0] 28) = V0 from HV.out.symm, show w.heap.size + 1 = A4 from HE4.out.symm, show w.heap.size = A3 from HE3.out.symm]
 go_wp2_with fail
 with_reducible refine CK.out.mono ?_
 rintro e w1 ⟨rfl, hb⟩
 have B3 := Lib.hid (B3.out.below hb B3.out.lt)
 have B5 := Lib.hid (B5.out.below hb B5.out.lt)
 have KG := Lib.hid (KG.out.trans (hb.mono KG.out.size))
 clear hb CK
 have CN := Lib.hid (con_c A3 x0 x1 x2 x3 ok w1 B3.out (H4.out.below KG.out) HB4.out)
 go_wp2_with fail
 with_reducible refine CN.out.mono ?_
 rintro e w2 ⟨rfl, hb⟩
 have B5 := Lib.hid (B5.out.below hb B5.out.lt)
 have KG := Lib.hid (KG.out.trans (hb.mono KG.out.size))
 clear hb CN
 have c0 := B5.out.cell (i := 0) rfl
 have c1 := B5.out.cell (i := 1) rfl
 have c2 := B5.out.cell (i := 2) rfl
 have c3 := B5.out.cell (i := 3) rfl
 have cf := B5.out.fz
 have cl := B5.out.lt
 go_wp2_with fail
 exact bodyPost_ret (results_ct rfl _ _ _ _ _ _ _ rfl (put4_bxs B5.out ..) Tryz.underlying28 rfl (by kernel_rfl)) rfl ⟨rfl, put4_below KG.out HA4.out ..⟩
set_option maxRecDepth 100000 in
set_option maxHeartbeats 4000000 in
theorem mul_b1 (x y : PV) (w : World) (hx : BP w x) (hn : x.n ≤ 1000000000) : Calls Tryz.prog 20 #[x.v, y.v] w fun e w' => e = .returned (.tuple #[.slice none 0 0, .int .i64 1]) ∧ Below w.heap.size w w' := by
 have C1 := Lib.hid (check_b hx hn)
 obtain ⟨xa, xn, xc⟩ := x
 obtain ⟨ya, yn, yc⟩ := y
 change Calls Tryz.prog 20 #[.slice xa xn xc, .slice ya yn yc] w _
 clear hx hn
 go_enter Tryz.func20, Tryz.ntmps20
 go_wp2_with fail
 with_reducible refine C1.out.mono ?_
 rintro e w1 ⟨rfl, hb⟩
 have KG := Lib.hid hb
 clear hb C1
 go_wp2_with fail
 go_ret2
 exact ⟨rfl, KG.out⟩
set_option maxRecDepth 100000 in
set_option maxHeartbeats 4000000 in
theorem mul_b2 (x y : PV) (P : List Tm) (w : World) (hx : KP w x P) (hp : ∀ t ∈ P, LQ t.2 900000) (hn : x.n ≤ 1000000000) (hy : BP w y) (hm : y.n ≤ 1000000000) : Calls Tryz.prog 20 #[x.v, y.v] w fun e w' => e = .returned (.tuple #[.slice none 0 0, .int .i64 1]) ∧ Below w.heap.size w w' := by
 have C1 := Lib.hid (check_k hx hp hn)
 have HY := Lib.hid hy; have HM := Lib.hid hm
 obtain ⟨xa, xn, xc⟩ := x
 obtain ⟨ya, yn, yc⟩ := y
 change Calls Tryz.prog 20 #[.slice xa xn xc, .slice ya yn yc] w _
 clear hx hp hn hy hm
 go_enter Tryz.func20, Tryz.ntmps20
 go_wp2_with fail
 with_reducible refine C1.out.mono ?_
 rintro e w1 ⟨rfl, hb⟩
 have KG := Lib.hid hb
 have C2 := Lib.hid (check_b (HY.out.below hb) HM.out)
 clear hb C1
 go_wp2_with fail
 with_reducible refine C2.out.mono ?_
 rintro e w2 ⟨rfl, hb⟩
 have KG := Lib.hid (KG.out.trans (hb.mono KG.out.size))
 clear hb C2
 go_wp2_with fail
 go_ret2
 exact ⟨rfl, KG.out⟩
set_option maxRecDepth 100000 in
set_option maxHeartbeats 4000000 in
theorem lmul_b (x y : PV) (w : World) (h : Calls Tryz.prog 20 #[x.v, y.v] w fun e w' => e = .returned (.tuple #[.slice none 0 0, .int .i64 1]) ∧ Below w.heap.size w w') : Calls Tryz.prog 30 #[x.v, y.v] w fun e w' => e = .returned (.slice none 0 0) ∧ Below w.heap.size w w' := by
 have MU := Lib.hid h
 clear h
 obtain ⟨xa, xn, xc⟩ := x
 obtain ⟨ya, yn, yc⟩ := y
 change Calls Tryz.prog 30 #[.slice xa xn xc, .slice ya yn yc] w _
 go_enter Tryz.func30, Tryz.ntmps30
 go_wp2_with fail
 with_reducible refine MU.out.mono ?_
 rintro e w1 ⟨rfl, hb⟩
 have KG := Lib.hid hb
 clear hb MU
 go_wp2_with fail
 go_ret
 exact ⟨rfl, KG.out⟩
theorem DF.only {w w' : World} {lo c : Nat} {x : FV} {q : Rat} {es : Array MapEntry} {k : Nat} (h : DF w lo x q) (ho : Only c w w') (hc : w.heap[c]? = some (.map es k)) : DF w' lo x q :=
 h.kept fun b hb => by
  obtain ⟨cur, h1⟩ := DF.blkc h hb
  exact ho.2.2.2.2 b (lt_of_block h1) fun e => by rw [e, hc] at h1; cases h1
theorem MK.only {w w' : World} {lo b c : Nat} {L : List TE} {es : Array MapEntry} {k : Nat} (h : MK w lo b L) (ho : Only c w w') (hc : w.heap[c]? = some (.map es k)) (hne : b ≠ c) : MK w' lo b L :=
 ⟨(ho.2.2.2.2 b h.lt hne).trans h.blk, h.ge, fun e he => DF.only (h.df e he) ho hc, h.ap, h.keys, h.small⟩
theorem coefP_snoc (A : List Tm) (t : Tm) (i k : Nat) : coefP (A ++ [t]) i k = coefP A i k ++ (if t.1.at i = k then [(t.1.cut i, t.2)] else []) := by
 unfold coefP
 rw [List.filter_append, List.map_append]
 congr 1
 by_cases h : t.1.at i = k
 ·rw [if_pos h, List.filter_cons_of_pos (by simpa using h)]
  rfl
 ·rw [if_neg h, List.filter_cons_of_neg (by simpa using h)]
  rfl
theorem nf_id {P : List Tm} (h : Canon P) : nf P = P := canon_same (nf_canon _) h fun f => by rw [nf_ev]
theorem coefP_lq {P : List Tm} {K : Nat} (h : ∀ t ∈ P, LQ t.2 K) (i k : Nat) : ∀ t ∈ coefP P i k, LQ t.2 K := fun t ht => by
 obtain ⟨s, hs, rfl⟩ := List.mem_map.1 ht
 exact h s (List.mem_filter.1 hs).1
theorem cut_small {m : Mo} (h : m.Small) (i : Nat) : (m.cut i).Small := by
 obtain ⟨h1, h2, h3, h4⟩ := h
 unfold Mo.cut
 split
 ·exact ⟨Nat.zero_le _, h2, h3, h4⟩
 ·split
  ·exact ⟨h1, Nat.zero_le _, h3, h4⟩
  ·split
   ·exact ⟨h1, h2, Nat.zero_le _, h4⟩
   ·exact ⟨h1, h2, h3, Nat.zero_le _⟩
structure MR (w : World) (lo g d i : Nat) (A : List Tm) (bs : Nat → Option Nat) (Ms : Nat → List TE) : Prop where
 row : w.rowIs g 86 (d + 1) (fun k => .map (bs k))
 nil : ∀ k, k ≤ d → bs k = none → coefP A i k = []
 got : ∀ k b, k ≤ d → bs k = some b → MK w lo b (Ms k) ∧ ∀ f, ev ((Ms k).map tm) f = ev (coefP A i k) f
 inj : ∀ k j b, k ≤ d → j ≤ d → bs k = some b → bs j = some b → k = j
theorem MR.below {w w' : World} {lo g d i : Nat} {A : List Tm} {bs : Nat → Option Nat} {Ms : Nat → List TE} (h : MR w lo g d i A bs Ms) (hb : Below w.heap.size w w') : MR w' lo g d i A bs Ms :=
 ⟨h.row.of_block (hb.block g h.row.lt), h.nil, fun k b hk h1 => ⟨(h.got k b hk h1).1.below hb, (h.got k b hk h1).2⟩, h.inj⟩
theorem MR.fill {w : World} {lo g d i : Nat} {A : List Tm} {bs : Nat → Option Nat} {Ms : Nat → List TE} (h : MR w lo g d i A bs Ms) {k : Nat} (hk : k ≤ d) (h0 : bs k = none) (hlo : lo ≤ w.heap.size) :
  MR ((w.alloc (.map #[] 0)).setCell ⟨g, k, none⟩ (.map (some w.heap.size))) lo g d i A (fun j => if j = k then some w.heap.size else bs j) (fun j => if j = k then [] else Ms j) := by
 have hg := h.row.lt
 have hne : w.heap.size ≠ g := by omega
 have old : ∀ b, b < w.heap.size → b ≠ g → ((w.alloc (.map #[] 0)).setCell ⟨g, k, none⟩ (.map (some w.heap.size))).heap[b]? = w.heap[b]? := fun b hb hbg =>
  (Below.heap_setCell _ _ _ _ hbg).trans (heap_alloc_old w _ hb)
 have hrow : ∃ c, w.heap[g]? = some (.cells c 86 (0, 0)) := by obtain ⟨c, h1, _⟩ := h.row; exact ⟨c, h1⟩
 obtain ⟨c, hc⟩ := hrow
 refine ⟨((h.row.alloc _).set k _).congr fun j hj => ?_, fun j hj h1 => ?_, fun j b hj h1 => ?_, fun j j' b hj hj' h1 h2 => ?_⟩
 ·by_cases e : j = k
  ·rw [if_pos e, if_pos e]
  ·rw [if_neg e, if_neg e]
 ·by_cases e : j = k
  ·rw [if_pos e] at h1; cases h1
  ·rw [if_neg e] at h1; exact h.nil j hj h1
 ·by_cases e : j = k
  ·rw [if_pos e] at h1 ⊢
   obtain rfl := Option.some.inj h1
   refine ⟨⟨(Below.heap_setCell _ _ _ _ hne).trans (heap_alloc_new w _), hlo, fun e he => (by cases he), List.Pairwise.nil, List.nodup_nil, fun e he => (by cases he)⟩, fun f => ?_⟩
   subst e
   rw [h.nil j hj h0]
   rfl
  ·rw [if_neg e] at h1 ⊢
   obtain ⟨hm, hv⟩ := h.got j b hj h1
   refine ⟨⟨(old b hm.lt fun e2 => by have h9 := hm.blk; rw [e2, hc] at h9; cases h9).trans hm.blk, hm.ge, fun e he => (hm.df e he).kept fun b' hb' => old b' ((hm.df e he).blks b' hb').2 fun e2 => ?_, hm.ap, hm.keys, hm.small⟩, hv⟩
   obtain ⟨cur, h3⟩ := DF.blkc (hm.df e he) hb'
   rw [e2, hc] at h3
   simp at h3
 ·by_cases e : j = k <;> by_cases e' : j' = k
  ·rw [e, e']
  ·rw [if_pos e] at h1
   rw [if_neg e'] at h2
   have := (h.got j' b hj' h2).1.lt
   have := Option.some.inj h1
   omega
  ·rw [if_neg e] at h1
   rw [if_pos e'] at h2
   have := (h.got j b hj h1).1.lt
   have := Option.some.inj h2
   omega
  ·rw [if_neg e] at h1
   rw [if_neg e'] at h2
   exact h.inj j j' b hj hj' h1 h2
theorem MR.setBxs {w : World} {lo g d i : Nat} {A : List Tm} {bs : Nat → Option Nat} {Ms : Nat → List TE} (h : MR w lo g d i A bs Ms) {b : Nat} {t : TypeId} {l : List Value} (hb : Bxs w b t l) (ht : 110 ≠ t) (hne : g ≠ b) (o : Nat) (v : Value) : MR (w.setCell ⟨b, o, none⟩ v) lo g d i A bs Ms :=
 ⟨h.row.setOther (a := ⟨b, o, none⟩) hne v, h.nil, fun k c hk h1 => ⟨(h.got k c hk h1).1.setBxs hb ht o v, (h.got k c hk h1).2⟩, h.inj⟩
theorem MR.add {w w' : World} {lo g d i b : Nat} {A : List Tm} {bs : Nat → Option Nat} {Ms : Nat → List TE} (h : MR w lo g d i A bs Ms) {m : Mo} {q : Rat} (hk : m.at i ≤ d) (hb : bs (m.at i) = some b) (ho : Only b w w')
  {L' : List TE} (hM : MK w' lo b L') (hL : L'.map tm = putT (m.cut i) q ((Ms (m.at i)).map tm)) : MR w' lo g d i (A ++ [(m, q)]) bs (fun k => if k = m.at i then L' else Ms k) where
 row := h.row.of_block (ho.2.2.2.2 g h.row.lt fun e => by
  obtain ⟨c, h1, _⟩ := h.row
  rw [e, (h.got _ b hk hb).1.blk] at h1
  cases h1)
 nil k hkd h0 := by
  rw [coefP_snoc, h.nil k hkd h0, if_neg fun e => by rw [← e, show ((m, q) : Tm).1.at i = m.at i from rfl, hb] at h0; cases h0]
  rfl
 got k c hkd h1 := by
  by_cases e : k = m.at i
  ·subst e
   obtain rfl : b = c := Option.some.inj (hb.symm.trans h1)
   rw [if_pos rfl]
   refine ⟨hM, fun f => ?_⟩
   rw [hL, ev_putT, (h.got _ b hk hb).2 f, coefP_snoc, if_pos rfl, ev_append]
   show _ = _ + (q * f (m.cut i) + 0)
   grind
  ·rw [if_neg e]
   have hne : c ≠ b := fun hc => e (h.inj k _ b hkd hk (by rw [h1, hc]) hb)
   refine ⟨MK.only (h.got k c hkd h1).1 ho (h.got _ b hk hb).1.blk hne, fun f => ?_⟩
   rw [coefP_snoc, if_neg fun hc => e hc.symm, List.append_nil]
   exact (h.got k c hkd h1).2 f
 inj := h.inj
structure PC (P : List Tm) (n k e : Nat) : Prop where
 c : Canon P
 b : PB P n k e
theorem PC.up {P : List Tm} {n k e n' k' e' : Nat} (h : PC P n k e) (hn : n ≤ n') (hk : k ≤ k') (he : e ≤ e') : PC P n' k' e' := ⟨h.c, h.b.up hn hk he⟩
theorem PC.lq {P : List Tm} {n k e m : Nat} (h : PC P n k e) (hm : k ≤ m) : ∀ t ∈ P, LQ t.2 m := fun t ht => (h.b.lq t ht).up hm
theorem PC.both {P : List Tm} {n k e : Nat} (h : PC P n k e) : ∀ t ∈ P, LQ t.2 k ∧ t.1.le e := fun t ht => ⟨h.b.lq t ht, h.b.ex t ht⟩
theorem PC.nil (n k e : Nat) : PC [] n k e := ⟨Canon.nil, PB.nil n k e⟩
theorem PC.add {P Q : List Tm} {n1 k1 e1 n2 k2 e2 : Nat} (h1 : PC P n1 k1 e1) (h2 : PC Q n2 k2 e2) (k e : Nat) (a : k1 ≤ k) (b : k2 ≤ k) (c : e1 ≤ e) (d : e2 ≤ e) : PC (addP P Q) (n1 + n2) (2 * k + 1) e :=
 ⟨addP_canon _ _, PB.add h1.c h2.c (h1.b.up (Nat.le_refl _) a c) (h2.b.up (Nat.le_refl _) b d)⟩
theorem PC.mul {P Q : List Tm} {n1 k1 e1 n2 k2 e2 : Nat} (h1 : PC P n1 k1 e1) (h2 : PC Q n2 k2 e2) : PC (mulP P Q) (n1 * n2) (n1 * (k1 + k2 + 1)) (e1 + e2) := ⟨mulP_canon _ _, PB.mulC h2.c h1.b h2.b⟩
theorem PC.scale {P : List Tm} {n k e k2 : Nat} {c : Rat} (h : PC P n k e) (hc : LQ c k2) : PC (scaleP c P) n (k + k2) e := ⟨scaleP_canon _ _, PB.scale h.c h.b hc⟩
theorem lq_minus : LQ (-1 : Rat) 3 := by rw [show ((-1 : Rat)) = ((-1 : Int) : Rat) by decide +kernel]; exact lq_neg
theorem PC.sub {P Q : List Tm} {n1 k1 e1 n2 k2 e2 : Nat} (h1 : PC P n1 k1 e1) (h2 : PC Q n2 k2 e2) (k e : Nat) (a : k1 ≤ k) (b : k2 + 3 ≤ k) (c : e1 ≤ e) (d : e2 ≤ e) : PC (subP P Q) (n1 + n2) (2 * k + 1) e :=
 h1.add (h2.scale lq_minus) k e a b c d
theorem dec_le {m : Mo} {e : Nat} (h : m.le e) (i : Nat) : (m.dec i).le e := by
 obtain ⟨h1, h2, h3, h4⟩ := h
 unfold Mo.dec
 split
 ·exact ⟨Nat.le_trans (Nat.sub_le _ _) h1, h2, h3, h4⟩
 ·split
  ·exact ⟨h1, Nat.le_trans (Nat.sub_le _ _) h2, h3, h4⟩
  ·split
   ·exact ⟨h1, h2, Nat.le_trans (Nat.sub_le _ _) h3, h4⟩
   ·exact ⟨h1, h2, h3, Nat.le_trans (Nat.sub_le _ _) h4⟩
theorem small_of_le {m : Mo} {e : Nat} (h : m.le e) (he : e ≤ 65535) : m.Small := ⟨Nat.le_trans h.1 he, Nat.le_trans h.2.1 he, Nat.le_trans h.2.2.1 he, Nat.le_trans h.2.2.2 he⟩
theorem PC.slope {P : List Tm} {n k e : Nat} (h : PC P n k e) (i : Nat) (he : e ≤ 65535) : PC (slopeP P i) n (n * (k + 4)) e := by
 refine ⟨nf_canon _, PB.nf (k := k + 3) ⟨?_, fun t ht => ?_, fun t ht => ?_⟩⟩
 ·unfold slopeL; rw [List.length_map]; exact h.b.len
 ·obtain ⟨s, hs, rfl⟩ := List.mem_map.1 ht
  exact lq_at (small_of_le (h.b.ex s hs) he) i (h.b.lq s hs)
 ·obtain ⟨s, hs, rfl⟩ := List.mem_map.1 ht
  exact dec_le (h.b.ex s hs) i
theorem PC.of {q : Rat} {k : Nat} (h : LQ q k) : PC (nf [(Mo.one, q)]) 1 (k + 1) 0 := by
 have hb : PB [(Mo.one, q)] 1 k 0 := ⟨Nat.le_refl _, fun t ht => by rw [List.mem_singleton.1 ht]; exact h, fun t ht => by rw [List.mem_singleton.1 ht]; exact ⟨Nat.le_refl _, Nat.le_refl _, Nat.le_refl _, Nat.le_refl _⟩⟩
 have h1 := hb.nf
 rw [Nat.one_mul] at h1
 exact ⟨nf_canon _, h1⟩
theorem PC.letter (i : Nat) : PC (letP i) 1 3 1 := by
 refine ⟨letP_canon i, Nat.le_refl _, fun t ht => ?_, fun t ht => ?_⟩
 ·rw [List.mem_singleton.1 ht]
  show LQ (1 : Rat) 3
  rw [show ((1 : Rat)) = ((1 : Int) : Rat) by decide +kernel]
  exact lq_one
 ·rw [List.mem_singleton.1 ht]
  show (letM i).le 1
  unfold letM
  split
  ·exact ⟨by decide, by decide, by decide, by decide⟩
  ·split
   ·exact ⟨by decide, by decide, by decide, by decide⟩
   ·split
    ·exact ⟨by decide, by decide, by decide, by decide⟩
    ·exact ⟨by decide, by decide, by decide, by decide⟩
theorem PC.at {P : List Tm} {n k e kl : Nat} {l : Nat → Rat} (h : PC P n k e) (hl : ∀ i, LQ (l i) kl) : LQ (ev P (atM l)) ((n + 1) * (k + 4 * (e * kl + 1) + 1)) := by
 have hq : ∀ t ∈ P, LQ (t.2 * atM l t.1) (k + 4 * (e * kl + 1)) := fun t ht => by
  have h1 := pw_lq (h.b.lq t ht) hl (fun i => at_one t.1 i e (h.b.ex t ht)) 4
  rwa [pw_four] at h1
 rcases ev_nq hq with h0 | ⟨j, hj0, hj, hn⟩
 ·rw [h0]
  exact lq_zero (Nat.mul_pos (Nat.succ_pos _) (Nat.succ_pos _))
 ·exact hn.lq (Nat.mul_le_mul_right _ (Nat.le_trans hj (Nat.le_succ_of_le h.b.len)))
theorem KP.n_le {w : World} {x : PV} {P : List Tm} {n k e : Nat} (h : KP w x P) (b : PC P n k e) : x.n ≤ n := by rw [h.len]; exact b.b.len
theorem padd {w : World} {x y : PV} {P Q : List Tm} {n1 k1 e1 n2 k2 e2 : Nat} (hx : KP w x P) (b1 : PC P n1 k1 e1) (hy : KP w y Q) (b2 : PC Q n2 k2 e2) (k : Nat) (a : k1 ≤ k) (b : k2 ≤ k) (hk : 2 * k + 2 ≤ 900000) (hn : n1 + n2 ≤ 1000000) :
  Calls Tryz.prog 29 #[x.v, y.v] w fun e w' => ∃ z : PV, e = .returned z.v ∧ DP w' w.heap.size z (addP P Q) ∧ Below w.heap.size w w' :=
 have h1 := hx.n_le b1; have h2 := hy.n_le b2; have h3 := b1.b.len; have h4 := b2.b.len
 add_any x y P Q k w hx.any hy.any (by omega) (by omega) (b1.lq a) (b2.lq b) hk (by omega)
theorem psub {w : World} {x y : PV} {P Q : List Tm} {n1 k1 e1 n2 k2 e2 : Nat} (hx : KP w x P) (b1 : PC P n1 k1 e1) (hy : KP w y Q) (b2 : PC Q n2 k2 e2) (k : Nat) (a : k1 ≤ k) (b : k2 ≤ k) (he : e2 ≤ 65535) (hk : 2 * k + 8 ≤ 900000) (hkk : n2 * (k + 4) ≤ 900000) (hn : n1 + n2 ≤ 1000000) :
  Calls Tryz.prog 35 #[x.v, y.v] w fun e w' => ∃ z : PV, e = .returned z.v ∧ DP w' w.heap.size z (subP P Q) ∧ Below w.heap.size w w' :=
 have h1 := hx.n_le b1; have h2 := hy.n_le b2; have h3 := b1.b.len
 psub_any x y P Q k n2 w hx.any hy.any (by omega) (by omega) (b1.lq a) (b2.b.up (Nat.le_refl _) b he) hk hkk (by omega)
theorem pscale {w : World} {x : PV} {c : FV} {P : List Tm} {r : Rat} {n k e k2 : Nat} (hx : KP w x P) (b1 : PC P n k e) (hc : AF w c r) (lc : LF c 900000) (hr : LQ r k2) (he : e ≤ 65535) (hk : k ≤ 900000) (hn : n ≤ 1000000) (hkk : n * (k + k2 + 1) ≤ 900000) :
  Calls Tryz.prog 14 #[x.v, c.v] w fun e w' => ∃ y : PV, e = .returned y.v ∧ DP w' w.heap.size y (scaleP r P) ∧ Below w.heap.size w w' :=
 have h1 := hx.n_le b1
 scale_any x P c r k n k2 w hx.any (b1.b.up (Nat.le_refl _) (Nat.le_refl _) he) (by omega) hc lc hr hk hkk
theorem plmul {w : World} {x y : PV} {P Q : List Tm} {n1 k1 e1 n2 k2 e2 : Nat} (hx : KP w x P) (b1 : PC P n1 k1 e1) (hy : KP w y Q) (b2 : PC Q n2 k2 e2) (hk : n1 * (k1 + k2 + 1) ≤ 900000) (h1 : k1 ≤ 900000) (h2 : k2 ≤ 900000) (hn : n1 * n2 ≤ 1000000) (hn1 : n1 ≤ 1000000) (hn2 : n2 ≤ 1000000) (he : e1 + e2 ≤ 65535) :
  Calls Tryz.prog 30 #[x.v, y.v] w fun e w' => ∃ z : PV, e = .returned z.v ∧ DP w' w.heap.size z (mulP P Q) ∧ Below w.heap.size w w' :=
 lmul_k x y P Q k1 k2 e1 e2 w hx hy b1.both b2.both (Nat.le_trans (Nat.mul_le_mul_right _ b1.b.len) hk) h1 h2 (Nat.le_trans (Nat.mul_le_mul b1.b.len b2.b.len) hn) (Nat.le_trans b1.b.len hn1) (Nat.le_trans b2.b.len hn2) he
theorem plsame {w : World} {x y : PV} {P Q : List Tm} {n k e : Nat} (hx : KP w x P) (hy : KP w y Q) (h : P = Q) (b : PC P n k e) (hk : k ≤ 900000) (hn : n ≤ 1000000) :
  Calls Tryz.prog 72 #[x.v, y.v] w fun e w' => e = .returned (.bool true) ∧ Below w.heap.size w w' := by
 subst h
 exact lsame_k x y P w hx hy (b.lq hk) (Nat.le_trans b.b.len hn)
theorem pdegree {w : World} {x : PV} {P : List Tm} {n k e : Nat} (i : Nat) (hi : i < 4) (hx : KP w x P) (b : PC P n k e) (hk : k ≤ 900000) (hn : n ≤ 1000000) : Calls Tryz.prog 73 #[x.v, .int .i64 (i : Int)] w fun e w' => e = .returned (.int .i64 (degP P i)) ∧ Below w.heap.size w w' :=
 degree_k i hi x P w hx.any (b.lq hk) (Nat.le_trans (hx.n_le b) hn)
theorem pslope {w : World} {x : PV} {P : List Tm} {n k e : Nat} (i : Nat) (hi : i < 4) (hx : KP w x P) (b : PC P n k e) (hn : n ≤ 1000000) (hkk : n * (k + 4) ≤ 900000) (hk : k ≤ 900000) : Calls Tryz.prog 71 #[x.v, .int .i64 (i : Int)] w fun e w' => ∃ y : PV, e = .returned (.tuple #[y.v, .int .i64 0]) ∧ DP w' w.heap.size y (slopeP P i) ∧ Below w.heap.size w w' :=
 slope_k i hi x P k w hx (b.lq (Nat.le_refl _)) (Nat.le_trans b.b.len hn) (Nat.le_trans (Nat.mul_le_mul_right _ b.b.len) hkk) hk
theorem pof {w : World} {c : FV} {q : Rat} {k : Nat} (hc : AF w c q) (lc : LF c 900000) (hq : LQ q k) (hk : k ≤ 400000) : Calls Tryz.prog 32 #[c.v] w fun e w' => ∃ y : PV, e = .returned y.v ∧ DP w' w.heap.size y (nf [(Mo.one, q)]) ∧ Below w.heap.size w w' :=
 of_num c q w hc lc (hq.up hk)
theorem pat {w : World} {x : PV} {P : List Tm} {x0 x1 x2 x3 : FV} {l : Nat → Rat} {n k e kl : Nat} (hx : KP w x P) (b : PC P n k e) (h4 : K4 w x0 x1 x2 x3 l) (hl : ∀ i, LQ (l i) kl)
  (hn : n ≤ 1000000) (hE : e ≤ 65535) (hk : (n + 1) * (k + 4 * (e * kl + 1) + 1) ≤ 900000) (hkl : kl ≤ 900000) :
  Calls Tryz.prog 28 #[x.v, .agg #[.bool x0.t.s, .slice x0.t.a x0.t.n x0.t.c, .bool x0.l.s, .slice x0.l.a x0.l.n x0.l.c, .bool x1.t.s, .slice x1.t.a x1.t.n x1.t.c, .bool x1.l.s, .slice x1.l.a x1.l.n x1.l.c, .bool x2.t.s, .slice x2.t.a x2.t.n x2.t.c, .bool x2.l.s, .slice x2.l.a x2.l.n x2.l.c, .bool x3.t.s, .slice x3.t.a x3.t.n x3.t.c, .bool x3.l.s, .slice x3.l.a x3.l.n x3.l.c]] w fun e w' => ∃ y : FV, e = .returned (.tuple #[y.v, .int .i64 0]) ∧ DF w' w.heap.size y (ev P (atM l)) ∧ Below w.heap.size w w' :=
 at_k x P x0 x1 x2 x3 l k kl e w hx h4 b.both hl (Nat.le_trans b.b.len hn) hE (Nat.le_trans (Nat.mul_le_mul_right _ (Nat.succ_le_succ b.b.len)) hk) hkl
def rowT (T : TypeId) : Bool := T == 50 || T == 110
theorem DP.rows {w w' : World} {lo : Nat} {x : PV} {P : List Tm} (h : DP w lo x P) (hs : ∀ (b : Nat) (c : Array Value) (T : TypeId), w.heap[b]? = some (.cells c T (0, 0)) → rowT T = true → w'.heap[b]? = w.heap[b]?) : DP w' lo x P := by
 obtain ⟨L, h1, h2, h3, h4⟩ := h.ex
 refine ⟨⟨L, ⟨h1.1, h1.2.imp id ?_⟩, fun e he => (h2 e he).kept fun b hb => ?_, h3, h4⟩, h.canon, h.small⟩
 ·rintro ⟨g, cap, cur, hv, hlo, hgk, h3⟩
  exact ⟨g, cap, cur, hv, hlo, (hs g _ _ hgk rfl).trans hgk, h3⟩
 ·obtain ⟨cur, h5⟩ := DF.blkc (h2 e he) hb
  exact hs b _ _ h5 rfl
theorem get2 {α : Type} {a b : α} {Φ : Nat → α → Prop} (h0 : Φ 0 a) (h1 : Φ 1 b) : ∀ i e, [a, b][i]? = some e → Φ i e := fun i e h => by
 match i, h with
 | 0, h => exact (Option.some.inj h) ▸ h0
 | 1, h => exact (Option.some.inj h) ▸ h1
theorem RawQ.gr {w : World} {x : PV} {L : List TO} (h : RawQ w x L) : RT w x.a (L.map Prod.fst) ∧ (L.map Prod.fst).length = x.n := ⟨h.1, by rw [List.length_map]; exact h.2.1⟩
theorem great2P {w : World} {g m : Nat} {x y : PV} {L M : List TO} (hb : Bxs w g 23 [x.v, y.v]) (h1 : RawQ w x L) (h2 : RawQ w y M) (hm : m ≤ 1000) :
  Calls Tryz.prog 9 #[.int .i64 m, .slice (some ⟨g, 0, none⟩) 2 2] w (BR w (NotGreat m (L.map Prod.fst) ∧ NotGreat m (M.map Prod.fst))) :=
 (pgreat_any g m 2 [(x, L.map Prod.fst), (y, M.map Prod.fst)] w rfl (get2 (Φ := fun i (e : PV × List TV) => w.cell? ⟨g, i, none⟩ = some e.1.v) (hb.cell (i := 0) rfl) (hb.cell (i := 1) rfl)) (pair_get h1.gr h2.gr) (by simp) hm).mono
  fun e w' ⟨b, g1, g2, g3⟩ => ⟨b, g1, fun hb => ⟨g2 hb (x, L.map Prod.fst) (by simp), g2 hb (y, M.map Prod.fst) (by simp)⟩, g3⟩
theorem ptall {w : World} {x : PV} {L : List TO} {m : Nat} (h : RawQ w x L) (hg : NotGreat m (L.map Prod.fst)) (hm : m ≤ 1000) : Calls Tryz.prog 27 #[x.v] w (BR w (∀ e ∈ L, e.1.m.le 12)) :=
 (tall_any x (L.map Prod.fst) w h.1 (by rw [List.length_map]; exact h.2.1) (by have h1 := hg.1; rw [List.length_map, h.2.1] at h1; omega)).mono fun e w' ⟨b, g1, g2, g3⟩ => ⟨b, g1, fun hb e he => g2 hb e.1 (List.mem_map_of_mem he), g3⟩
theorem RawQ.rawP {w : World} {x : PV} {L : List TO} {m : Nat} (h : RawQ w x L) (hg : NotGreat m (L.map Prod.fst)) : RawP w x L := h.raw fun e he => by
 obtain ⟨h1, h2⟩ := hg.2 e.1 (List.mem_map_of_mem he)
 exact ⟨Nat.le_trans h1 (by decide), Nat.le_trans h2 (by decide)⟩
theorem raw_cases {w : World} {x : PV} {L : List TO} {m E : Nat} (h : RawQ w x L) (hg : NotGreat m (L.map Prod.fst)) (hw : ∀ e ∈ L, e.1.m.le E) : (∃ P, KP w x P ∧ PC P m 4 E) ∨ BP w x := by
 have hr := h.rawP hg
 by_cases hk : okP L
 ·obtain ⟨P, hv, hc⟩ := hk
  refine Or.inl ⟨P, hr.kp hv hc, hc, ?_⟩
  obtain ⟨K, hK, hP⟩ := vals_spec hv
  have hin : ∀ e ∈ K, (e.1, some e.2) ∈ L := fun e he => by rw [hK]; exact List.mem_map_of_mem he
  refine ⟨?_, fun t ht => ?_, fun t ht => ?_⟩
  ·have h1 := hg.1
   rw [List.length_map, hK, List.length_map] at h1
   rw [← hP, List.length_map]
   exact h1
  ·rw [← hP] at ht
   obtain ⟨e, he, rfl⟩ := List.mem_map.1 ht
   have h1 : KF w e.1.c e.2 := hr.2.2.2.1 _ (hin e he)
   obtain ⟨h2, h3⟩ := hg.2 e.1 (List.mem_map_of_mem (f := Prod.fst) (hin e he))
   exact h1.lq ⟨h2, Nat.le_trans h3 (by decide)⟩
  ·rw [← hP] at ht
   obtain ⟨e, he, rfl⟩ := List.mem_map.1 ht
   exact hw _ (hin e he)
 ·exact Or.inr ⟨L, hr, hk⟩
theorem BP.n_le {w : World} {x : PV} {L : List TO} {m : Nat} (h : RawQ w x L) (hg : NotGreat m (L.map Prod.fst)) : x.n ≤ m := by
 have h1 := hg.1
 rw [List.length_map, h.2.1] at h1
 exact h1
end Go.Proofs.YthcccdjfedbnfaaGreatDoor.Pol
