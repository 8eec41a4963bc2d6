/-
  The document's answer for fracs: Div; both Divs, any two fractions; how great a quotient's numbers are.
-/
import Derived.Test.YthcccdjfedbnfaaGreatDoorPpF
set_option linter.unusedSimpArgs false
set_option linter.unusedVariables false
namespace Go.Proofs.YthcccdjfedbnfaaGreatDoor.Limb
open Go.RowKit Go.Sort Go.Fresh
theorem results_cc {P : Program} {fn : Func} {p q : Tmp} {ty ty2 : TypeId} (h : fn.results = #[.cell p ty, .cell q ty2]) (tmps : Array Value) (w : World) (g g2 : Nat) (ta tb : TypeId) (cs cs2 : Array Value) (fr fr2 : Nat × Nat) (d d2 : TypeDesc)
  (hp : tmps.getD p undef = .pointer (some ⟨g, 0, none⟩)) (hg : w.heap[g]? = some (.cells cs ta fr)) (hq : tmps.getD q undef = .pointer (some ⟨g2, 0, none⟩)) (hg2 : w.heap[g2]? = some (.cells cs2 tb fr2))
  (hu : P.underlying ty = some d) (hd : (match d with | .struct _ | .array _ _ => true | _ => false) = true) (hi : (P.info? ty).map (·.size) = some cs.size)
  (hu2 : P.underlying ty2 = some d2) (hd2 : (match d2 with | .struct _ | .array _ _ => true | _ => false) = true) (hi2 : (P.info? ty2).map (·.size) = some cs2.size) :
  (results fn tmps).run P w = .ok (.tuple #[.agg cs, .agg cs2]) w := by
 have hp' : tmps[p]?.getD undef = .pointer (some ⟨g, 0, none⟩) := by simpa using hp
 have hq' : tmps[q]?.getD undef = .pointer (some ⟨g2, 0, none⟩) := by simpa using hq
 simp [results, h, hp', hq', asAddr, run_loadVar_row w g ta ty cs fr d hg hu hd hi, run_loadVar_row w g2 tb ty2 cs2 fr2 d2 hg2 hu2 hd2 hi2]
set_option maxRecDepth 100000 in
set_option maxHeartbeats 4000000 in
theorem brought_any (s1 : Bool) (a1 : Option Addr) (n1 c1 : Nat) (o1 : Nat → Int) (s2 : Bool) (a2 : Option Addr) (n2 c2 : Nat) (o2 : Nat → Int) (s3 : Bool) (a3 : Option Addr) (n3 c3 : Nat) (o3 : Nat → Int) (s4 : Bool) (a4 : Option Addr) (n4 c4 : Nat) (o4 : Nat → Int) (w : World) (x y : Rat)
  (hx : x = valF s1 n1 o1 s2 n2 o2) (hy : y = valF s3 n3 o3 s4 n4 o4)
  (h1 : Rd w a1 n1 o1) (hn1 : n1 ≤ 1000000) (hc1 : n1 ≤ c1) (h2 : Rd w a2 n2 o2) (hn2 : n2 ≤ 1000000) (hc2 : n2 ≤ c2) (h3 : Rd w a3 n3 o3) (hn3 : n3 ≤ 1000000) (hc3 : n3 ≤ c3) (h4 : Rd w a4 n4 o4) (hn4 : n4 ≤ 1000000) (hc4 : n4 ≤ c4) :
  Calls Tryz.prog 66 #[fracV s1 a1 n1 c1 s2 a2 n2 c2, fracV s3 a3 n3 c3 s4 a4 n4 c4] w (Brought w (x.num * (y.den : Int)) (y.num * (x.den : Int)) ((x.den : Int) * (y.den : Int))) := by
 have hfar : ∀ {a : Option Addr} {n : Nat} {o : Nat → Int}, Rd w a n o → 0 < n → ∀ p, a = some p → p.block < w.heap.size := fun h h0 p hp => by
  obtain ⟨b, off, e, hc⟩ := h.cells h0
  rw [e] at hp; cases hp
  exact block_lt_of_cell (hc 0 h0)
 have OX := Lib.hid (fun (w' : World) (hb : Below w.heap.size w w') => fof2_any s1 a1 n1 c1 o1 s2 a2 n2 c2 o2 w' w.heap.size hb.size (h1.below hb) (by omega) hc1 (hfar h1) (h2.below hb) (by omega) hc2 (hfar h2))
 have OY := Lib.hid (fun (w' : World) (hb : Below w.heap.size w w') => fof2_any s3 a3 n3 c3 o3 s4 a4 n4 c4 o4 w' w.heap.size hb.size (h3.below hb) (by omega) hc3 (hfar h3) (h4.below hb) (by omega) hc4 (hfar h4))
 have l1 := valF_len (s1 := s1) (s2 := s2) h1.rng h2.rng
 have l2 := valF_len (s1 := s3) (s2 := s4) h3.rng h4.rng
 rw [← hx] at OX l1
 rw [← hy] at OY l2
 obtain ⟨p, hp⟩ : ∃ p, p = x.num := ⟨_, rfl⟩
 obtain ⟨q, hq⟩ : ∃ q : Int, q = (x.den : Int) := ⟨_, rfl⟩
 obtain ⟨r, hr⟩ : ∃ r, r = y.num := ⟨_, rfl⟩
 obtain ⟨t, ht⟩ : ∃ t : Int, t = (y.den : Int) := ⟨_, rfl⟩
 rw [← hp, ← hq] at OX l1
 rw [← hr, ← ht] at OY l2
 rw [← hp, ← hq, ← hr, ← ht]
 have HL := Lib.hid (show (lenB p.natAbs ≤ 1000001 ∧ lenB q.natAbs ≤ 1000001) ∧ lenB r.natAbs ≤ 1000001 ∧ lenB t.natAbs ≤ 1000001 by omega)
 clear hp hq hr ht hx hy h1 h2 h3 h4 l1 l2 hfar
 have HB1 := Lib.hid ((((Bxs.new w 28 [.bool s1, .slice a1 n1 c1, .bool s2, .slice a2 n2 c2]).alloc (.cells #[.bool s3, .slice a3 n3 c3, .bool s4, .slice a4 n4 c4] 28)).alloc (.cells #[.bool false, .slice none 0 0, .bool false, .slice none 0 0] 76)).alloc (.cells #[.bool false, .slice none 0 0] 26))
 have HB2 := Lib.hid (((Bxs.new (w.alloc (.cells #[.bool s1, .slice a1 n1 c1, .bool s2, .slice a2 n2 c2] 28)) 28 [.bool s3, .slice a3 n3 c3, .bool s4, .slice a4 n4 c4]).alloc (.cells #[.bool false, .slice none 0 0, .bool false, .slice none 0 0] 76)).alloc (.cells #[.bool false, .slice none 0 0] 26))
 have HB4 := Lib.hid ((Bxs.new ((w.alloc (.cells #[.bool s1, .slice a1 n1 c1, .bool s2, .slice a2 n2 c2] 28)).alloc (.cells #[.bool s3, .slice a3 n3 c3, .bool s4, .slice a4 n4 c4] 28)) 76 [.bool false, .slice none 0 0, .bool false, .slice none 0 0]).alloc (.cells #[.bool false, .slice none 0 0] 26))
 have HB5 := Lib.hid (Bxs.new (((w.alloc (.cells #[.bool s1, .slice a1 n1 c1, .bool s2, .slice a2 n2 c2] 28)).alloc (.cells #[.bool s3, .slice a3 n3 c3, .bool s4, .slice a4 n4 c4] 28)).alloc (.cells #[.bool false, .slice none 0 0, .bool false, .slice none 0 0] 76)) 26 [.bool false, .slice none 0 0])
 obtain ⟨W, hW⟩ : ∃ W, W = (((w.alloc (.cells #[.bool s1, .slice a1 n1 c1, .bool s2, .slice a2 n2 c2] 28)).alloc (.cells #[.bool s3, .slice a3 n3 c3, .bool s4, .slice a4 n4 c4] 28)).alloc (.cells #[.bool false, .slice none 0 0, .bool false, .slice none 0 0] 76)).alloc (.cells #[.bool false, .slice none 0 0] 26) := ⟨_, rfl⟩
 have KG := Lib.hid (show Below w.heap.size w W by rw [hW]; exact ((((Below.refl _ _).alloc (Nat.le_refl _) _).alloc (by go_size) _).alloc (by go_size) _).alloc (by go_size) _)
 have hWs : w.heap.size + 4 = W.heap.size := by rw [hW]; simp
 have HB1 := Lib.hid (show Bxs W w.heap.size 28 [.bool s1, .slice a1 n1 c1, .bool s2, .slice a2 n2 c2] by rw [hW]; exact HB1.out)
 have HB2 := Lib.hid (show Bxs W (w.heap.size + 1) 28 [.bool s3, .slice a3 n3 c3, .bool s4, .slice a4 n4 c4] by have h := HB2.out; simp only [World.size_alloc] at h; rw [hW]; exact h)
 have HB4 := Lib.hid (show Bxs W (w.heap.size + 1 + 1) 76 [.bool false, .slice none 0 0, .bool false, .slice none 0 0] by have h := HB4.out; simp only [World.size_alloc] at h; rw [hW]; exact h)
 have HB5 := Lib.hid (show Bxs W (w.heap.size + 1 + 1 + 1) 26 [.bool false, .slice none 0 0] by have h := HB5.out; simp only [World.size_alloc] at h; rw [hW]; exact h)
 have HW := Lib.hid hW
 have HWS := Lib.hid hWs
 clear hW hWs
 go_enter Tryz.func66, Tryz.ntmps66
 go_upto_region 1 with (fail)
 rw [show (((w.alloc (.cells #[.bool s1, .slice a1 n1 c1, .bool s2, .slice a2 n2 c2] 28)).alloc (.cells #[.bool s3, .slice a3 n3 c3, .bool s4, .slice a4 n4 c4] 28)).alloc (.cells #[.bool false, .slice none 0 0, .bool false, .slice none 0 0] 76)).alloc (.cells #[.bool false, .slice none 0 0] 26) = W from HW.out.symm]
 clear HW
 have HS := Lib.hid (fun (w' : World) (hb : Below W.heap.size W w') => And.intro (frac_box (HB1.out.below hb HB1.out.lt)) (frac_box (HB2.out.below hb HB2.out.lt)))
 refine wp_region_fresh 3 (spOf [(1, Sp.made (fracX p q) (fun x w' => FracI w' w.heap.size (w.heap.size + 4) p q x))]) (fun w' => Below W.heap.size W w') (by kernel_rfl) (by kernel_rfl)
  (spOf_cons (Sp.made_keeps fun x w w' h hb => h.below hb) spOf_nil) (fun _ _ h hb => h.trans (hb.mono h.size)) ((Below.refl _ _).drew) ?_
 simp only [List.take_succ_cons, List.take_zero, List.drop_succ_cons, List.drop_zero]
 (refine wpF_reads rfl rfl ?_ (fun w' hw' => ?_) ?_; rotate_left; · (have hb' := Has.world hw'; (obtain ⟨x0, x1, x2, x3, x4, x5⟩ := (HS.out _ hb').1); clear hw'; go_simp; try rfl))
 conv => arg 9; simp only [Act.put, Go.q0, Go.q1, Go.q2]
 refine wpF_spec rfl rfl (fun w' hw' => ?_) ?_
 ·have hb' := hw'.world
  go_simp
  refine (OX.out w' (KG.out.trans (hb'.mono KG.out.size))).mono ?_
  intro e w'' hh
  obtain ⟨z, rfl, hi, hb⟩ := fracS_ex hh
  exact ⟨_, rfl, ⟨⟨z.1, z.2.1, z.2.2.1, z.2.2.2, rfl⟩, ⟨z.1, z.2.1, z.2.2.1, z.2.2.2, rfl, hi.up (by have := hb'.size; have := HWS.out; omega)⟩⟩, hb⟩
 rintro _ ⟨xa, rfl⟩
 conv => arg 9; simp only [Act.put, Go.q0, Go.q1, Go.q2]
 (refine wpF_reads rfl rfl ?_ (fun w' hw' => ?_) ?_; rotate_left; · (have hb' := Has.world hw'; (obtain ⟨x0, x1, x2, x3, x4, x5⟩ := (HS.out _ hb').2); clear hw'; go_simp; try rfl))
 conv => arg 9; simp only [Act.put, Go.q0, Go.q1, Go.q2]
 refine wpF_nil (fun w1 hb1 hF => ?_)
 have HXA := Lib.hid (fracI_of (hF 1))
 have GB := Lib.hid hb1
 clear hF hb1
 go_wp2_with fail
 have OY1 := Lib.hid (OY.out w1 (KG.out.trans (GB.out.mono KG.out.size)))
 clear OX OY HS
 with_reducible refine OY1.out.mono ?_
 intro e w2 hh
 obtain ⟨yb, rfl, hi, hb⟩ := fracS_ex hh
 have HYB := Lib.hid (hi.up (show w.heap.size + 4 ≤ w1.heap.size by have := GB.out.size; have := HWS.out; omega))
 have HXA := Lib.hid (HXA.out.below hb)
 have GB := Lib.hid (GB.out.trans (hb.mono GB.out.size))
 clear hh hi hb OY1
 have M1 := Lib.hid (HB1.out.below GB.out HB1.out.lt)
 have M2 := Lib.hid (HB2.out.below GB.out HB2.out.lt)
 have M4 := Lib.hid (HB4.out.below GB.out HB4.out.lt)
 have M5 := Lib.hid (HB5.out.below GB.out HB5.out.lt)
 obtain ⟨x0, x1, x2, x3, x4, x5⟩ := frac_box M1.out
 obtain ⟨y0, y1, y2, y3, y4, y5⟩ := frac_box M2.out
 go_upto_region 2 with (fail)
 obtain ⟨V, hV⟩ : ∃ V, V = ((((((((w2.setCell ⟨w.heap.size, 0, none⟩ (.bool (decide (p < 0)))).setCell ⟨w.heap.size, 1, none⟩ (.slice xa.1 (lenB p.natAbs) xa.2.1)).setCell ⟨w.heap.size, 2, none⟩ (.bool (decide (q < 0)))).setCell ⟨w.heap.size, 3, none⟩ (.slice xa.2.2.1 (lenB q.natAbs) xa.2.2.2)).setCell ⟨w.heap.size + 1, 0, none⟩ (.bool (decide (r < 0)))).setCell ⟨w.heap.size + 1, 1, none⟩ (.slice yb.1 (lenB r.natAbs) yb.2.1)).setCell ⟨w.heap.size + 1, 2, none⟩ (.bool (decide (t < 0)))).setCell ⟨w.heap.size + 1, 3, none⟩ (.slice yb.2.2.1 (lenB t.natAbs) yb.2.2.2)) := ⟨_, rfl⟩
 have M1 := Lib.hid (show Bxs V w.heap.size 28 [.bool (decide (p < 0)), .slice xa.1 (lenB p.natAbs) xa.2.1, .bool (decide (q < 0)), .slice xa.2.2.1 (lenB q.natAbs) xa.2.2.2] by rw [hV]; exact ((((((((M1.out.put 0 _).put 1 _).put 2 _).put 3 _).other (by dsimp only; omega) _).other (by dsimp only; omega) _).other (by dsimp only; omega) _).other (by dsimp only; omega) _))
 have M2 := Lib.hid (show Bxs V (w.heap.size + 1) 28 [.bool (decide (r < 0)), .slice yb.1 (lenB r.natAbs) yb.2.1, .bool (decide (t < 0)), .slice yb.2.2.1 (lenB t.natAbs) yb.2.2.2] by rw [hV]; exact ((((((((M2.out.other (by dsimp only; omega) _).other (by dsimp only; omega) _).other (by dsimp only; omega) _).other (by dsimp only; omega) _).put 0 _).put 1 _).put 2 _).put 3 _))
 have M4 := Lib.hid (show Bxs V (w.heap.size + 1 + 1) 76 [.bool false, .slice none 0 0, .bool false, .slice none 0 0] by rw [hV]; exact ((((((((M4.out.other (by dsimp only; omega) _).other (by dsimp only; omega) _).other (by dsimp only; omega) _).other (by dsimp only; omega) _).other (by dsimp only; omega) _).other (by dsimp only; omega) _).other (by dsimp only; omega) _).other (by dsimp only; omega) _))
 have M5 := Lib.hid (show Bxs V (w.heap.size + 1 + 1 + 1) 26 [.bool false, .slice none 0 0] by rw [hV]; exact ((((((((M5.out.other (by dsimp only; omega) _).other (by dsimp only; omega) _).other (by dsimp only; omega) _).other (by dsimp only; omega) _).other (by dsimp only; omega) _).other (by dsimp only; omega) _).other (by dsimp only; omega) _).other (by dsimp only; omega) _))
 have HXA := Lib.hid (show FracI V w.heap.size (w.heap.size + 4) p q xa by rw [hV]; exact ((((((((HXA.out.set (by dsimp only; omega) (by dsimp only; omega) _).set (by dsimp only; omega) (by dsimp only; omega) _).set (by dsimp only; omega) (by dsimp only; omega) _).set (by dsimp only; omega) (by dsimp only; omega) _).set (by dsimp only; omega) (by dsimp only; omega) _).set (by dsimp only; omega) (by dsimp only; omega) _).set (by dsimp only; omega) (by dsimp only; omega) _).set (by dsimp only; omega) (by dsimp only; omega) _))
 have HYB := Lib.hid (show FracI V w.heap.size (w.heap.size + 4) r t yb by rw [hV]; exact ((((((((HYB.out.set (by dsimp only; omega) (by dsimp only; omega) _).set (by dsimp only; omega) (by dsimp only; omega) _).set (by dsimp only; omega) (by dsimp only; omega) _).set (by dsimp only; omega) (by dsimp only; omega) _).set (by dsimp only; omega) (by dsimp only; omega) _).set (by dsimp only; omega) (by dsimp only; omega) _).set (by dsimp only; omega) (by dsimp only; omega) _).set (by dsimp only; omega) (by dsimp only; omega) _))
 have hG := KG.out.trans (GB.out.mono KG.out.size)
 have KG := Lib.hid (show Below w.heap.size w V by rw [hV]; exact ((((((((hG.setCell (by dsimp only; omega) _).setCell (by dsimp only; omega) _).setCell (by dsimp only; omega) _).setCell (by dsimp only; omega) _).setCell (by dsimp only; omega) _).setCell (by dsimp only; omega) _).setCell (by dsimp only; omega) _).setCell (by dsimp only; omega) _))
 rw [show ((((((((w2.setCell ⟨w.heap.size, 0, none⟩ (.bool (decide (p < 0)))).setCell ⟨w.heap.size, 1, none⟩ (.slice xa.1 (lenB p.natAbs) xa.2.1)).setCell ⟨w.heap.size, 2, none⟩ (.bool (decide (q < 0)))).setCell ⟨w.heap.size, 3, none⟩ (.slice xa.2.2.1 (lenB q.natAbs) xa.2.2.2)).setCell ⟨w.heap.size + 1, 0, none⟩ (.bool (decide (r < 0)))).setCell ⟨w.heap.size + 1, 1, none⟩ (.slice yb.1 (lenB r.natAbs) yb.2.1)).setCell ⟨w.heap.size + 1, 2, none⟩ (.bool (decide (t < 0)))).setCell ⟨w.heap.size + 1, 3, none⟩ (.slice yb.2.2.1 (lenB t.natAbs) yb.2.2.2)) = V from hV.symm]
 clear hV hG x0 x1 x2 x3 x4 x5 y0 y1 y2 y3 y4 y5 HB1 HB2 HB4 HB5 GB
 obtain ⟨T1, hT1⟩ : ∃ T1, T1 = p * t := ⟨_, rfl⟩
 obtain ⟨T2, hT2⟩ : ∃ T2, T2 = r * q := ⟨_, rfl⟩
 obtain ⟨Lw, hLw⟩ : ∃ Lw, Lw = q * t := ⟨_, rfl⟩
 have HT := Lib.hid (And.intro hT1 (And.intro hT2 hLw))
 clear hT1 hT2 hLw
 have MA := Lib.hid (fun (w' : World) (hb : Below V.heap.size V w') => mul_any (decide (p < 0)) xa.1 (lenB p.natAbs) xa.2.1 (dgi p.natAbs) (decide (t < 0)) yb.2.2.1 (lenB t.natAbs) yb.2.2.2 (dgi t.natAbs) w' (HXA.out.r1.rd.below hb) (by have := HL.out; omega) HXA.out.c1 (HYB.out.r2.rd.below hb) (by have := HL.out; omega) HYB.out.c2)
 rw [canon_val, canon_val, ← HT.out.1] at MA
 have MB := Lib.hid (fun (w' : World) (hb : Below V.heap.size V w') => mul_any (decide (r < 0)) yb.1 (lenB r.natAbs) yb.2.1 (dgi r.natAbs) (decide (q < 0)) xa.2.2.1 (lenB q.natAbs) xa.2.2.2 (dgi q.natAbs) w' (HYB.out.r1.rd.below hb) (by have := HL.out; omega) HYB.out.c1 (HXA.out.r2.rd.below hb) (by have := HL.out; omega) HXA.out.c2)
 rw [canon_val, canon_val, ← HT.out.2.1] at MB
 have MC := Lib.hid (fun (w' : World) (hb : Below V.heap.size V w') => mul_any (decide (q < 0)) xa.2.2.1 (lenB q.natAbs) xa.2.2.2 (dgi q.natAbs) (decide (t < 0)) yb.2.2.1 (lenB t.natAbs) yb.2.2.2 (dgi t.natAbs) w' (HXA.out.r2.rd.below hb) (by have := HL.out; omega) HXA.out.c2 (HYB.out.r2.rd.below hb) (by have := HL.out; omega) HYB.out.c2)
 rw [canon_val, canon_val, ← HT.out.2.2] at MC
 have HS := Lib.hid (fun (w' : World) (hb : Below V.heap.size V w') => And.intro (frac_box (M1.out.below hb M1.out.lt)) (frac_box (M2.out.below hb M2.out.lt)))
 refine wp_region_fresh 16 (spOf [(4, Sp.made (fun x : Option Addr => numV (decide (T1 < 0)) x (lenB T1.natAbs) (lenB T1.natAbs)) (fun x w' => Own 110 w' V.heap.size x (lenB T1.natAbs) (lenB T1.natAbs) (dgi T1.natAbs))), (9, Sp.made (fun x : Option Addr => numV (decide (T2 < 0)) x (lenB T2.natAbs) (lenB T2.natAbs)) (fun x w' => Own 110 w' V.heap.size x (lenB T2.natAbs) (lenB T2.natAbs) (dgi T2.natAbs))), (15, Sp.made (fun x : Option Addr => numV (decide (Lw < 0)) x (lenB Lw.natAbs) (lenB Lw.natAbs)) (fun x w' => Own 110 w' V.heap.size x (lenB Lw.natAbs) (lenB Lw.natAbs) (dgi Lw.natAbs)))]) (fun w' => Below V.heap.size V w') (by kernel_rfl) (by kernel_rfl)
  (spOf_cons (Sp.made_keeps fun x w w' h hb => h.below hb) (spOf_cons (Sp.made_keeps fun x w w' h hb => h.below hb) (spOf_cons (Sp.made_keeps fun x w w' h hb => h.below hb) spOf_nil))) (fun _ _ h hb => h.trans (hb.mono h.size)) ((Below.refl _ _).drew) ?_
 simp only [List.take_succ_cons, List.take_zero, List.drop_succ_cons, List.drop_zero]
 (refine wpF_reads rfl rfl ?_ (fun w' hw' => ?_) ?_; rotate_left; · (have hb' := Has.world hw'; (skip); clear hw'; go_simp; try rfl))
 conv => arg 9; simp only [Act.put, Go.q0, Go.q1, Go.q2]
 (refine wpF_reads rfl rfl ?_ (fun w' hw' => ?_) ?_; rotate_left; · (have hb' := Has.world hw'; (obtain ⟨x0, x1, x2, x3, x4, x5⟩ := (HS.out _ hb').1); clear hw'; go_simp; try rfl))
 conv => arg 9; simp only [Act.put, Go.q0, Go.q1, Go.q2]
 (refine wpF_reads rfl rfl ?_ (fun w' hw' => ?_) ?_; rotate_left; · (have hb' := Has.world hw'; (skip); clear hw'; go_simp; try rfl))
 conv => arg 9; simp only [Act.put, Go.q0, Go.q1, Go.q2]
 (refine wpF_reads rfl rfl ?_ (fun w' hw' => ?_) ?_; rotate_left; · (have hb' := Has.world hw'; (obtain ⟨x0, x1, x2, x3, x4, x5⟩ := (HS.out _ hb').2); clear hw'; go_simp; try rfl))
 conv => arg 9; simp only [Act.put, Go.q0, Go.q1, Go.q2]
 (refine wpF_spec rfl rfl (fun w' hw' => ?_) ?_; · (have hb' := Has.world hw'; go_simp; ((refine (MA.out w' hb').mono ?_; rintro e w'' ⟨a, rfl, ho, -, hb⟩; exact ⟨_, rfl, ⟨⟨a, rfl⟩, ⟨a, rfl, ho.mono hb'.size⟩⟩, hb⟩))))
 rintro _ ⟨ma, rfl⟩
 conv => arg 9; simp only [Act.put, Go.q0, Go.q1, Go.q2]
 (refine wpF_reads rfl rfl ?_ (fun w' hw' => ?_) ?_; rotate_left; · (have hb' := Has.world hw'; (skip); clear hw'; go_simp; try rfl))
 conv => arg 9; simp only [Act.put, Go.q0, Go.q1, Go.q2]
 (refine wpF_reads rfl rfl ?_ (fun w' hw' => ?_) ?_; rotate_left; · (have hb' := Has.world hw'; (obtain ⟨x0, x1, x2, x3, x4, x5⟩ := (HS.out _ hb').2); clear hw'; go_simp; try rfl))
 conv => arg 9; simp only [Act.put, Go.q0, Go.q1, Go.q2]
 (refine wpF_reads rfl rfl ?_ (fun w' hw' => ?_) ?_; rotate_left; · (have hb' := Has.world hw'; (skip); clear hw'; go_simp; try rfl))
 conv => arg 9; simp only [Act.put, Go.q0, Go.q1, Go.q2]
 (refine wpF_reads rfl rfl ?_ (fun w' hw' => ?_) ?_; rotate_left; · (have hb' := Has.world hw'; (obtain ⟨x0, x1, x2, x3, x4, x5⟩ := (HS.out _ hb').1); clear hw'; go_simp; try rfl))
 conv => arg 9; simp only [Act.put, Go.q0, Go.q1, Go.q2]
 (refine wpF_spec rfl rfl (fun w' hw' => ?_) ?_; · (have hb' := Has.world hw'; go_simp; ((refine (MB.out w' hb').mono ?_; rintro e w'' ⟨a, rfl, ho, -, hb⟩; exact ⟨_, rfl, ⟨⟨a, rfl⟩, ⟨a, rfl, ho.mono hb'.size⟩⟩, hb⟩))))
 rintro _ ⟨mb, rfl⟩
 conv => arg 9; simp only [Act.put, Go.q0, Go.q1, Go.q2]
 (refine wpF_reads rfl rfl ?_ (fun w' hw' => ?_) ?_; rotate_left; · (have hb' := Has.world hw'; (skip); clear hw'; go_simp; try rfl))
 conv => arg 9; simp only [Act.put, Go.q0, Go.q1, Go.q2]
 (refine wpF_reads rfl rfl ?_ (fun w' hw' => ?_) ?_; rotate_left; · (have hb' := Has.world hw'; (skip); clear hw'; go_simp; try rfl))
 conv => arg 9; simp only [Act.put, Go.q0, Go.q1, Go.q2]
 (refine wpF_reads rfl rfl ?_ (fun w' hw' => ?_) ?_; rotate_left; · (have hb' := Has.world hw'; (obtain ⟨x0, x1, x2, x3, x4, x5⟩ := (HS.out _ hb').1); clear hw'; go_simp; try rfl))
 conv => arg 9; simp only [Act.put, Go.q0, Go.q1, Go.q2]
 (refine wpF_reads rfl rfl ?_ (fun w' hw' => ?_) ?_; rotate_left; · (have hb' := Has.world hw'; (skip); clear hw'; go_simp; try rfl))
 conv => arg 9; simp only [Act.put, Go.q0, Go.q1, Go.q2]
 (refine wpF_reads rfl rfl ?_ (fun w' hw' => ?_) ?_; rotate_left; · (have hb' := Has.world hw'; (obtain ⟨x0, x1, x2, x3, x4, x5⟩ := (HS.out _ hb').2); clear hw'; go_simp; try rfl))
 conv => arg 9; simp only [Act.put, Go.q0, Go.q1, Go.q2]
 (refine wpF_spec rfl rfl (fun w' hw' => ?_) ?_; · (have hb' := Has.world hw'; go_simp; ((refine (MC.out w' hb').mono ?_; rintro e w'' ⟨a, rfl, ho, -, hb⟩; exact ⟨_, rfl, ⟨⟨a, rfl⟩, ⟨a, rfl, ho.mono hb'.size⟩⟩, hb⟩))))
 rintro _ ⟨mc, rfl⟩
 conv => arg 9; simp only [Act.put, Go.q0, Go.q1, Go.q2]
 refine wpF_nil (fun w3 hb3 hF => ?_)
 have HO := Lib.hid (And.intro (own_num1 (T := 110) (b := V.heap.size) (s := decide (T1 < 0)) (L := lenB T1.natAbs) (o := dgi T1.natAbs) (a := ma) (hF 4)) (And.intro (own_num1 (T := 110) (b := V.heap.size) (s := decide (T2 < 0)) (L := lenB T2.natAbs) (o := dgi T2.natAbs) (a := mb) (hF 9)) (own_num1 (T := 110) (b := V.heap.size) (s := decide (Lw < 0)) (L := lenB Lw.natAbs) (o := dgi Lw.natAbs) (a := mc) (hF 15))))
 have N4 := Lib.hid (M4.out.below hb3 M4.out.lt)
 have N5 := Lib.hid (M5.out.below hb3 M5.out.lt)
 have KG3 := Lib.hid (KG.out.trans (hb3.mono KG.out.size))
 have HVS := Lib.hid (show w.heap.size + 4 ≤ V.heap.size by have := M5.out.lt; omega)
 clear hF hb3 HS MA MB MC
 have z0 := N4.out.cell (i := 0) rfl
 have z1 := N4.out.cell (i := 1) rfl
 have z2 := N4.out.cell (i := 2) rfl
 have z3 := N4.out.cell (i := 3) rfl
 have zf := N4.out.fz
 have zl := N4.out.lt
 obtain ⟨y0, y1, y2, y3⟩ := N5.out.bx.all
 go_wp2_with fail
 have hvs := HVS.out
 rw [← HT.out.1, ← HT.out.2.1, ← HT.out.2.2]
 have k4 := ((((((N4.out.put 0 (.bool (decide (T1 < 0)))).put 1 (.slice ma (lenB T1.natAbs) (lenB T1.natAbs))).put 2 (.bool (decide (T2 < 0)))).put 3 (.slice mb (lenB T2.natAbs) (lenB T2.natAbs))).other (a := ⟨w.heap.size + 1 + 1 + 1, 0, none⟩) (by dsimp only; omega) (.bool (decide (Lw < 0)))).other (a := ⟨w.heap.size + 1 + 1 + 1, 1, none⟩) (by dsimp only; omega) (.slice mc (lenB Lw.natAbs) (lenB Lw.natAbs)))
 have k5 := ((((((N5.out.other (a := ⟨w.heap.size + 1 + 1, 0, none⟩) (by dsimp only; omega) (.bool (decide (T1 < 0)))).other (a := ⟨w.heap.size + 1 + 1, 1, none⟩) (by dsimp only; omega) (.slice ma (lenB T1.natAbs) (lenB T1.natAbs))).other (a := ⟨w.heap.size + 1 + 1, 2, none⟩) (by dsimp only; omega) (.bool (decide (T2 < 0)))).other (a := ⟨w.heap.size + 1 + 1, 3, none⟩) (by dsimp only; omega) (.slice mb (lenB T2.natAbs) (lenB T2.natAbs))).put 0 (.bool (decide (Lw < 0)))).put 1 (.slice mc (lenB Lw.natAbs) (lenB Lw.natAbs)))
 refine bodyPost_ret (results_cc rfl _ _ _ _ _ _ _ _ _ _ _ _ rfl k4 rfl k5 Tryz.underlying76 rfl (by kernel_rfl) Tryz.underlying26 rfl (by kernel_rfl)) rfl ⟨ma, mb, mc, rfl, ?_, ?_, ?_, ?_⟩
 ·exact ((((((HO.out.1.other (by dsimp only; omega) _).other (by dsimp only; omega) _).other (by dsimp only; omega) _).other (by dsimp only; omega) _).other (by dsimp only; omega) _).other (by dsimp only; omega) _).mono (by omega)
 ·exact ((((((HO.out.2.1.other (by dsimp only; omega) _).other (by dsimp only; omega) _).other (by dsimp only; omega) _).other (by dsimp only; omega) _).other (by dsimp only; omega) _).other (by dsimp only; omega) _).mono (by omega)
 ·exact ((((((HO.out.2.2.other (by dsimp only; omega) _).other (by dsimp only; omega) _).other (by dsimp only; omega) _).other (by dsimp only; omega) _).other (by dsimp only; omega) _).other (by dsimp only; omega) _).mono (by omega)
 ·exact ((((((KG3.out.setCell (by dsimp only; omega) _).setCell (by dsimp only; omega) _).setCell (by dsimp only; omega) _).setCell (by dsimp only; omega) _).setCell (by dsimp only; omega) _).setCell (by dsimp only; omega) _)
theorem lenB_mul_le (a b : Nat) : lenB (a * b) ≤ lenB a + lenB b := by
 refine lenB_le ?_
 rw [pw_add]
 by_cases hb : b = 0
 ·subst hb; have := lt_pw_lenB a; have h2 := lt_pw_lenB 0; exact Nat.mul_pos (by omega) h2
 ·exact Nat.mul_lt_mul_of_lt_of_le (lt_pw_lenB a) (Nat.le_of_lt (lt_pw_lenB b)) (pw_pos _)
set_option maxRecDepth 100000 in
set_option maxHeartbeats 4000000 in
theorem make2_any (G : Nat) (cs : Array Value) (T : Int) (s1 : Bool) (a1 : Option Addr) (n1 c1 : Nat) (o1 : Nat → Int) (s2 : Bool) (a2 : Option Addr) (n2 c2 : Nat) (o2 : Nat → Int) (s3 : Bool) (a3 : Option Addr) (n3 c3 : Nat) (o3 : Nat → Int) (s4 : Bool) (a4 : Option Addr) (n4 c4 : Nat) (o4 : Nat → Int) (w : World) (x y : Rat)
  (hx : x = valF s1 n1 o1 s2 n2 o2) (hy : y = valF s3 n3 o3 s4 n4 o4)
  (h1 : Rd w a1 n1 o1) (hn1 : n1 ≤ 1000000) (hc1 : n1 ≤ c1) (h2 : Rd w a2 n2 o2) (hn2 : n2 ≤ 1000000) (hc2 : n2 ≤ c2) (h3 : Rd w a3 n3 o3) (hn3 : n3 ≤ 1000000) (hc3 : n3 ≤ c3) (h4 : Rd w a4 n4 o4) (hn4 : n4 ≤ 1000000) (hc4 : n4 ≤ c4)
  (hcf : ∀ (args : Array Value) (w : World), (callFunc G args).run Tryz.prog w = .ok (.enter G args) w)
  (hT : lenB T.natAbs ≤ 4000000)
  (hF : ∀ (m1 m2 : Option Addr) (w1 : World), Below w.heap.size w w1 → Rd w1 m1 (lenB (x.num * (y.den : Int)).natAbs) (dgi (x.num * (y.den : Int)).natAbs) → Rd w1 m2 (lenB (y.num * (x.den : Int)).natAbs) (dgi (y.num * (x.den : Int)).natAbs) →
   Calls Tryz.prog G (#[numV (decide (x.num * (y.den : Int) < 0)) m1 (lenB (x.num * (y.den : Int)).natAbs) (lenB (x.num * (y.den : Int)).natAbs), numV (decide (y.num * (x.den : Int) < 0)) m2 (lenB (y.num * (x.den : Int)).natAbs) (lenB (y.num * (x.den : Int)).natAbs)] ++ cs) w1 (ResN w1 T)) :
  Calls Tryz.prog 56 #[fracV s1 a1 n1 c1 s2 a2 n2 c2, fracV s3 a3 n3 c3 s4 a4 n4 c4, .func (.func G) #[] cs] w (FracR w (Rat.divInt T ((x.den : Int) * (y.den : Int))).num ((Rat.divInt T ((x.den : Int) * (y.den : Int))).den : Int)) := by
 have l1 := valF_len (s1 := s1) (s2 := s2) h1.rng h2.rng
 have l2 := valF_len (s1 := s3) (s2 := s4) h3.rng h4.rng
 rw [← hx] at l1
 rw [← hy] at l2
 have HL := Lib.hid (show lenB ((x.den : Int) * (y.den : Int)).natAbs ≤ 4000000 by
  have := lenB_mul_le (x.den : Int).natAbs (y.den : Int).natAbs
  rw [Int.natAbs_mul]
  omega)
 have HD := Lib.hid (show (x.den : Int) * (y.den : Int) ≠ 0 from Int.mul_ne_zero (by have := x.den_nz; omega) (by have := y.den_nz; omega))
 have HB1 := Lib.hid (((Bxs.new w 28 [.bool s1, .slice a1 n1 c1, .bool s2, .slice a2 n2 c2]).alloc (.cells #[.bool s3, .slice a3 n3 c3, .bool s4, .slice a4 n4 c4] 28)).alloc (.cells #[.bool false, .slice none 0 0, .bool false, .slice none 0 0] 28))
 have HB2 := Lib.hid ((Bxs.new (w.alloc (.cells #[.bool s1, .slice a1 n1 c1, .bool s2, .slice a2 n2 c2] 28)) 28 [.bool s3, .slice a3 n3 c3, .bool s4, .slice a4 n4 c4]).alloc (.cells #[.bool false, .slice none 0 0, .bool false, .slice none 0 0] 28))
 have HB3 := Lib.hid (Bxs.new ((w.alloc (.cells #[.bool s1, .slice a1 n1 c1, .bool s2, .slice a2 n2 c2] 28)).alloc (.cells #[.bool s3, .slice a3 n3 c3, .bool s4, .slice a4 n4 c4] 28)) 28 [.bool false, .slice none 0 0, .bool false, .slice none 0 0])
 obtain ⟨W, hW⟩ : ∃ W, W = ((w.alloc (.cells #[.bool s1, .slice a1 n1 c1, .bool s2, .slice a2 n2 c2] 28)).alloc (.cells #[.bool s3, .slice a3 n3 c3, .bool s4, .slice a4 n4 c4] 28)).alloc (.cells #[.bool false, .slice none 0 0, .bool false, .slice none 0 0] 28) := ⟨_, rfl⟩
 have KG := Lib.hid (show Below w.heap.size w W by rw [hW]; exact (((Below.refl _ _).alloc (Nat.le_refl _) _).alloc (by go_size) _).alloc (by go_size) _)
 have hWs : w.heap.size + 3 = W.heap.size := by rw [hW]; simp
 have HB1 := Lib.hid (show Bxs W w.heap.size 28 [.bool s1, .slice a1 n1 c1, .bool s2, .slice a2 n2 c2] by rw [hW]; exact HB1.out)
 have HB2 := Lib.hid (show Bxs W (w.heap.size + 1) 28 [.bool s3, .slice a3 n3 c3, .bool s4, .slice a4 n4 c4] by have h := HB2.out; simp only [World.size_alloc] at h; rw [hW]; exact h)
 have HB3 := Lib.hid (show Bxs W (w.heap.size + 1 + 1) 28 [.bool false, .slice none 0 0, .bool false, .slice none 0 0] by have h := HB3.out; simp only [World.size_alloc] at h; rw [hW]; exact h)
 have BR := Lib.hid (brought_any s1 a1 n1 c1 o1 s2 a2 n2 c2 o2 s3 a3 n3 c3 o3 s4 a4 n4 c4 o4 W x y hx hy (h1.below KG.out) hn1 hc1 (h2.below KG.out) hn2 hc2 (h3.below KG.out) hn3 hc3 (h4.below KG.out) hn4 hc4)
 obtain ⟨T1, hT1⟩ : ∃ T1, T1 = x.num * (y.den : Int) := ⟨_, rfl⟩
 obtain ⟨T2, hT2⟩ : ∃ T2, T2 = y.num * (x.den : Int) := ⟨_, rfl⟩
 obtain ⟨Lw, hLw⟩ : ∃ Lw, Lw = (x.den : Int) * (y.den : Int) := ⟨_, rfl⟩
 rw [← hT1, ← hT2] at hF
 rw [← hT1, ← hT2, ← hLw] at BR
 rw [← hLw] at HL HD ⊢
 have HF := Lib.hid hF
 have HT := Lib.hid hT
 have HW := Lib.hid hW
 have HWS := Lib.hid hWs
 clear hF hW hWs hT1 hT2 hLw hx hy h1 h2 h3 h4 l1 l2 hT
 go_enter Tryz.func56, Tryz.ntmps56
 go_upto_region 1 with (fail)
 rw [show ((w.alloc (.cells #[.bool s1, .slice a1 n1 c1, .bool s2, .slice a2 n2 c2] 28)).alloc (.cells #[.bool s3, .slice a3 n3 c3, .bool s4, .slice a4 n4 c4] 28)).alloc (.cells #[.bool false, .slice none 0 0, .bool false, .slice none 0 0] 28) = W from HW.out.symm]
 clear HW
 obtain ⟨x0, x1, x2, x3, x4, x5⟩ := frac_box HB1.out
 obtain ⟨y0, y1, y2, y3, y4, y5⟩ := frac_box HB2.out
 go_wp2_with fail
 with_reducible refine BR.out.mono ?_
 rintro e w2 ⟨m1, m2, m3, rfl, O1, O2, O3, hb⟩
 go_upto_region 2 with (fail)
 obtain ⟨V, hV⟩ : ∃ V, V = (w2.alloc (.cells #[.bool (decide (T1 < 0)), .slice m1 (lenB T1.natAbs) (lenB T1.natAbs), .bool (decide (T2 < 0)), .slice m2 (lenB T2.natAbs) (lenB T2.natAbs)] 76)).alloc (.cells #[.bool (decide (Lw < 0)), .slice m3 (lenB Lw.natAbs) (lenB Lw.natAbs)] 26) := ⟨_, rfl⟩
 have M4 := Lib.hid (show Bxs V w2.heap.size 76 [.bool (decide (T1 < 0)), .slice m1 (lenB T1.natAbs) (lenB T1.natAbs), .bool (decide (T2 < 0)), .slice m2 (lenB T2.natAbs) (lenB T2.natAbs)] by rw [hV]; exact (Bxs.new w2 76 [.bool (decide (T1 < 0)), .slice m1 (lenB T1.natAbs) (lenB T1.natAbs), .bool (decide (T2 < 0)), .slice m2 (lenB T2.natAbs) (lenB T2.natAbs)]).alloc _)
 have M5 := Lib.hid (show Bxs V (w2.heap.size + 1) 26 [.bool (decide (Lw < 0)), .slice m3 (lenB Lw.natAbs) (lenB Lw.natAbs)] by have h := Bxs.new (w2.alloc (.cells #[.bool (decide (T1 < 0)), .slice m1 (lenB T1.natAbs) (lenB T1.natAbs), .bool (decide (T2 < 0)), .slice m2 (lenB T2.natAbs) (lenB T2.natAbs)] 76)) 26 [.bool (decide (Lw < 0)), .slice m3 (lenB Lw.natAbs) (lenB Lw.natAbs)]; simp only [World.size_alloc] at h; rw [hV]; exact h)
 have hbV : Below W.heap.size W V := by rw [hV]; exact (hb.alloc hb.size _).alloc (by have := hb.size; go_size) _
 have M3 := Lib.hid (HB3.out.below hbV HB3.out.lt)
 have O1 := Lib.hid (show Own 110 V W.heap.size m1 (lenB T1.natAbs) (lenB T1.natAbs) (dgi T1.natAbs) by rw [hV]; exact (O1.allocd _).allocd _)
 have O2 := Lib.hid (show Own 110 V W.heap.size m2 (lenB T2.natAbs) (lenB T2.natAbs) (dgi T2.natAbs) by rw [hV]; exact (O2.allocd _).allocd _)
 have O3 := Lib.hid (show Own 110 V W.heap.size m3 (lenB Lw.natAbs) (lenB Lw.natAbs) (dgi Lw.natAbs) by rw [hV]; exact (O3.allocd _).allocd _)
 have KG := Lib.hid (KG.out.trans (hbV.mono KG.out.size))
 have KW := Lib.hid hbV.size
 obtain ⟨b4, hb4⟩ : ∃ b, b = w2.heap.size := ⟨_, rfl⟩
 rw [show (w2.alloc (.cells #[.bool (decide (T1 < 0)), .slice m1 (lenB T1.natAbs) (lenB T1.natAbs), .bool (decide (T2 < 0)), .slice m2 (lenB T2.natAbs) (lenB T2.natAbs)] 76)).alloc (.cells #[.bool (decide (Lw < 0)), .slice m3 (lenB Lw.natAbs) (lenB Lw.natAbs)] 26) = V from hV.symm]
 rw [← hb4] at M4 M5 ⊢
 clear hV hbV hb hb4 x0 x1 x2 x3 x4 x5 y0 y1 y2 y3 y4 y5 HB1 HB2 HB3 BR
 have HS := Lib.hid (fun (w' : World) (hb : Below V.heap.size V w') => And.intro (M4.out.below hb M4.out.lt) (M5.out.below hb M5.out.lt).bx.all)
 have HC := Lib.hid (fun (w' : World) (hb : Below V.heap.size V w') => HF.out m1 m2 w' (KG.out.trans (hb.mono KG.out.size)) (O1.out.rd.below hb) (O2.out.rd.below hb))
 refine wp_region_fresh 7 (spOf [(5, Sp.made (fun x : Option Addr => numV (decide (T < 0)) x (lenB T.natAbs) (lenB T.natAbs)) (fun x w' => Own 110 w' V.heap.size x (lenB T.natAbs) (lenB T.natAbs) (dgi T.natAbs)))]) (fun w' => Below V.heap.size V w') (by kernel_rfl) (by kernel_rfl)
  (spOf_cons (Sp.made_keeps fun x w w' h hb => h.below hb) spOf_nil) (fun _ _ h hb => h.trans (hb.mono h.size)) ((Below.refl _ _).drew) ?_
 simp only [List.take_succ_cons, List.take_zero, List.drop_succ_cons, List.drop_zero]
 (refine wpF_reads rfl rfl ?_ (fun w' hw' => ?_) ?_; rotate_left; · (have hb' := Has.world hw'; (skip); clear hw'; go_simp; try rfl))
 conv => arg 9; simp only [Act.put, Go.q0, Go.q1, Go.q2]
 (refine wpF_reads rfl rfl ?_ (fun w' hw' => ?_) ?_; rotate_left; · (have hb' := Has.world hw'; (skip); clear hw'; go_simp; try rfl))
 conv => arg 9; simp only [Act.put, Go.q0, Go.q1, Go.q2]
 (refine wpF_reads rfl rfl ?_ (fun w' hw' => ?_) ?_; rotate_left; · (have hb' := Has.world hw'; (have hs := (HS.out _ hb').1; have x0 := hs.cell (i := 0) rfl; have x1 := hs.cell (i := 1) rfl; have x2 := hs.cell (i := 2) rfl; have x3 := hs.cell (i := 3) rfl; have x4 := hs.fz; have x5 := hs.lt); clear hw'; go_simp; try rfl))
 conv => arg 9; simp only [Act.put, Go.q0, Go.q1, Go.q2]
 (refine wpF_reads rfl rfl ?_ (fun w' hw' => ?_) ?_; rotate_left; · (have hb' := Has.world hw'; (skip); clear hw'; go_simp; try rfl))
 conv => arg 9; simp only [Act.put, Go.q0, Go.q1, Go.q2]
 (refine wpF_reads rfl rfl ?_ (fun w' hw' => ?_) ?_; rotate_left; · (have hb' := Has.world hw'; (have hs := (HS.out _ hb').1; have x0 := hs.cell (i := 0) rfl; have x1 := hs.cell (i := 1) rfl; have x2 := hs.cell (i := 2) rfl; have x3 := hs.cell (i := 3) rfl; have x4 := hs.fz; have x5 := hs.lt); clear hw'; go_simp; try rfl))
 conv => arg 9; simp only [Act.put, Go.q0, Go.q1, Go.q2]
 (refine wpF_spec rfl rfl (fun w' hw' => ?_) ?_; · (have hb' := Has.world hw'; go_simp; ((refine (HC.out w' hb').mono ?_; rintro e w'' ⟨a, rfl, ho, -, hb⟩; exact ⟨_, rfl, ⟨⟨a, rfl⟩, ⟨a, rfl, ho.mono hb'.size⟩⟩, hb⟩))))
 rintro _ ⟨mt, rfl⟩
 conv => arg 9; simp only [Act.put, Go.q0, Go.q1, Go.q2]
 (refine wpF_reads rfl rfl ?_ (fun w' hw' => ?_) ?_; rotate_left; · (have hb' := Has.world hw'; (obtain ⟨x0, x1, x2, x3⟩ := (HS.out _ hb').2); clear hw'; go_simp; try rfl))
 conv => arg 9; simp only [Act.put, Go.q0, Go.q1, Go.q2]
 refine wpF_nil (fun w3 hb3 hF => ?_)
 have HO := Lib.hid (own_num1 (T := 110) (b := V.heap.size) (s := decide (T < 0)) (L := lenB T.natAbs) (o := dgi T.natAbs) (a := mt) (hF 5))
 have LO := Lib.hid (lowest_any T Lw mt m3 (lenB T.natAbs) (lenB Lw.natAbs) w3 HO.out.rd HT.out (Nat.le_refl _) (O3.out.rd.below hb3) HL.out (Nat.le_refl _) HD.out)
 have M3 := Lib.hid (M3.out.below hb3 M3.out.lt)
 have KG := Lib.hid (KG.out.trans (hb3.mono KG.out.size))
 have HWS := Lib.hid (show w.heap.size + 3 ≤ w3.heap.size by have := HWS.out; have := KW.out; have := hb3.size; omega)
 clear hF hb3 HS HC HF HO O1 O2 O3 M4 M5 hcf KW
 go_wp2_with fail
 with_reducible refine LO.out.mono ?_
 rintro e w4 ⟨r1, r2, rfl, Q1, Q2, hap, hb⟩
 have M3 := Lib.hid (M3.out.below hb M3.out.lt)
 have KG := Lib.hid (KG.out.trans (hb.mono KG.out.size))
 have hvs := HWS.out
 clear hb LO
 have z0 := M3.out.cell (i := 0) rfl
 have z1 := M3.out.cell (i := 1) rfl
 have z2 := M3.out.cell (i := 2) rfl
 have z3 := M3.out.cell (i := 3) rfl
 have zf := M3.out.fz
 have zl := M3.out.lt
 go_wp2_with fail
 refine bodyPost_ret (results_cell rfl _ _ _ _ _ _ _ rfl ((((M3.out.put 0 _).put 1 _).put 2 _).put 3 _) Tryz.underlying28 rfl (by kernel_rfl)) rfl ⟨r1, r2, rfl, ?_, ?_, hap, ?_⟩
 ·exact ((((Q1.other (by dsimp only; omega) _).other (by dsimp only; omega) _).other (by dsimp only; omega) _).other (by dsimp only; omega) _).mono (by omega)
 ·exact ((((Q2.other (by dsimp only; omega) _).other (by dsimp only; omega) _).other (by dsimp only; omega) _).other (by dsimp only; omega) _).mono (by omega)
 ·exact (((KG.out.setCell (by dsimp only; omega) _).setCell (by dsimp only; omega) _).setCell (by dsimp only; omega) _).setCell (by dsimp only; omega) _
theorem rat_add (x y : Rat) : Rat.divInt (x.num * (y.den : Int) + y.num * (x.den : Int)) ((x.den : Int) * (y.den : Int)) = x + y := by
 rw [Rat.add_def']
 rw [← Rat.divInt_ofNat, Int.natCast_mul]
theorem lenB_succ (m n k : Nat) (hm : lenB m ≤ k) (hn : lenB n ≤ k) : lenB (m + n) ≤ k + 1 := by
 refine lenB_le ?_
 have h1 := Nat.lt_of_lt_of_le (lt_pw_lenB m) (pw_le hm)
 have h2 := Nat.lt_of_lt_of_le (lt_pw_lenB n) (pw_le hn)
 rw [pw_succ]; omega
theorem lenB_add (a b : Int) : lenB (a + b).natAbs ≤ max (lenB a.natAbs) (lenB b.natAbs) + 1 :=
 Nat.le_trans (lenB_mono (Int.natAbs_add_le a b)) (lenB_succ _ _ _ (by omega) (by omega))
set_option maxRecDepth 100000 in
set_option maxHeartbeats 2000000 in
theorem addc_any (s1 : Bool) (a1 : Option Addr) (n1 c1 : Nat) (o1 : Nat → Int) (s2 : Bool) (a2 : Option Addr) (n2 c2 : Nat) (o2 : Nat → Int) (w : World)
  (h1 : Rd w a1 n1 o1) (hn1 : n1 ≤ 100000000) (hc1 : n1 ≤ c1) (h2 : Rd w a2 n2 o2) (hn2 : n2 ≤ 100000000) (hc2 : n2 ≤ c2) :
  Calls Tryz.prog 79 #[numV s1 a1 n1 c1, numV s2 a2 n2 c2] w (ResN w (valN s1 n1 o1 + valN s2 n2 o2)) := by
 have HB1 := Lib.hid (((Bxs.new w 26 [.bool s1, .slice a1 n1 c1]).alloc (.cells #[.bool s2, .slice a2 n2 c2] 26)).alloc (.cells #[.bool false, .slice none 0 0] 26))
 have HB2 := Lib.hid ((Bxs.new (w.alloc (.cells #[.bool s1, .slice a1 n1 c1] 26)) 26 [.bool s2, .slice a2 n2 c2]).alloc (.cells #[.bool false, .slice none 0 0] 26))
 have HB3 := Lib.hid (Bxs.new ((w.alloc (.cells #[.bool s1, .slice a1 n1 c1] 26)).alloc (.cells #[.bool s2, .slice a2 n2 c2] 26)) 26 [.bool false, .slice none 0 0])
 obtain ⟨W, hW⟩ : ∃ W, W = ((w.alloc (.cells #[.bool s1, .slice a1 n1 c1] 26)).alloc (.cells #[.bool s2, .slice a2 n2 c2] 26)).alloc (.cells #[.bool false, .slice none 0 0] 26) := ⟨_, rfl⟩
 have KG := Lib.hid (show Below w.heap.size w W by rw [hW]; exact (((Below.refl _ _).alloc (Nat.le_refl _) _).alloc (by go_size) _).alloc (by go_size) _)
 have hWs : w.heap.size + 3 = W.heap.size := by rw [hW]; simp
 have HB1 := Lib.hid (show Bxs W w.heap.size 26 [.bool s1, .slice a1 n1 c1] by rw [hW]; exact HB1.out)
 have HB2 := Lib.hid (show Bxs W (w.heap.size + 1) 26 [.bool s2, .slice a2 n2 c2] by have h := HB2.out; simp only [World.size_alloc] at h; rw [hW]; exact h)
 have HB3 := Lib.hid (show Bxs W (w.heap.size + 1 + 1) 26 [.bool false, .slice none 0 0] by have h := HB3.out; simp only [World.size_alloc] at h; rw [hW]; exact h)
 have BR := Lib.hid (add_res s1 a1 n1 c1 o1 s2 a2 n2 c2 o2 W (h1.below KG.out) hn1 hc1 (h2.below KG.out) hn2 hc2)
 obtain ⟨T, hT⟩ : ∃ T, T = valN s1 n1 o1 + valN s2 n2 o2 := ⟨_, rfl⟩
 rw [← hT] at BR ⊢
 have HW := Lib.hid hW
 have HWS := Lib.hid hWs
 clear hW hWs h1 h2 hT
 go_enter Tryz.func79, Tryz.ntmps79
 go_upto_region 1 with (fail)
 rw [show ((w.alloc (.cells #[.bool s1, .slice a1 n1 c1] 26)).alloc (.cells #[.bool s2, .slice a2 n2 c2] 26)).alloc (.cells #[.bool false, .slice none 0 0] 26) = W from HW.out.symm]
 clear HW
 obtain ⟨x0, x1, x2, x3⟩ := HB1.out.bx.all
 obtain ⟨y0, y1, y2, y3⟩ := HB2.out.bx.all
 go_wp2_with fail
 with_reducible refine BR.out.mono ?_
 rintro e w2 ⟨m, rfl, O1, hm, hb⟩
 have M3 := Lib.hid (HB3.out.below hb HB3.out.lt)
 have KG := Lib.hid (KG.out.trans (hb.mono KG.out.size))
 have hvs := HWS.out
 have h2s := hb.size
 clear x0 x1 x2 x3 y0 y1 y2 y3 HB1 HB2 HB3 BR hb
 obtain ⟨z0, z1, z2, z3⟩ := M3.out.bx.all
 go_wp2_with fail
 refine bodyPost_ret (results_cell rfl _ _ _ _ _ _ _ rfl ((M3.out.put 0 _).put 1 _) Tryz.underlying26 rfl (by kernel_rfl)) rfl ⟨m, rfl, ?_, hm, ?_⟩
 ·exact ((O1.other (by dsimp only; omega) _).other (by dsimp only; omega) _).mono (by omega)
 ·exact (KG.out.setCell (by dsimp only; omega) _).setCell (by dsimp only; omega) _
set_option maxRecDepth 100000 in
set_option maxHeartbeats 2000000 in
theorem fadd_any (s1 : Bool) (a1 : Option Addr) (n1 c1 : Nat) (o1 : Nat → Int) (s2 : Bool) (a2 : Option Addr) (n2 c2 : Nat) (o2 : Nat → Int) (s3 : Bool) (a3 : Option Addr) (n3 c3 : Nat) (o3 : Nat → Int) (s4 : Bool) (a4 : Option Addr) (n4 c4 : Nat) (o4 : Nat → Int) (w : World) (x y : Rat)
  (hx : x = valF s1 n1 o1 s2 n2 o2) (hy : y = valF s3 n3 o3 s4 n4 o4)
  (h1 : Rd w a1 n1 o1) (hn1 : n1 ≤ 1000000) (hc1 : n1 ≤ c1) (h2 : Rd w a2 n2 o2) (hn2 : n2 ≤ 1000000) (hc2 : n2 ≤ c2) (h3 : Rd w a3 n3 o3) (hn3 : n3 ≤ 1000000) (hc3 : n3 ≤ c3) (h4 : Rd w a4 n4 o4) (hn4 : n4 ≤ 1000000) (hc4 : n4 ≤ c4) :
  Calls Tryz.prog 33 #[fracV s1 a1 n1 c1 s2 a2 n2 c2, fracV s3 a3 n3 c3 s4 a4 n4 c4] w (FracR w (x + y).num ((x + y).den : Int)) := by
 have l1 := valF_len (s1 := s1) (s2 := s2) h1.rng h2.rng
 have l2 := valF_len (s1 := s3) (s2 := s4) h3.rng h4.rng
 rw [← hx] at l1
 rw [← hy] at l2
 have hl1 := lenB_mul_le x.num.natAbs (y.den : Int).natAbs
 have hl2 := lenB_mul_le y.num.natAbs (x.den : Int).natAbs
 rw [← Int.natAbs_mul] at hl1 hl2
 have HB1 := Lib.hid (((Bxs.new w 28 [.bool s1, .slice a1 n1 c1, .bool s2, .slice a2 n2 c2]).alloc (.cells #[.bool s3, .slice a3 n3 c3, .bool s4, .slice a4 n4 c4] 28)).alloc (.cells #[.bool false, .slice none 0 0, .bool false, .slice none 0 0] 28))
 have HB2 := Lib.hid ((Bxs.new (w.alloc (.cells #[.bool s1, .slice a1 n1 c1, .bool s2, .slice a2 n2 c2] 28)) 28 [.bool s3, .slice a3 n3 c3, .bool s4, .slice a4 n4 c4]).alloc (.cells #[.bool false, .slice none 0 0, .bool false, .slice none 0 0] 28))
 have HB3 := Lib.hid (Bxs.new ((w.alloc (.cells #[.bool s1, .slice a1 n1 c1, .bool s2, .slice a2 n2 c2] 28)).alloc (.cells #[.bool s3, .slice a3 n3 c3, .bool s4, .slice a4 n4 c4] 28)) 28 [.bool false, .slice none 0 0, .bool false, .slice none 0 0])
 obtain ⟨W, hW⟩ : ∃ W, W = ((w.alloc (.cells #[.bool s1, .slice a1 n1 c1, .bool s2, .slice a2 n2 c2] 28)).alloc (.cells #[.bool s3, .slice a3 n3 c3, .bool s4, .slice a4 n4 c4] 28)).alloc (.cells #[.bool false, .slice none 0 0, .bool false, .slice none 0 0] 28) := ⟨_, rfl⟩
 have KG := Lib.hid (show Below w.heap.size w W by rw [hW]; exact (((Below.refl _ _).alloc (Nat.le_refl _) _).alloc (by go_size) _).alloc (by go_size) _)
 have hWs : w.heap.size + 3 = W.heap.size := by rw [hW]; simp
 have HB1 := Lib.hid (show Bxs W w.heap.size 28 [.bool s1, .slice a1 n1 c1, .bool s2, .slice a2 n2 c2] by rw [hW]; exact HB1.out)
 have HB2 := Lib.hid (show Bxs W (w.heap.size + 1) 28 [.bool s3, .slice a3 n3 c3, .bool s4, .slice a4 n4 c4] by have h := HB2.out; simp only [World.size_alloc] at h; rw [hW]; exact h)
 have HB3 := Lib.hid (show Bxs W (w.heap.size + 1 + 1) 28 [.bool false, .slice none 0 0, .bool false, .slice none 0 0] by have h := HB3.out; simp only [World.size_alloc] at h; rw [hW]; exact h)
 have BR := Lib.hid (make2_any 79 #[] (x.num * (y.den : Int) + y.num * (x.den : Int)) s1 a1 n1 c1 o1 s2 a2 n2 c2 o2 s3 a3 n3 c3 o3 s4 a4 n4 c4 o4 W x y hx hy (h1.below KG.out) hn1 hc1 (h2.below KG.out) hn2 hc2 (h3.below KG.out) hn3 hc3 (h4.below KG.out) hn4 hc4
  (fun _ _ => rfl)
  (by have := lenB_add (x.num * (y.den : Int)) (y.num * (x.den : Int)); omega)
  (fun m1 m2 w1 _ r1 r2 => by
   have h := addc_any (decide (x.num * (y.den : Int) < 0)) m1 _ (lenB (x.num * (y.den : Int)).natAbs) _ (decide (y.num * (x.den : Int) < 0)) m2 _ (lenB (y.num * (x.den : Int)).natAbs) _ w1 r1 (by omega) (Nat.le_refl _) r2 (by omega) (Nat.le_refl _)
   rw [canon_val, canon_val] at h
   exact h))
 have hT : Rat.divInt (x.num * (y.den : Int) + y.num * (x.den : Int)) ((x.den : Int) * (y.den : Int)) = x + y := rat_add x y
 rw [hT] at BR
 obtain ⟨t, ht⟩ : ∃ t, t = x + y := ⟨_, rfl⟩
 rw [← ht] at BR ⊢
 have HW := Lib.hid hW
 have HWS := Lib.hid hWs
 clear hW hWs h1 h2 h3 h4 hT ht hx hy l1 l2 hl1 hl2
 go_enter Tryz.func33, Tryz.ntmps33
 go_upto_region 1 with (fail)
 rw [show ((w.alloc (.cells #[.bool s1, .slice a1 n1 c1, .bool s2, .slice a2 n2 c2] 28)).alloc (.cells #[.bool s3, .slice a3 n3 c3, .bool s4, .slice a4 n4 c4] 28)).alloc (.cells #[.bool false, .slice none 0 0, .bool false, .slice none 0 0] 28) = W from HW.out.symm]
 clear HW
 obtain ⟨x0, x1, x2, x3, x4, x5⟩ := frac_box HB1.out
 obtain ⟨y0, y1, y2, y3, y4, y5⟩ := frac_box HB2.out
 go_wp2_with fail
 with_reducible refine BR.out.mono ?_
 rintro e w4 ⟨r1, r2, rfl, Q1, Q2, hap, hb⟩
 have M3 := Lib.hid (HB3.out.below hb HB3.out.lt)
 have KG := Lib.hid (KG.out.trans (hb.mono KG.out.size))
 have hvs := HWS.out
 have h2s := hb.size
 clear x0 x1 x2 x3 x4 x5 y0 y1 y2 y3 y4 y5 HB1 HB2 HB3 BR hb
 obtain ⟨z0, z1, z2, z3, zf, zl⟩ := frac_box M3.out
 go_wp2_with fail
 refine bodyPost_ret (results_cell rfl _ _ _ _ _ _ _ rfl ((((M3.out.put 0 _).put 1 _).put 2 _).put 3 _) Tryz.underlying28 rfl (by kernel_rfl)) rfl ⟨r1, r2, rfl, ?_, ?_, hap, ?_⟩
 ·exact ((((Q1.other (by dsimp only; omega) _).other (by dsimp only; omega) _).other (by dsimp only; omega) _).other (by dsimp only; omega) _).mono (by omega)
 ·exact ((((Q2.other (by dsimp only; omega) _).other (by dsimp only; omega) _).other (by dsimp only; omega) _).other (by dsimp only; omega) _).mono (by omega)
 ·exact (((KG.out.setCell (by dsimp only; omega) _).setCell (by dsimp only; omega) _).setCell (by dsimp only; omega) _).setCell (by dsimp only; omega) _
theorem field_frac (s1 : Bool) (a1 : Option Addr) (n1 c1 : Nat) (s2 : Bool) (a2 : Option Addr) (n2 c2 : Nat) (w : World) : (Instr.field 28 (fracV s1 a1 n1 c1 s2 a2 n2 c2) 0).run Tryz.prog w = .ok (numV s1 a1 n1 c1) w := by kernel_rfl
set_option maxRecDepth 100000 in
set_option maxHeartbeats 1000000 in
theorem fsign_any (s1 : Bool) (a1 : Option Addr) (n1 c1 : Nat) (o1 : Nat → Int) (s2 : Bool) (a2 : Option Addr) (n2 c2 : Nat) (o2 : Nat → Int) (w : World) (x : Rat) (hx : x = valF s1 n1 o1 s2 n2 o2)
  (h1 : Rd w a1 n1 o1) (hn1 : n1 ≤ 1000000) (hc1 : n1 ≤ c1) (h2 : Rd w a2 n2 o2) (hn2 : n2 ≤ 1000000) (hc2 : n2 ≤ c2) :
  Calls Tryz.prog 13 #[fracV s1 a1 n1 c1 s2 a2 n2 c2] w fun e w' => e = .returned (.int .i64 (cmpZ x.num 0)) ∧ Below w.heap.size w w' := by
 have hfar : ∀ {a : Option Addr} {n : Nat} {o : Nat → Int}, Rd w a n o → 0 < n → ∀ p, a = some p → p.block < w.heap.size := fun h h0 p hp => by
  obtain ⟨b, off, e, hc⟩ := h.cells h0
  rw [e] at hp; cases hp
  exact block_lt_of_cell (hc 0 h0)
 have l1 := valF_len (s1 := s1) (s2 := s2) h1.rng h2.rng
 rw [← hx] at l1
 have HL := Lib.hid (show lenB x.num.natAbs ≤ 1000001 by omega)
 have HB1 := Lib.hid (Bxs.new w 28 [.bool s1, .slice a1 n1 c1, .bool s2, .slice a2 n2 c2])
 obtain ⟨W, hW⟩ : ∃ W, W = w.alloc (.cells #[.bool s1, .slice a1 n1 c1, .bool s2, .slice a2 n2 c2] 28) := ⟨_, rfl⟩
 have KG := Lib.hid (show Below w.heap.size w W by rw [hW]; exact (Below.refl _ _).alloc (Nat.le_refl _) _)
 have HB1 := Lib.hid (show Bxs W w.heap.size 28 [.bool s1, .slice a1 n1 c1, .bool s2, .slice a2 n2 c2] by rw [hW]; exact HB1.out)
 have OX := Lib.hid (fof2_any s1 a1 n1 c1 o1 s2 a2 n2 c2 o2 W w.heap.size KG.out.size (h1.below KG.out) (by omega) hc1 (hfar h1) (h2.below KG.out) (by omega) hc2 (hfar h2))
 rw [← hx] at OX
 obtain ⟨p, hp⟩ : ∃ p, p = x.num := ⟨_, rfl⟩
 obtain ⟨q, hq⟩ : ∃ q : Int, q = (x.den : Int) := ⟨_, rfl⟩
 rw [← hp, ← hq] at OX
 rw [← hp] at HL ⊢
 have HW := Lib.hid hW
 clear hW h1 h2 l1 hfar hx hp hq
 go_enter Tryz.func13, Tryz.ntmps13
 go_upto_region 1 with (fail)
 rw [show w.alloc (.cells #[.bool s1, .slice a1 n1 c1, .bool s2, .slice a2 n2 c2] 28) = W from HW.out.symm]
 clear HW
 obtain ⟨x0, x1, x2, x3, x4, x5⟩ := frac_box HB1.out
 go_wp2_with fail
 with_reducible refine OX.out.mono ?_
 intro e w2 hh
 obtain ⟨⟨za, zc, zb, zd⟩, rfl, hi, hb⟩ := fracS_ex hh
 have hff := field_frac (decide (p < 0)) za (lenB p.natAbs) zc (decide (q < 0)) zb (lenB q.natAbs) zd w2
 have SG := Lib.hid (sign_any (decide (p < 0)) za (lenB p.natAbs) zc (dgi p.natAbs) w2 hi.r1.rd (by have := HL.out; omega) hi.c1)
 rw [canon_val] at SG
 have KG := Lib.hid (KG.out.trans (hb.mono KG.out.size))
 clear hh hi hb OX x0 x1 x2 x3 x4 x5 HB1
 go_wp2_with fail
 with_reducible refine SG.out.mono ?_
 rintro e w3 ⟨rfl, hb⟩
 have KG := Lib.hid (KG.out.trans (hb.mono KG.out.size))
 clear hb SG
 go_wp2_with fail
 go_ret
 exact ⟨rfl, KG.out⟩
theorem okF_canon (x : Rat) : okF (decide (x.num < 0)) (lenB x.num.natAbs) (dgi x.num.natAbs) (decide ((x.den : Int) < 0)) (lenB (x.den : Int).natAbs) (dgi (x.den : Int).natAbs) := by
 refine ⟨canon_ok _, canon_ok _, ?_, ?_⟩
 ·rw [canon_val]; exact rat_pos x
 ·rw [canon_val, canon_val]; exact rat_gcd x
theorem valF_canon (x : Rat) : valF (decide (x.num < 0)) (lenB x.num.natAbs) (dgi x.num.natAbs) (decide ((x.den : Int) < 0)) (lenB (x.den : Int).natAbs) (dgi (x.den : Int).natAbs) = x := by
 obtain ⟨e1, e2⟩ := valF_ok (okF_canon x)
 rw [canon_val] at e1 e2
 exact Rat.ext e1 (by omega)
set_option maxRecDepth 100000 in
set_option maxHeartbeats 2000000 in
theorem mulc_any (bx bz : Nat) (p r : Int) (a1 : Option Addr) (c1 : Nat) (a2 : Option Addr) (n2 c2 : Nat) (s2 : Bool) (a3 : Option Addr) (c3 : Nat) (a4 : Option Addr) (n4 c4 : Nat) (s4 : Bool) (ta tb : Bool) (ua ub : Option Addr) (na ca nb cb : Nat) (w : World)
  (hbx : Bxs w bx 28 [.bool (decide (p < 0)), .slice a1 (lenB p.natAbs) c1, .bool s2, .slice a2 n2 c2]) (hbz : Bxs w bz 28 [.bool (decide (r < 0)), .slice a3 (lenB r.natAbs) c3, .bool s4, .slice a4 n4 c4])
  (h1 : Rd w a1 (lenB p.natAbs) (dgi p.natAbs)) (hn1 : lenB p.natAbs ≤ 100000000) (hc1 : lenB p.natAbs ≤ c1) (h2 : Rd w a3 (lenB r.natAbs) (dgi r.natAbs)) (hn2 : lenB r.natAbs ≤ 100000000) (hc2 : lenB r.natAbs ≤ c3) :
  Calls Tryz.prog 57 #[numV ta ua na ca, numV tb ub nb cb, .pointer (some ⟨bx, 0, none⟩), .pointer (some ⟨bz, 0, none⟩)] w (ResN w (p * r)) := by
 have HB1 := Lib.hid (((hbx.alloc (.cells #[.bool ta, .slice ua na ca] 26)).alloc (.cells #[.bool tb, .slice ub nb cb] 26)).alloc (.cells #[.bool false, .slice none 0 0] 26))
 have HB2 := Lib.hid (((hbz.alloc (.cells #[.bool ta, .slice ua na ca] 26)).alloc (.cells #[.bool tb, .slice ub nb cb] 26)).alloc (.cells #[.bool false, .slice none 0 0] 26))
 have HB3 := Lib.hid (Bxs.new ((w.alloc (.cells #[.bool ta, .slice ua na ca] 26)).alloc (.cells #[.bool tb, .slice ub nb cb] 26)) 26 [.bool false, .slice none 0 0])
 obtain ⟨W, hW⟩ : ∃ W, W = ((w.alloc (.cells #[.bool ta, .slice ua na ca] 26)).alloc (.cells #[.bool tb, .slice ub nb cb] 26)).alloc (.cells #[.bool false, .slice none 0 0] 26) := ⟨_, rfl⟩
 have KG := Lib.hid (show Below w.heap.size w W by rw [hW]; exact (((Below.refl _ _).alloc (Nat.le_refl _) _).alloc (by go_size) _).alloc (by go_size) _)
 have hWs : w.heap.size + 3 = W.heap.size := by rw [hW]; simp
 rw [← hW] at HB1 HB2
 have HB3 := Lib.hid (show Bxs W (w.heap.size + 1 + 1) 26 [.bool false, .slice none 0 0] by have h := HB3.out; simp only [World.size_alloc] at h; rw [hW]; exact h)
 have BR := Lib.hid (mul_any (decide (p < 0)) a1 (lenB p.natAbs) c1 (dgi p.natAbs) (decide (r < 0)) a3 (lenB r.natAbs) c3 (dgi r.natAbs) W (h1.below KG.out) hn1 hc1 (h2.below KG.out) hn2 hc2)
 rw [canon_val, canon_val] at BR
 obtain ⟨T, hT⟩ : ∃ T, T = p * r := ⟨_, rfl⟩
 rw [← hT] at BR ⊢
 have HW := Lib.hid hW
 have HWS := Lib.hid hWs
 clear hW hWs h1 h2 hT hbx hbz
 go_enter Tryz.func57, Tryz.ntmps57
 go_upto_region 1 with (fail)
 rw [show ((w.alloc (.cells #[.bool ta, .slice ua na ca] 26)).alloc (.cells #[.bool tb, .slice ub nb cb] 26)).alloc (.cells #[.bool false, .slice none 0 0] 26) = W from HW.out.symm]
 clear HW
 obtain ⟨x0, x1, x2, x3, x4, x5⟩ := frac_box HB1.out
 obtain ⟨y0, y1, y2, y3, y4, y5⟩ := frac_box HB2.out
 go_wp2_with fail
 with_reducible refine BR.out.mono ?_
 rintro e w2 ⟨m, rfl, O1, hm, hb⟩
 have M3 := Lib.hid (HB3.out.below hb HB3.out.lt)
 have KG := Lib.hid (KG.out.trans (hb.mono KG.out.size))
 have hvs := HWS.out
 have h2s := hb.size
 clear x0 x1 x2 x3 x4 x5 y0 y1 y2 y3 y4 y5 HB1 HB2 HB3 BR hb
 obtain ⟨z0, z1, z2, z3⟩ := M3.out.bx.all
 go_wp2_with fail
 refine bodyPost_ret (results_cell rfl _ _ _ _ _ _ _ rfl ((M3.out.put 0 _).put 1 _) Tryz.underlying26 rfl (by kernel_rfl)) rfl ⟨m, rfl, ?_, hm, ?_⟩
 ·exact ((O1.other (by dsimp only; omega) _).other (by dsimp only; omega) _).mono (by omega)
 ·exact (KG.out.setCell (by dsimp only; omega) _).setCell (by dsimp only; omega) _
set_option maxRecDepth 100000 in
set_option maxHeartbeats 4000000 in
theorem fmul_any (s1 : Bool) (a1 : Option Addr) (n1 c1 : Nat) (o1 : Nat → Int) (s2 : Bool) (a2 : Option Addr) (n2 c2 : Nat) (o2 : Nat → Int) (s3 : Bool) (a3 : Option Addr) (n3 c3 : Nat) (o3 : Nat → Int) (s4 : Bool) (a4 : Option Addr) (n4 c4 : Nat) (o4 : Nat → Int) (w : World) (x y : Rat)
  (hx : x = valF s1 n1 o1 s2 n2 o2) (hy : y = valF s3 n3 o3 s4 n4 o4)
  (h1 : Rd w a1 n1 o1) (hn1 : n1 ≤ 900000) (hc1 : n1 ≤ c1) (h2 : Rd w a2 n2 o2) (hn2 : n2 ≤ 900000) (hc2 : n2 ≤ c2) (h3 : Rd w a3 n3 o3) (hn3 : n3 ≤ 900000) (hc3 : n3 ≤ c3) (h4 : Rd w a4 n4 o4) (hn4 : n4 ≤ 900000) (hc4 : n4 ≤ c4) :
  Calls Tryz.prog 17 #[fracV s1 a1 n1 c1 s2 a2 n2 c2, fracV s3 a3 n3 c3 s4 a4 n4 c4] w (FracR w (x * y).num ((x * y).den : Int)) := by
 have hfar : ∀ {a : Option Addr} {n : Nat} {o : Nat → Int}, Rd w a n o → 0 < n → ∀ p, a = some p → p.block < w.heap.size := fun h h0 p hp => by
  obtain ⟨b, off, e, hc⟩ := h.cells h0
  rw [e] at hp; cases hp
  exact block_lt_of_cell (hc 0 h0)
 have OX := Lib.hid (fun (w' : World) (hb : Below w.heap.size w w') => fof2_any s1 a1 n1 c1 o1 s2 a2 n2 c2 o2 w' w.heap.size hb.size (h1.below hb) (by omega) hc1 (hfar h1) (h2.below hb) (by omega) hc2 (hfar h2))
 have OY := Lib.hid (fun (w' : World) (hb : Below w.heap.size w w') => fof2_any s3 a3 n3 c3 o3 s4 a4 n4 c4 o4 w' w.heap.size hb.size (h3.below hb) (by omega) hc3 (hfar h3) (h4.below hb) (by omega) hc4 (hfar h4))
 have l1 := valF_len (s1 := s1) (s2 := s2) h1.rng h2.rng
 have l2 := valF_len (s1 := s3) (s2 := s4) h3.rng h4.rng
 rw [← hx] at OX l1
 rw [← hy] at OY l2
 obtain ⟨p, hp⟩ : ∃ p, p = x.num := ⟨_, rfl⟩
 obtain ⟨q, hq⟩ : ∃ q : Int, q = (x.den : Int) := ⟨_, rfl⟩
 obtain ⟨r, hr⟩ : ∃ r, r = y.num := ⟨_, rfl⟩
 obtain ⟨t, ht⟩ : ∃ t : Int, t = (y.den : Int) := ⟨_, rfl⟩
 rw [← hp, ← hq] at OX l1
 rw [← hr, ← ht] at OY l2
 have HP := Lib.hid (And.intro hp (And.intro hq (And.intro hr ht)))
 obtain ⟨z, hz⟩ : ∃ z, z = x * y := ⟨_, rfl⟩
 rw [← hz]
 have HZ := Lib.hid hz
 clear hz
 have HL := Lib.hid (show (lenB p.natAbs ≤ 900001 ∧ lenB q.natAbs ≤ 900001) ∧ lenB r.natAbs ≤ 900001 ∧ lenB t.natAbs ≤ 900001 by omega)
 clear hp hq hr ht hx hy h1 h2 h3 h4 l1 l2 hfar
 have HB1 := Lib.hid (((Bxs.new w 28 [.bool s1, .slice a1 n1 c1, .bool s2, .slice a2 n2 c2]).alloc (.cells #[.bool s3, .slice a3 n3 c3, .bool s4, .slice a4 n4 c4] 28)).alloc (.cells #[.bool false, .slice none 0 0, .bool false, .slice none 0 0] 28))
 have HB2 := Lib.hid (((Bxs.new (w.alloc (.cells #[.bool s1, .slice a1 n1 c1, .bool s2, .slice a2 n2 c2] 28)) 28 [.bool s3, .slice a3 n3 c3, .bool s4, .slice a4 n4 c4]).alloc (.cells #[.bool false, .slice none 0 0, .bool false, .slice none 0 0] 28)))
 have HB4 := Lib.hid ((Bxs.new ((w.alloc (.cells #[.bool s1, .slice a1 n1 c1, .bool s2, .slice a2 n2 c2] 28)).alloc (.cells #[.bool s3, .slice a3 n3 c3, .bool s4, .slice a4 n4 c4] 28)) 28 [.bool false, .slice none 0 0, .bool false, .slice none 0 0]))
 obtain ⟨W, hW⟩ : ∃ W, W = ((w.alloc (.cells #[.bool s1, .slice a1 n1 c1, .bool s2, .slice a2 n2 c2] 28)).alloc (.cells #[.bool s3, .slice a3 n3 c3, .bool s4, .slice a4 n4 c4] 28)).alloc (.cells #[.bool false, .slice none 0 0, .bool false, .slice none 0 0] 28) := ⟨_, rfl⟩
 have KG := Lib.hid (show Below w.heap.size w W by rw [hW]; exact (((Below.refl _ _).alloc (Nat.le_refl _) _).alloc (by go_size) _).alloc (by go_size) _)
 have hWs : w.heap.size + 3 = W.heap.size := by rw [hW]; simp
 have HB1 := Lib.hid (show Bxs W w.heap.size 28 [.bool s1, .slice a1 n1 c1, .bool s2, .slice a2 n2 c2] by rw [hW]; exact HB1.out)
 have HB2 := Lib.hid (show Bxs W (w.heap.size + 1) 28 [.bool s3, .slice a3 n3 c3, .bool s4, .slice a4 n4 c4] by have h := HB2.out; simp only [World.size_alloc] at h; rw [hW]; exact h)
 have HB4 := Lib.hid (show Bxs W (w.heap.size + 1 + 1) 28 [.bool false, .slice none 0 0, .bool false, .slice none 0 0] by have h := HB4.out; simp only [World.size_alloc] at h; rw [hW]; exact h)
 have HW := Lib.hid hW
 have HWS := Lib.hid hWs
 clear hW hWs
 go_enter Tryz.func17, Tryz.ntmps17
 go_upto_region 1 with (fail)
 rw [show ((w.alloc (.cells #[.bool s1, .slice a1 n1 c1, .bool s2, .slice a2 n2 c2] 28)).alloc (.cells #[.bool s3, .slice a3 n3 c3, .bool s4, .slice a4 n4 c4] 28)).alloc (.cells #[.bool false, .slice none 0 0, .bool false, .slice none 0 0] 28) = W from HW.out.symm]
 clear HW
 have HS := Lib.hid (fun (w' : World) (hb : Below W.heap.size W w') => And.intro (frac_box (HB1.out.below hb HB1.out.lt)) (frac_box (HB2.out.below hb HB2.out.lt)))
 refine wp_region_fresh 3 (spOf [(1, Sp.made (fracX p q) (fun x w' => FracI w' w.heap.size (w.heap.size + 3) p q x))]) (fun w' => Below W.heap.size W w') (by kernel_rfl) (by kernel_rfl)
  (spOf_cons (Sp.made_keeps fun x w w' h hb => h.below hb) spOf_nil) (fun _ _ h hb => h.trans (hb.mono h.size)) ((Below.refl _ _).drew) ?_
 simp only [List.take_succ_cons, List.take_zero, List.drop_succ_cons, List.drop_zero]
 (refine wpF_reads rfl rfl ?_ (fun w' hw' => ?_) ?_; rotate_left; · (have hb' := Has.world hw'; (obtain ⟨x0, x1, x2, x3, x4, x5⟩ := (HS.out _ hb').1); clear hw'; go_simp; try rfl))
 conv => arg 9; simp only [Act.put, Go.q0, Go.q1, Go.q2]
 refine wpF_spec rfl rfl (fun w' hw' => ?_) ?_
 ·have hb' := hw'.world
  go_simp
  refine (OX.out w' (KG.out.trans (hb'.mono KG.out.size))).mono ?_
  intro e w'' hh
  obtain ⟨z, rfl, hi, hb⟩ := fracS_ex hh
  exact ⟨_, rfl, ⟨⟨z.1, z.2.1, z.2.2.1, z.2.2.2, rfl⟩, ⟨z.1, z.2.1, z.2.2.1, z.2.2.2, rfl, hi.up (by have := hb'.size; have := HWS.out; omega)⟩⟩, hb⟩
 rintro _ ⟨xa, rfl⟩
 conv => arg 9; simp only [Act.put, Go.q0, Go.q1, Go.q2]
 (refine wpF_reads rfl rfl ?_ (fun w' hw' => ?_) ?_; rotate_left; · (have hb' := Has.world hw'; (obtain ⟨x0, x1, x2, x3, x4, x5⟩ := (HS.out _ hb').2); clear hw'; go_simp; try rfl))
 conv => arg 9; simp only [Act.put, Go.q0, Go.q1, Go.q2]
 refine wpF_nil (fun w1 hb1 hF => ?_)
 have HXA := Lib.hid (fracI_of (hF 1))
 have GB := Lib.hid hb1
 clear hF hb1
 go_wp2_with fail
 have OY1 := Lib.hid (OY.out w1 (KG.out.trans (GB.out.mono KG.out.size)))
 clear OX OY HS
 with_reducible refine OY1.out.mono ?_
 intro e w2 hh
 obtain ⟨yb, rfl, hi, hb⟩ := fracS_ex hh
 have HYB := Lib.hid (hi.up (show w.heap.size + 3 ≤ w1.heap.size by have := GB.out.size; have := HWS.out; omega))
 have HXA := Lib.hid (HXA.out.below hb)
 have GB := Lib.hid (GB.out.trans (hb.mono GB.out.size))
 clear hh hi hb OY1
 have M1 := Lib.hid (HB1.out.below GB.out HB1.out.lt)
 have M2 := Lib.hid (HB2.out.below GB.out HB2.out.lt)
 have M4 := Lib.hid (HB4.out.below GB.out HB4.out.lt)
 obtain ⟨x0, x1, x2, x3, x4, x5⟩ := frac_box M1.out
 obtain ⟨y0, y1, y2, y3, y4, y5⟩ := frac_box M2.out
 go_upto_region 2 with (fail)
 obtain ⟨V, hV⟩ : ∃ V, V = ((((((((w2.setCell ⟨w.heap.size, 0, none⟩ (.bool (decide (p < 0)))).setCell ⟨w.heap.size, 1, none⟩ (.slice xa.1 (lenB p.natAbs) xa.2.1)).setCell ⟨w.heap.size, 2, none⟩ (.bool (decide (q < 0)))).setCell ⟨w.heap.size, 3, none⟩ (.slice xa.2.2.1 (lenB q.natAbs) xa.2.2.2)).setCell ⟨w.heap.size + 1, 0, none⟩ (.bool (decide (r < 0)))).setCell ⟨w.heap.size + 1, 1, none⟩ (.slice yb.1 (lenB r.natAbs) yb.2.1)).setCell ⟨w.heap.size + 1, 2, none⟩ (.bool (decide (t < 0)))).setCell ⟨w.heap.size + 1, 3, none⟩ (.slice yb.2.2.1 (lenB t.natAbs) yb.2.2.2)) := ⟨_, rfl⟩
 have M1 := Lib.hid (show Bxs V w.heap.size 28 [.bool (decide (p < 0)), .slice xa.1 (lenB p.natAbs) xa.2.1, .bool (decide (q < 0)), .slice xa.2.2.1 (lenB q.natAbs) xa.2.2.2] by rw [hV]; exact ((((((((M1.out.put 0 _).put 1 _).put 2 _).put 3 _).other (by dsimp only; omega) _).other (by dsimp only; omega) _).other (by dsimp only; omega) _).other (by dsimp only; omega) _))
 have M2 := Lib.hid (show Bxs V (w.heap.size + 1) 28 [.bool (decide (r < 0)), .slice yb.1 (lenB r.natAbs) yb.2.1, .bool (decide (t < 0)), .slice yb.2.2.1 (lenB t.natAbs) yb.2.2.2] by rw [hV]; exact ((((((((M2.out.other (by dsimp only; omega) _).other (by dsimp only; omega) _).other (by dsimp only; omega) _).other (by dsimp only; omega) _).put 0 _).put 1 _).put 2 _).put 3 _))
 have M4 := Lib.hid (show Bxs V (w.heap.size + 1 + 1) 28 [.bool false, .slice none 0 0, .bool false, .slice none 0 0] by rw [hV]; exact ((((((((M4.out.other (by dsimp only; omega) _).other (by dsimp only; omega) _).other (by dsimp only; omega) _).other (by dsimp only; omega) _).other (by dsimp only; omega) _).other (by dsimp only; omega) _).other (by dsimp only; omega) _).other (by dsimp only; omega) _))
 have HXA := Lib.hid (show FracI V w.heap.size (w.heap.size + 3) p q xa by rw [hV]; exact ((((((((HXA.out.set (by dsimp only; omega) (by dsimp only; omega) _).set (by dsimp only; omega) (by dsimp only; omega) _).set (by dsimp only; omega) (by dsimp only; omega) _).set (by dsimp only; omega) (by dsimp only; omega) _).set (by dsimp only; omega) (by dsimp only; omega) _).set (by dsimp only; omega) (by dsimp only; omega) _).set (by dsimp only; omega) (by dsimp only; omega) _).set (by dsimp only; omega) (by dsimp only; omega) _))
 have HYB := Lib.hid (show FracI V w.heap.size (w.heap.size + 3) r t yb by rw [hV]; exact ((((((((HYB.out.set (by dsimp only; omega) (by dsimp only; omega) _).set (by dsimp only; omega) (by dsimp only; omega) _).set (by dsimp only; omega) (by dsimp only; omega) _).set (by dsimp only; omega) (by dsimp only; omega) _).set (by dsimp only; omega) (by dsimp only; omega) _).set (by dsimp only; omega) (by dsimp only; omega) _).set (by dsimp only; omega) (by dsimp only; omega) _).set (by dsimp only; omega) (by dsimp only; omega) _))
 have hG := KG.out.trans (GB.out.mono KG.out.size)
 have KG := Lib.hid (show Below w.heap.size w V by rw [hV]; exact ((((((((hG.setCell (by dsimp only; omega) _).setCell (by dsimp only; omega) _).setCell (by dsimp only; omega) _).setCell (by dsimp only; omega) _).setCell (by dsimp only; omega) _).setCell (by dsimp only; omega) _).setCell (by dsimp only; omega) _).setCell (by dsimp only; omega) _))
 rw [show ((((((((w2.setCell ⟨w.heap.size, 0, none⟩ (.bool (decide (p < 0)))).setCell ⟨w.heap.size, 1, none⟩ (.slice xa.1 (lenB p.natAbs) xa.2.1)).setCell ⟨w.heap.size, 2, none⟩ (.bool (decide (q < 0)))).setCell ⟨w.heap.size, 3, none⟩ (.slice xa.2.2.1 (lenB q.natAbs) xa.2.2.2)).setCell ⟨w.heap.size + 1, 0, none⟩ (.bool (decide (r < 0)))).setCell ⟨w.heap.size + 1, 1, none⟩ (.slice yb.1 (lenB r.natAbs) yb.2.1)).setCell ⟨w.heap.size + 1, 2, none⟩ (.bool (decide (t < 0)))).setCell ⟨w.heap.size + 1, 3, none⟩ (.slice yb.2.2.1 (lenB t.natAbs) yb.2.2.2)) = V from hV.symm]
 clear hV hG x0 x1 x2 x3 x4 x5 y0 y1 y2 y3 y4 y5 HB1 HB2 HB4 GB
 have MK := Lib.hid (make2_any 57 #[.pointer (some ⟨w.heap.size, 0, none⟩), .pointer (some ⟨w.heap.size + 1, 0, none⟩)] (p * r) (decide (p < 0)) xa.1 (lenB p.natAbs) xa.2.1 (dgi p.natAbs) (decide (q < 0)) xa.2.2.1 (lenB q.natAbs) xa.2.2.2 (dgi q.natAbs) (decide (r < 0)) yb.1 (lenB r.natAbs) yb.2.1 (dgi r.natAbs) (decide (t < 0)) yb.2.2.1 (lenB t.natAbs) yb.2.2.2 (dgi t.natAbs) V x y
  (by rw [HP.out.1, HP.out.2.1]; exact (valF_canon x).symm) (by rw [HP.out.2.2.1, HP.out.2.2.2]; exact (valF_canon y).symm)
  HXA.out.r1.rd (by have := HL.out; omega) HXA.out.c1 HXA.out.r2.rd (by have := HL.out; omega) HXA.out.c2 HYB.out.r1.rd (by have := HL.out; omega) HYB.out.c1 HYB.out.r2.rd (by have := HL.out; omega) HYB.out.c2
  (fun _ _ => rfl) (by have h := lenB_mul_le p.natAbs r.natAbs; rw [← Int.natAbs_mul] at h; have := HL.out; omega)
  (fun m1 m2 w1 hb _ _ => mulc_any w.heap.size (w.heap.size + 1) p r _ _ _ _ _ _ _ _ _ _ _ _ _ _ _ _ _ _ _ _ w1 (M1.out.below hb M1.out.lt) (M2.out.below hb M2.out.lt) (HXA.out.r1.rd.below hb) (by have := HL.out; omega) HXA.out.c1 (HYB.out.r1.rd.below hb) (by have := HL.out; omega) HYB.out.c1))
 rw [show Rat.divInt (p * r) ((x.den : Int) * (y.den : Int)) = x * y by rw [HP.out.1, HP.out.2.2.1, Rat.mul_def', ← Rat.divInt_ofNat, Int.natCast_mul]] at MK
 rw [← HZ.out] at MK
 have HVS := Lib.hid (show w.heap.size + 3 ≤ V.heap.size by have := M4.out.lt; omega)
 clear HZ HP HL HXA HYB
 obtain ⟨x0, x1, x2, x3, x4, x5⟩ := frac_box M1.out
 obtain ⟨y0, y1, y2, y3, y4, y5⟩ := frac_box M2.out
 go_wp2_with fail
 with_reducible refine MK.out.mono ?_
 rintro e w4 ⟨r1, r2, rfl, Q1, Q2, hap, hb⟩
 have M3 := Lib.hid (M4.out.below hb M4.out.lt)
 have KG := Lib.hid (KG.out.trans (hb.mono KG.out.size))
 have hvs := HVS.out
 have h2s := hb.size
 clear x0 x1 x2 x3 x4 x5 y0 y1 y2 y3 y4 y5 M1 M2 M4 MK hb
 obtain ⟨z0, z1, z2, z3, zf, zl⟩ := frac_box M3.out
 go_wp2_with fail
 refine bodyPost_ret (results_cell rfl _ _ _ _ _ _ _ rfl ((((M3.out.put 0 _).put 1 _).put 2 _).put 3 _) Tryz.underlying28 rfl (by kernel_rfl)) rfl ⟨r1, r2, rfl, ?_, ?_, hap, ?_⟩
 ·exact ((((Q1.other (by dsimp only; omega) _).other (by dsimp only; omega) _).other (by dsimp only; omega) _).other (by dsimp only; omega) _).mono (by omega)
 ·exact ((((Q2.other (by dsimp only; omega) _).other (by dsimp only; omega) _).other (by dsimp only; omega) _).other (by dsimp only; omega) _).mono (by omega)
 ·exact (((KG.out.setCell (by dsimp only; omega) _).setCell (by dsimp only; omega) _).setCell (by dsimp only; omega) _).setCell (by dsimp only; omega) _
theorem divInt_len (t l : Int) (hl : l ≠ 0) : lenB (Rat.divInt t l).num.natAbs ≤ lenB t.natAbs ∧ lenB ((Rat.divInt t l).den : Int).natAbs ≤ lenB l.natAbs := by
 rw [← low_num t l hl, ← low_den t l hl]
 exact ⟨lenB_mono (Int.natAbs_ediv_le_natAbs _ _), lenB_mono (Int.natAbs_ediv_le_natAbs _ _)⟩
theorem add_len {x y : Rat} {k : Nat} (h1 : lenB x.num.natAbs ≤ k) (h2 : lenB (x.den : Int).natAbs ≤ k) (h3 : lenB y.num.natAbs ≤ k) (h4 : lenB (y.den : Int).natAbs ≤ k) : lenB (x + y).num.natAbs ≤ 2 * k + 1 ∧ lenB ((x + y).den : Int).natAbs ≤ 2 * k := by
 rw [← rat_add x y]
 have h := divInt_len (x.num * (y.den : Int) + y.num * (x.den : Int)) ((x.den : Int) * (y.den : Int)) (Int.ne_of_gt (Int.mul_pos (rat_pos x) (rat_pos y)))
 have hl1 := lenB_mul_le x.num.natAbs (y.den : Int).natAbs
 have hl2 := lenB_mul_le y.num.natAbs (x.den : Int).natAbs
 have hl3 := lenB_mul_le (x.den : Int).natAbs (y.den : Int).natAbs
 rw [← Int.natAbs_mul] at hl1 hl2 hl3
 have hl5 := lenB_add (x.num * (y.den : Int)) (y.num * (x.den : Int))
 omega
theorem mul_len {x y : Rat} {k : Nat} (h1 : lenB x.num.natAbs ≤ k) (h2 : lenB (x.den : Int).natAbs ≤ k) (h3 : lenB y.num.natAbs ≤ k) (h4 : lenB (y.den : Int).natAbs ≤ k) : lenB (x * y).num.natAbs ≤ 2 * k ∧ lenB ((x * y).den : Int).natAbs ≤ 2 * k := by
 have e : Rat.divInt (x.num * y.num) ((x.den : Int) * (y.den : Int)) = x * y := by rw [Rat.mul_def', ← Rat.divInt_ofNat, Int.natCast_mul]
 rw [← e]
 have h := divInt_len (x.num * y.num) ((x.den : Int) * (y.den : Int)) (Int.ne_of_gt (Int.mul_pos (rat_pos x) (rat_pos y)))
 have hl1 := lenB_mul_le x.num.natAbs y.num.natAbs
 have hl3 := lenB_mul_le (x.den : Int).natAbs (y.den : Int).natAbs
 rw [← Int.natAbs_mul] at hl1 hl3
 omega
end Go.Proofs.YthcccdjfedbnfaaGreatDoor.Limb

