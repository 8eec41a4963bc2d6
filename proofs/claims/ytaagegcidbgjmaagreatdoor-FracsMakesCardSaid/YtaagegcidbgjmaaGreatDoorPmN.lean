/-
  The document's answer for fracs: Div; both Divs, any two fractions; how great a quotient's numbers are.
  The law's helpers on fractions: SameFrac, LeftFrac, TwinFrac, great.
  The fraction of any two numbers (25 parts at most), and that of one of 64 bits, are the documented ones, or refused; the numbers stay as they were; answers are memory of their own.
-/
import Derived.Test.YtaagegcidbgjmaaGreatDoorPmM
namespace Go.Proofs.YtaagegcidbgjmaaGreatDoor.Limb
open Go.RowKit Go.Sort Go.Fresh

theorem divInt_len (t l : Int) (hl : l ≠ 0) : lenB (Rat.divInt t l).num.natAbs ≤ lenB t.natAbs ∧ lenB ((Rat.divInt t l).den : Int).natAbs ≤ lenB l.natAbs := by
  rw [← low_num t l hl, ← low_den t l hl]
  exact ⟨lenB_mono (Int.natAbs_ediv_le_natAbs _ _), lenB_mono (Int.natAbs_ediv_le_natAbs _ _)⟩
theorem add_len {x y : Rat} {k : Nat} (h1 : lenB x.num.natAbs ≤ k) (h2 : lenB (x.den : Int).natAbs ≤ k) (h3 : lenB y.num.natAbs ≤ k) (h4 : lenB (y.den : Int).natAbs ≤ k) : lenB (x + y).num.natAbs ≤ 2 * k + 1 ∧ lenB ((x + y).den : Int).natAbs ≤ 2 * k := by
  rw [← rat_add x y]
  have h := divInt_len (x.num * (y.den : Int) + y.num * (x.den : Int)) ((x.den : Int) * (y.den : Int)) (Int.ne_of_gt (Int.mul_pos (rat_pos x) (rat_pos y)))
  have hl1 := lenB_mul_le x.num.natAbs (y.den : Int).natAbs
  have hl2 := lenB_mul_le y.num.natAbs (x.den : Int).natAbs
  have hl3 := lenB_mul_le (x.den : Int).natAbs (y.den : Int).natAbs
  rw [← Int.natAbs_mul] at hl1 hl2 hl3
  have hl5 := lenB_add (x.num * (y.den : Int)) (y.num * (x.den : Int))
  omega
theorem sub_len {x y : Rat} {k : Nat} (h1 : lenB x.num.natAbs ≤ k) (h2 : lenB (x.den : Int).natAbs ≤ k) (h3 : lenB y.num.natAbs ≤ k) (h4 : lenB (y.den : Int).natAbs ≤ k) : lenB (x - y).num.natAbs ≤ 2 * k + 1 ∧ lenB ((x - y).den : Int).natAbs ≤ 2 * k := by
  rw [Rat.sub_eq_add_neg]
  exact add_len h1 h2 (by rw [Rat.neg_num, Int.natAbs_neg]; exact h3) (by rw [Rat.neg_den]; exact h4)
theorem mul_len {x y : Rat} {k : Nat} (h1 : lenB x.num.natAbs ≤ k) (h2 : lenB (x.den : Int).natAbs ≤ k) (h3 : lenB y.num.natAbs ≤ k) (h4 : lenB (y.den : Int).natAbs ≤ k) : lenB (x * y).num.natAbs ≤ 2 * k ∧ lenB ((x * y).den : Int).natAbs ≤ 2 * k := by
  have e : Rat.divInt (x.num * y.num) ((x.den : Int) * (y.den : Int)) = x * y := by rw [Rat.mul_def', ← Rat.divInt_ofNat, Int.natCast_mul]
  rw [← e]
  have h := divInt_len (x.num * y.num) ((x.den : Int) * (y.den : Int)) (Int.ne_of_gt (Int.mul_pos (rat_pos x) (rat_pos y)))
  have hl1 := lenB_mul_le x.num.natAbs y.num.natAbs
  have hl3 := lenB_mul_le (x.den : Int).natAbs (y.den : Int).natAbs
  rw [← Int.natAbs_mul] at hl1 hl3
  omega
theorem div_len {x y : Rat} {k : Nat} (hy : y ≠ 0) (h1 : lenB x.num.natAbs ≤ k) (h2 : lenB (x.den : Int).natAbs ≤ k) (h3 : lenB y.num.natAbs ≤ k) (h4 : lenB (y.den : Int).natAbs ≤ k) : lenB (x / y).num.natAbs ≤ 2 * k ∧ lenB ((x / y).den : Int).natAbs ≤ 2 * k := by
  rw [← rat_div x y]
  have h := divInt_len (x.num * (y.den : Int)) (y.num * (x.den : Int)) (fun h => by
    rcases Int.mul_eq_zero.1 h with h | h
    · exact hy (Rat.num_eq_zero.1 h)
    · exact Int.ne_of_gt (rat_pos x) h)
  have hl1 := lenB_mul_le x.num.natAbs (y.den : Int).natAbs
  have hl2 := lenB_mul_le y.num.natAbs (x.den : Int).natAbs
  rw [← Int.natAbs_mul] at hl1 hl2
  omega

open Classical in
set_option maxRecDepth 100000 in
set_option maxHeartbeats 4000000 in
theorem rfdiv_1 (s1 : Bool) (a1 : Option Addr) (n1 c1 : Nat) (o1 : Nat → Int) (s2 : Bool) (a2 : Option Addr) (n2 c2 : Nat) (o2 : Nat → Int) (s3 : Bool) (a3 : Option Addr) (n3 c3 : Nat) (o3 : Nat → Int) (s4 : Bool) (a4 : Option Addr) (n4 c4 : Nat) (o4 : Nat → Int) (w : World)
    (h1 : Rd w a1 n1 o1) (hn1 : n1 ≤ 900000) (hc1 : n1 ≤ c1) (h2 : Rd w a2 n2 o2) (hn2 : n2 ≤ 900000) (hc2 : n2 ≤ c2) (h3 : Rd w a3 n3 o3) (hn3 : n3 ≤ 900000) (hc3 : n3 ≤ c3) (h4 : Rd w a4 n4 o4) (hn4 : n4 ≤ 900000) (hc4 : n4 ≤ c4) (hk : ¬ okF s1 n1 o1 s2 n2 o2) :
    Calls Tryz.prog 21 #[fracV s1 a1 n1 c1 s2 a2 n2 c2, fracV s3 a3 n3 c3 s4 a4 n4 c4] w fun e w' => e = .returned (.tuple #[fracV false none 0 0 false none 0 0, .int .i64 1]) ∧ Below w.heap.size w w' := by
  have HB1 := Lib.hid (((Bxs.new w 27 [.bool s1, .slice a1 n1 c1, .bool s2, .slice a2 n2 c2]).alloc (.cells #[.bool s3, .slice a3 n3 c3, .bool s4, .slice a4 n4 c4] 27)).alloc (.cells #[.bool false, .slice none 0 0, .bool false, .slice none 0 0] 27))
  have HB2 := Lib.hid ((Bxs.new (w.alloc (.cells #[.bool s1, .slice a1 n1 c1, .bool s2, .slice a2 n2 c2] 27)) 27 [.bool s3, .slice a3 n3 c3, .bool s4, .slice a4 n4 c4]).alloc (.cells #[.bool false, .slice none 0 0, .bool false, .slice none 0 0] 27))
  have HB3 := Lib.hid (Bxs.new ((w.alloc (.cells #[.bool s1, .slice a1 n1 c1, .bool s2, .slice a2 n2 c2] 27)).alloc (.cells #[.bool s3, .slice a3 n3 c3, .bool s4, .slice a4 n4 c4] 27)) 27 [.bool false, .slice none 0 0, .bool false, .slice none 0 0])
  obtain ⟨W, hW⟩ : ∃ W, W = ((w.alloc (.cells #[.bool s1, .slice a1 n1 c1, .bool s2, .slice a2 n2 c2] 27)).alloc (.cells #[.bool s3, .slice a3 n3 c3, .bool s4, .slice a4 n4 c4] 27)).alloc (.cells #[.bool false, .slice none 0 0, .bool false, .slice none 0 0] 27) := ⟨_, rfl⟩
  have KG := Lib.hid (show Below w.heap.size w W by rw [hW]; exact (((Below.refl _ _).alloc (Nat.le_refl _) _).alloc (by go_size) _).alloc (by go_size) _)
  have hWs : w.heap.size + 3 = W.heap.size := by rw [hW]; simp
  have HB1 := Lib.hid (show Bxs W w.heap.size 27 [.bool s1, .slice a1 n1 c1, .bool s2, .slice a2 n2 c2] by rw [hW]; exact HB1.out)
  have HB2 := Lib.hid (show Bxs W (w.heap.size + 1) 27 [.bool s3, .slice a3 n3 c3, .bool s4, .slice a4 n4 c4] by have h := HB2.out; simp only [World.size_alloc] at h; rw [hW]; exact h)
  have HB3 := Lib.hid (show Bxs W (w.heap.size + 1 + 1) 27 [.bool false, .slice none 0 0, .bool false, .slice none 0 0] by have h := HB3.out; simp only [World.size_alloc] at h; rw [hW]; exact h)
  have HW := Lib.hid hW
  have HWS := Lib.hid hWs
  have CK1 := Lib.hid (rfcheck_any s1 a1 n1 c1 o1 s2 a2 n2 c2 o2 W (h1.below KG.out) (by omega) hc1 (h2.below KG.out) (by omega) hc2)
  rw [decide_eq_false hk] at CK1
  clear hk h1 h2 h3 h4 hW hWs
  go_enter Tryz.func21, Tryz.ntmps21
  go_upto_region 1 with (fail)
  rw [show ((w.alloc (.cells #[.bool s1, .slice a1 n1 c1, .bool s2, .slice a2 n2 c2] 27)).alloc (.cells #[.bool s3, .slice a3 n3 c3, .bool s4, .slice a4 n4 c4] 27)).alloc (.cells #[.bool false, .slice none 0 0, .bool false, .slice none 0 0] 27) = W from HW.out.symm]
  clear HW
  obtain ⟨x0, x1, x2, x3, x4, x5⟩ := frac_box HB1.out
  go_wp2_with fail
  with_reducible refine CK1.out.mono ?_
  rintro e w1 ⟨rfl, hb1⟩
  have GB := Lib.hid hb1
  clear hb1 x0 x1 x2 x3 x4 x5 CK1
  have M3 := Lib.hid (HB3.out.below GB.out HB3.out.lt)
  have hG := KG.out.trans (GB.out.mono KG.out.size)
  have hlt := HWS.out
  obtain ⟨z0, z1, z2, z3, zf, zl⟩ := frac_box M3.out
  go_wp2_with fail
  exact bodyPost_ret (results_ct rfl _ _ _ _ _ _ _ rfl ((((M3.out.put 0 _).put 1 _).put 2 _).put 3 _) Tryz.underlying27 rfl (by kernel_rfl)) rfl ⟨rfl, (((hG.setCell (by dsimp only; omega) _).setCell (by dsimp only; omega) _).setCell (by dsimp only; omega) _).setCell (by dsimp only; omega) _⟩
open Classical in
set_option maxRecDepth 100000 in
set_option maxHeartbeats 4000000 in
theorem rfdiv_2 (s1 : Bool) (a1 : Option Addr) (n1 c1 : Nat) (o1 : Nat → Int) (s2 : Bool) (a2 : Option Addr) (n2 c2 : Nat) (o2 : Nat → Int) (s3 : Bool) (a3 : Option Addr) (n3 c3 : Nat) (o3 : Nat → Int) (s4 : Bool) (a4 : Option Addr) (n4 c4 : Nat) (o4 : Nat → Int) (w : World)
    (h1 : Rd w a1 n1 o1) (hn1 : n1 ≤ 900000) (hc1 : n1 ≤ c1) (h2 : Rd w a2 n2 o2) (hn2 : n2 ≤ 900000) (hc2 : n2 ≤ c2) (h3 : Rd w a3 n3 o3) (hn3 : n3 ≤ 900000) (hc3 : n3 ≤ c3) (h4 : Rd w a4 n4 o4) (hn4 : n4 ≤ 900000) (hc4 : n4 ≤ c4) (hk1 : okF s1 n1 o1 s2 n2 o2) (hk : ¬ okF s3 n3 o3 s4 n4 o4) :
    Calls Tryz.prog 21 #[fracV s1 a1 n1 c1 s2 a2 n2 c2, fracV s3 a3 n3 c3 s4 a4 n4 c4] w fun e w' => e = .returned (.tuple #[fracV false none 0 0 false none 0 0, .int .i64 1]) ∧ Below w.heap.size w w' := by
  have HB1 := Lib.hid (((Bxs.new w 27 [.bool s1, .slice a1 n1 c1, .bool s2, .slice a2 n2 c2]).alloc (.cells #[.bool s3, .slice a3 n3 c3, .bool s4, .slice a4 n4 c4] 27)).alloc (.cells #[.bool false, .slice none 0 0, .bool false, .slice none 0 0] 27))
  have HB2 := Lib.hid ((Bxs.new (w.alloc (.cells #[.bool s1, .slice a1 n1 c1, .bool s2, .slice a2 n2 c2] 27)) 27 [.bool s3, .slice a3 n3 c3, .bool s4, .slice a4 n4 c4]).alloc (.cells #[.bool false, .slice none 0 0, .bool false, .slice none 0 0] 27))
  have HB3 := Lib.hid (Bxs.new ((w.alloc (.cells #[.bool s1, .slice a1 n1 c1, .bool s2, .slice a2 n2 c2] 27)).alloc (.cells #[.bool s3, .slice a3 n3 c3, .bool s4, .slice a4 n4 c4] 27)) 27 [.bool false, .slice none 0 0, .bool false, .slice none 0 0])
  obtain ⟨W, hW⟩ : ∃ W, W = ((w.alloc (.cells #[.bool s1, .slice a1 n1 c1, .bool s2, .slice a2 n2 c2] 27)).alloc (.cells #[.bool s3, .slice a3 n3 c3, .bool s4, .slice a4 n4 c4] 27)).alloc (.cells #[.bool false, .slice none 0 0, .bool false, .slice none 0 0] 27) := ⟨_, rfl⟩
  have KG := Lib.hid (show Below w.heap.size w W by rw [hW]; exact (((Below.refl _ _).alloc (Nat.le_refl _) _).alloc (by go_size) _).alloc (by go_size) _)
  have hWs : w.heap.size + 3 = W.heap.size := by rw [hW]; simp
  have HB1 := Lib.hid (show Bxs W w.heap.size 27 [.bool s1, .slice a1 n1 c1, .bool s2, .slice a2 n2 c2] by rw [hW]; exact HB1.out)
  have HB2 := Lib.hid (show Bxs W (w.heap.size + 1) 27 [.bool s3, .slice a3 n3 c3, .bool s4, .slice a4 n4 c4] by have h := HB2.out; simp only [World.size_alloc] at h; rw [hW]; exact h)
  have HB3 := Lib.hid (show Bxs W (w.heap.size + 1 + 1) 27 [.bool false, .slice none 0 0, .bool false, .slice none 0 0] by have h := HB3.out; simp only [World.size_alloc] at h; rw [hW]; exact h)
  have HW := Lib.hid hW
  have HWS := Lib.hid hWs
  have CK1 := Lib.hid (rfcheck_any s1 a1 n1 c1 o1 s2 a2 n2 c2 o2 W (h1.below KG.out) (by omega) hc1 (h2.below KG.out) (by omega) hc2)
  have CK2 := Lib.hid (fun (w' : World) (hb : Below W.heap.size W w') => rfcheck_any s3 a3 n3 c3 o3 s4 a4 n4 c4 o4 w' (h3.below (KG.out.trans (hb.mono KG.out.size))) (by omega) hc3 (h4.below (KG.out.trans (hb.mono KG.out.size))) (by omega) hc4)
  rw [decide_eq_true hk1] at CK1
  rw [decide_eq_false hk] at CK2
  clear hk hk1 h1 h2 h3 h4 hW hWs
  go_enter Tryz.func21, Tryz.ntmps21
  go_upto_region 1 with (fail)
  rw [show ((w.alloc (.cells #[.bool s1, .slice a1 n1 c1, .bool s2, .slice a2 n2 c2] 27)).alloc (.cells #[.bool s3, .slice a3 n3 c3, .bool s4, .slice a4 n4 c4] 27)).alloc (.cells #[.bool false, .slice none 0 0, .bool false, .slice none 0 0] 27) = W from HW.out.symm]
  clear HW
  obtain ⟨x0, x1, x2, x3, x4, x5⟩ := frac_box HB1.out
  go_wp2_with fail
  with_reducible refine CK1.out.mono ?_
  rintro e w1 ⟨rfl, hb1⟩
  clear CK1 x0 x1 x2 x3 x4 x5
  obtain ⟨y0, y1, y2, y3, y4, y5⟩ := frac_box (HB2.out.below hb1 HB2.out.lt)
  go_wp2_with fail
  with_reducible refine (CK2.out w1 hb1).mono ?_
  rintro e w2 ⟨rfl, hb2⟩
  have GB := Lib.hid (hb1.trans (hb2.mono hb1.size))
  clear hb1 hb2 CK2 y0 y1 y2 y3 y4 y5
  have M3 := Lib.hid (HB3.out.below GB.out HB3.out.lt)
  have hG := KG.out.trans (GB.out.mono KG.out.size)
  have hlt := HWS.out
  obtain ⟨z0, z1, z2, z3, zf, zl⟩ := frac_box M3.out
  go_wp2_with fail
  exact bodyPost_ret (results_ct rfl _ _ _ _ _ _ _ rfl ((((M3.out.put 0 _).put 1 _).put 2 _).put 3 _) Tryz.underlying27 rfl (by kernel_rfl)) rfl ⟨rfl, (((hG.setCell (by dsimp only; omega) _).setCell (by dsimp only; omega) _).setCell (by dsimp only; omega) _).setCell (by dsimp only; omega) _⟩
open Classical in
set_option maxRecDepth 100000 in
set_option maxHeartbeats 2000000 in
theorem rfdiv_z (s1 : Bool) (a1 : Option Addr) (n1 c1 : Nat) (o1 : Nat → Int) (s2 : Bool) (a2 : Option Addr) (n2 c2 : Nat) (o2 : Nat → Int) (s3 : Bool) (a3 : Option Addr) (n3 c3 : Nat) (o3 : Nat → Int) (s4 : Bool) (a4 : Option Addr) (n4 c4 : Nat) (o4 : Nat → Int) (w : World) (x y : Rat) (hx : x = valF s1 n1 o1 s2 n2 o2) (hy : y = valF s3 n3 o3 s4 n4 o4) (h1 : Rd w a1 n1 o1) (hn1 : n1 ≤ 900000) (hc1 : n1 ≤ c1) (h2 : Rd w a2 n2 o2) (hn2 : n2 ≤ 900000) (hc2 : n2 ≤ c2) (h3 : Rd w a3 n3 o3) (hn3 : n3 ≤ 900000) (hc3 : n3 ≤ c3) (h4 : Rd w a4 n4 o4) (hn4 : n4 ≤ 900000) (hc4 : n4 ≤ c4) (hk1 : okF s1 n1 o1 s2 n2 o2) (hk2 : okF s3 n3 o3 s4 n4 o4) (hz : y = 0) :
    Calls Tryz.prog 21 #[fracV s1 a1 n1 c1 s2 a2 n2 c2, fracV s3 a3 n3 c3 s4 a4 n4 c4] w fun e w' => e = .returned (.tuple #[fracV false none 0 0 false none 0 0, .int .i64 6]) ∧ Below w.heap.size w w' := by
  have hfar : ∀ {a : Option Addr} {n : Nat} {o : Nat → Int}, Rd w a n o → 0 < n → ∀ p, a = some p → p.block < w.heap.size := fun h h0 p hp => by
    obtain ⟨b, off, e, hc⟩ := h.cells h0
    rw [e] at hp; cases hp
    exact block_lt_of_cell (hc 0 h0)
  have l1 := valF_len (s1 := s1) (s2 := s2) h1.rng h2.rng
  rw [← hx] at l1
  have l2 := valF_len (s1 := s3) (s2 := s4) h3.rng h4.rng
  rw [← hy] at l2
  obtain ⟨p, hp⟩ : ∃ p, p = x.num := ⟨_, rfl⟩
  obtain ⟨q, hq⟩ : ∃ q : Int, q = (x.den : Int) := ⟨_, rfl⟩
  rw [← hp, ← hq] at l1
  obtain ⟨r, hr⟩ : ∃ r, r = y.num := ⟨_, rfl⟩
  obtain ⟨t, ht⟩ : ∃ t : Int, t = (y.den : Int) := ⟨_, rfl⟩
  rw [← hr, ← ht] at l2
  have HL := Lib.hid (show (lenB p.natAbs ≤ 900001 ∧ lenB q.natAbs ≤ 900001) ∧ lenB r.natAbs ≤ 900001 ∧ lenB t.natAbs ≤ 900001 by omega)
  have HP := Lib.hid (And.intro (And.intro hx (And.intro hp hq)) (And.intro hy (And.intro hr ht)))
  have HF := Lib.hid (And.intro (And.intro (hfar h1) (hfar h2)) (And.intro (hfar h3) (hfar h4)))
  have HV := Lib.hid (show valN s1 n1 o1 = p ∧ valN s2 n2 o2 = q ∧ valN s3 n3 o3 = r ∧ valN s4 n4 o4 = t by
    rw [hp, hq, hr, ht, hx, hy]; exact ⟨(valF_ok hk1).1.symm, (valF_ok hk1).2.symm, (valF_ok hk2).1.symm, (valF_ok hk2).2.symm⟩)
  have HK := Lib.hid (And.intro hk1 hk2)
  clear hk1 hk2
  obtain ⟨cs, hcs⟩ : ∃ cs, cs = cmpZ r 0 := ⟨_, rfl⟩
  have HCS := Lib.hid hcs
  have hc0 : cs = 0 := by rw [hcs, hr, hz]; exact (sign_zero _).2 rfl
  clear hcs hz
  subst hc0
  have HB1 := Lib.hid (((Bxs.new (w) 27 [.bool s1, .slice a1 n1 c1, .bool s2, .slice a2 n2 c2]).alloc (.cells #[.bool s3, .slice a3 n3 c3, .bool s4, .slice a4 n4 c4] 27)).alloc (.cells #[.bool false, .slice none 0 0, .bool false, .slice none 0 0] 27))
  have HB2 := Lib.hid ((Bxs.new (w.alloc (.cells #[.bool s1, .slice a1 n1 c1, .bool s2, .slice a2 n2 c2] 27)) 27 [.bool s3, .slice a3 n3 c3, .bool s4, .slice a4 n4 c4]).alloc (.cells #[.bool false, .slice none 0 0, .bool false, .slice none 0 0] 27))
  have HB3 := Lib.hid (Bxs.new ((w.alloc (.cells #[.bool s1, .slice a1 n1 c1, .bool s2, .slice a2 n2 c2] 27)).alloc (.cells #[.bool s3, .slice a3 n3 c3, .bool s4, .slice a4 n4 c4] 27)) 27 [.bool false, .slice none 0 0, .bool false, .slice none 0 0])
  obtain ⟨W, hW⟩ : ∃ W, W = ((w.alloc (.cells #[.bool s1, .slice a1 n1 c1, .bool s2, .slice a2 n2 c2] 27)).alloc (.cells #[.bool s3, .slice a3 n3 c3, .bool s4, .slice a4 n4 c4] 27)).alloc (.cells #[.bool false, .slice none 0 0, .bool false, .slice none 0 0] 27) := ⟨_, rfl⟩
  have KG := Lib.hid (show Below w.heap.size w W by rw [hW]; exact (((Below.refl _ _).alloc (Nat.le_refl _) _).alloc (by go_size) _).alloc (by go_size) _)
  have HWS := Lib.hid (show w.heap.size + 3 ≤ W.heap.size by rw [hW]; simp only [World.size_alloc]; omega)
  have HB1 := Lib.hid (show Bxs W (w.heap.size) 27 [.bool s1, .slice a1 n1 c1, .bool s2, .slice a2 n2 c2] by have h := HB1.out; rw [hW]; exact h)
  have HB2 := Lib.hid (show Bxs W (w.heap.size + 1) 27 [.bool s3, .slice a3 n3 c3, .bool s4, .slice a4 n4 c4] by have h := HB2.out; simp only [World.size_alloc] at h; rw [hW]; exact h)
  have HB3 := Lib.hid (show Bxs W (w.heap.size + 1 + 1) 27 [.bool false, .slice none 0 0, .bool false, .slice none 0 0] by have h := HB3.out; simp only [World.size_alloc] at h; rw [hW]; exact h)
  have HW := Lib.hid hW
  clear hW
  have HR1 := Lib.hid (show RdS W w.heap.size (w.heap.size + 3) a1 n1 o1 from ⟨h1.below KG.out, fun h0 p hp => Or.inl (hfar h1 h0 p hp)⟩)
  have HR2 := Lib.hid (show RdS W w.heap.size (w.heap.size + 3) a2 n2 o2 from ⟨h2.below KG.out, fun h0 p hp => Or.inl (hfar h2 h0 p hp)⟩)
  have HR3 := Lib.hid (show RdS W w.heap.size (w.heap.size + 3) a3 n3 o3 from ⟨h3.below KG.out, fun h0 p hp => Or.inl (hfar h3 h0 p hp)⟩)
  have HR4 := Lib.hid (show RdS W w.heap.size (w.heap.size + 3) a4 n4 o4 from ⟨h4.below KG.out, fun h0 p hp => Or.inl (hfar h4 h0 p hp)⟩)
  clear hx hp hq l1 h1 h2 hfar hy hr ht l2 h3 h4
  go_enter Tryz.func21, Tryz.ntmps21
  go_upto_region 1 with (fail)
  rw [show ((w.alloc (.cells #[.bool s1, .slice a1 n1 c1, .bool s2, .slice a2 n2 c2] 27)).alloc (.cells #[.bool s3, .slice a3 n3 c3, .bool s4, .slice a4 n4 c4] 27)).alloc (.cells #[.bool false, .slice none 0 0, .bool false, .slice none 0 0] 27) = W from HW.out.symm]
  clear HW
  have CK := Lib.hid (fun (w' : World) (hb : Below W.heap.size W w') => rfcheck_any s1 a1 n1 c1 o1 s2 a2 n2 c2 o2 w' (HR1.out.rd.below hb) (by omega) hc1 (HR2.out.rd.below hb) (by omega) hc2)
  rw [decide_eq_true HK.out.1] at CK
  have b1c0 := HB1.out.cell (i := 0) rfl
  have b1c1 := HB1.out.cell (i := 1) rfl
  have b1c2 := HB1.out.cell (i := 2) rfl
  have b1c3 := HB1.out.cell (i := 3) rfl
  have b1f := HB1.out.fz
  have b1l := HB1.out.lt
  go_wp2_with fail
  with_reducible refine (CK.out _ (Below.refl _ _)).mono ?_
  rintro e w1 ⟨rfl, hb⟩
  clear b1c0 b1c1 b1c2 b1c3 b1f b1l
  have HB1 := Lib.hid (HB1.out.below hb HB1.out.lt)
  have HB2 := Lib.hid (HB2.out.below hb HB2.out.lt)
  have HB3 := Lib.hid (HB3.out.below hb HB3.out.lt)
  have HR1 := Lib.hid (HR1.out.below hb)
  have HR2 := Lib.hid (HR2.out.below hb)
  have HR3 := Lib.hid (HR3.out.below hb)
  have HR4 := Lib.hid (HR4.out.below hb)
  have HWS := Lib.hid (Nat.le_trans HWS.out hb.size)
  have KG := Lib.hid (KG.out.trans (hb.mono KG.out.size))
  clear hb
  clear CK
  have CK := Lib.hid (fun (w' : World) (hb : Below w1.heap.size w1 w') => rfcheck_any s3 a3 n3 c3 o3 s4 a4 n4 c4 o4 w' (HR3.out.rd.below hb) (by omega) hc3 (HR4.out.rd.below hb) (by omega) hc4)
  rw [decide_eq_true HK.out.2] at CK
  have b2c0 := HB2.out.cell (i := 0) rfl
  have b2c1 := HB2.out.cell (i := 1) rfl
  have b2c2 := HB2.out.cell (i := 2) rfl
  have b2c3 := HB2.out.cell (i := 3) rfl
  have b2f := HB2.out.fz
  have b2l := HB2.out.lt
  go_wp2_with fail
  with_reducible refine (CK.out _ (Below.refl _ _)).mono ?_
  rintro e w2 ⟨rfl, hb⟩
  clear b2c0 b2c1 b2c2 b2c3 b2f b2l
  have HB1 := Lib.hid (HB1.out.below hb HB1.out.lt)
  have HB2 := Lib.hid (HB2.out.below hb HB2.out.lt)
  have HB3 := Lib.hid (HB3.out.below hb HB3.out.lt)
  have HR1 := Lib.hid (HR1.out.below hb)
  have HR2 := Lib.hid (HR2.out.below hb)
  have HR3 := Lib.hid (HR3.out.below hb)
  have HR4 := Lib.hid (HR4.out.below hb)
  have HWS := Lib.hid (Nat.le_trans HWS.out hb.size)
  have KG := Lib.hid (KG.out.trans (hb.mono KG.out.size))
  clear hb
  clear CK
  have SG := Lib.hid (fun (w' : World) (hb : Below w2.heap.size w2 w') => rsign_any s3 a3 n3 c3 o3 w' (HR3.out.rd.below hb) (by omega) hc3)
  rw [HV.out.2.2.1, ← HCS.out] at SG
  have b2c0 := HB2.out.cell (i := 0) rfl
  have b2c1 := HB2.out.cell (i := 1) rfl
  have b2c2 := HB2.out.cell (i := 2) rfl
  have b2c3 := HB2.out.cell (i := 3) rfl
  have b2f := HB2.out.fz
  have b2l := HB2.out.lt
  go_wp2_with fail
  with_reducible refine (SG.out _ (Below.refl _ _)).mono ?_
  rintro e w3 ⟨rfl, hb⟩
  clear b2c0 b2c1 b2c2 b2c3 b2f b2l
  have HB1 := Lib.hid (HB1.out.below hb HB1.out.lt)
  have HB2 := Lib.hid (HB2.out.below hb HB2.out.lt)
  have HB3 := Lib.hid (HB3.out.below hb HB3.out.lt)
  have HR1 := Lib.hid (HR1.out.below hb)
  have HR2 := Lib.hid (HR2.out.below hb)
  have HR3 := Lib.hid (HR3.out.below hb)
  have HR4 := Lib.hid (HR4.out.below hb)
  have HWS := Lib.hid (Nat.le_trans HWS.out hb.size)
  have KG := Lib.hid (KG.out.trans (hb.mono KG.out.size))
  clear hb
  clear SG
  have b3c0 := HB3.out.cell (i := 0) rfl
  have b3c1 := HB3.out.cell (i := 1) rfl
  have b3c2 := HB3.out.cell (i := 2) rfl
  have b3c3 := HB3.out.cell (i := 3) rfl
  have b3f := HB3.out.fz
  have b3l := HB3.out.lt
  go_wp2_with fail
  have hws := HWS.out
  exact bodyPost_ret (results_ct rfl _ _ _ _ _ _ _ rfl ((((HB3.out.put 0 _).put 1 _).put 2 _).put 3 _) Tryz.underlying27 rfl (by kernel_rfl)) rfl ⟨rfl, (((KG.out.setCell (by dsimp only; omega) _).setCell (by dsimp only; omega) _).setCell (by dsimp only; omega) _).setCell (by dsimp only; omega) _⟩

open Classical in
set_option maxRecDepth 100000 in
set_option maxHeartbeats 4000000 in
theorem rfdiv_ok (s1 : Bool) (a1 : Option Addr) (n1 c1 : Nat) (o1 : Nat → Int) (s2 : Bool) (a2 : Option Addr) (n2 c2 : Nat) (o2 : Nat → Int) (s3 : Bool) (a3 : Option Addr) (n3 c3 : Nat) (o3 : Nat → Int) (s4 : Bool) (a4 : Option Addr) (n4 c4 : Nat) (o4 : Nat → Int) (w : World) (x y : Rat) (hx : x = valF s1 n1 o1 s2 n2 o2) (hy : y = valF s3 n3 o3 s4 n4 o4) (h1 : Rd w a1 n1 o1) (hn1 : n1 ≤ 900000) (hc1 : n1 ≤ c1) (h2 : Rd w a2 n2 o2) (hn2 : n2 ≤ 900000) (hc2 : n2 ≤ c2) (h3 : Rd w a3 n3 o3) (hn3 : n3 ≤ 900000) (hc3 : n3 ≤ c3) (h4 : Rd w a4 n4 o4) (hn4 : n4 ≤ 900000) (hc4 : n4 ≤ c4) (hk1 : okF s1 n1 o1 s2 n2 o2) (hk2 : okF s3 n3 o3 s4 n4 o4) (hz : y ≠ 0) :
    Calls Tryz.prog 21 #[fracV s1 a1 n1 c1 s2 a2 n2 c2, fracV s3 a3 n3 c3 s4 a4 n4 c4] w (MakeF w 0 (x / y).num ((x / y).den : Int)) := by
  have hfar : ∀ {a : Option Addr} {n : Nat} {o : Nat → Int}, Rd w a n o → 0 < n → ∀ p, a = some p → p.block < w.heap.size := fun h h0 p hp => by
    obtain ⟨b, off, e, hc⟩ := h.cells h0
    rw [e] at hp; cases hp
    exact block_lt_of_cell (hc 0 h0)
  have l1 := valF_len (s1 := s1) (s2 := s2) h1.rng h2.rng
  rw [← hx] at l1
  have l2 := valF_len (s1 := s3) (s2 := s4) h3.rng h4.rng
  rw [← hy] at l2
  obtain ⟨p, hp⟩ : ∃ p, p = x.num := ⟨_, rfl⟩
  obtain ⟨q, hq⟩ : ∃ q : Int, q = (x.den : Int) := ⟨_, rfl⟩
  rw [← hp, ← hq] at l1
  obtain ⟨r, hr⟩ : ∃ r, r = y.num := ⟨_, rfl⟩
  obtain ⟨t, ht⟩ : ∃ t : Int, t = (y.den : Int) := ⟨_, rfl⟩
  rw [← hr, ← ht] at l2
  have HL := Lib.hid (show (lenB p.natAbs ≤ 900001 ∧ lenB q.natAbs ≤ 900001) ∧ lenB r.natAbs ≤ 900001 ∧ lenB t.natAbs ≤ 900001 by omega)
  have HP := Lib.hid (And.intro (And.intro hx (And.intro hp hq)) (And.intro hy (And.intro hr ht)))
  have HF := Lib.hid (And.intro (And.intro (hfar h1) (hfar h2)) (And.intro (hfar h3) (hfar h4)))
  have HV := Lib.hid (show valN s1 n1 o1 = p ∧ valN s2 n2 o2 = q ∧ valN s3 n3 o3 = r ∧ valN s4 n4 o4 = t by
    rw [hp, hq, hr, ht, hx, hy]; exact ⟨(valF_ok hk1).1.symm, (valF_ok hk1).2.symm, (valF_ok hk2).1.symm, (valF_ok hk2).2.symm⟩)
  have HK := Lib.hid (And.intro hk1 hk2)
  clear hk1 hk2
  obtain ⟨cs, hcs⟩ : ∃ cs, cs = cmpZ r 0 := ⟨_, rfl⟩
  have HCS := Lib.hid hcs
  have hl1 := lenB_mul_le p.natAbs t.natAbs
  have hl2 := lenB_mul_le r.natAbs q.natAbs
  have hl3 := lenB_mul_le q.natAbs t.natAbs
  have hl4 := lenB_mul_le p.natAbs r.natAbs
  rw [← Int.natAbs_mul] at hl1 hl2 hl3 hl4

  have hz1 : r ≠ 0 := fun h => hz (Rat.num_eq_zero.1 (by rw [← hr]; exact h))
  have hc0 : (cs == 0) = false := by rw [hcs]; simpa using fun h => hz1 ((sign_zero _).1 h)
  have hc0' : decide (cs = 0) = false := by simpa using hc0
  obtain ⟨T1, hT1⟩ : ∃ T1, T1 = p * t := ⟨_, rfl⟩
  obtain ⟨T2, hT2⟩ : ∃ T2, T2 = r * q := ⟨_, rfl⟩
  have HE := Lib.hid (And.intro hT1 hT2)
  rw [← hT1] at hl1
  rw [← hT2] at hl2
  have HM := Lib.hid (show lenB T1.natAbs ≤ 2000002 ∧ lenB T2.natAbs ≤ 2000002 by omega)
  obtain ⟨z, hzz⟩ : ∃ z, z = x / y := ⟨_, rfl⟩
  have HZ := Lib.hid (show Rat.divInt T1 T2 = z ∧ T2 ≠ 0 from ⟨by rw [hT1, hT2, hp, hq, hr, ht, hzz]; exact rat_div x y, by rw [hT2, hq]; exact fun h => (Int.mul_eq_zero.1 h).elim hz1 (Int.ne_of_gt (rat_pos x))⟩)
  rw [← hzz]
  obtain ⟨zp, hzp⟩ : ∃ zp, zp = z.num := ⟨_, rfl⟩
  obtain ⟨zq, hzq⟩ : ∃ zq : Int, zq = (z.den : Int) := ⟨_, rfl⟩
  have HZE := Lib.hid (And.intro hzp hzq)
  rw [← hzp, ← hzq]
  clear hT1 hT2 hz1 hz hzz hzp hzq hl1 hl2 hl3 hl4 hcs
  have HB1 := Lib.hid (((Bxs.new (w) 27 [.bool s1, .slice a1 n1 c1, .bool s2, .slice a2 n2 c2]).alloc (.cells #[.bool s3, .slice a3 n3 c3, .bool s4, .slice a4 n4 c4] 27)).alloc (.cells #[.bool false, .slice none 0 0, .bool false, .slice none 0 0] 27))
  have HB2 := Lib.hid ((Bxs.new (w.alloc (.cells #[.bool s1, .slice a1 n1 c1, .bool s2, .slice a2 n2 c2] 27)) 27 [.bool s3, .slice a3 n3 c3, .bool s4, .slice a4 n4 c4]).alloc (.cells #[.bool false, .slice none 0 0, .bool false, .slice none 0 0] 27))
  have HB3 := Lib.hid (Bxs.new ((w.alloc (.cells #[.bool s1, .slice a1 n1 c1, .bool s2, .slice a2 n2 c2] 27)).alloc (.cells #[.bool s3, .slice a3 n3 c3, .bool s4, .slice a4 n4 c4] 27)) 27 [.bool false, .slice none 0 0, .bool false, .slice none 0 0])
  obtain ⟨W, hW⟩ : ∃ W, W = ((w.alloc (.cells #[.bool s1, .slice a1 n1 c1, .bool s2, .slice a2 n2 c2] 27)).alloc (.cells #[.bool s3, .slice a3 n3 c3, .bool s4, .slice a4 n4 c4] 27)).alloc (.cells #[.bool false, .slice none 0 0, .bool false, .slice none 0 0] 27) := ⟨_, rfl⟩
  have KG := Lib.hid (show Below w.heap.size w W by rw [hW]; exact (((Below.refl _ _).alloc (Nat.le_refl _) _).alloc (by go_size) _).alloc (by go_size) _)
  have HWS := Lib.hid (show w.heap.size + 3 ≤ W.heap.size by rw [hW]; simp only [World.size_alloc]; omega)
  have HB1 := Lib.hid (show Bxs W (w.heap.size) 27 [.bool s1, .slice a1 n1 c1, .bool s2, .slice a2 n2 c2] by have h := HB1.out; rw [hW]; exact h)
  have HB2 := Lib.hid (show Bxs W (w.heap.size + 1) 27 [.bool s3, .slice a3 n3 c3, .bool s4, .slice a4 n4 c4] by have h := HB2.out; simp only [World.size_alloc] at h; rw [hW]; exact h)
  have HB3 := Lib.hid (show Bxs W (w.heap.size + 1 + 1) 27 [.bool false, .slice none 0 0, .bool false, .slice none 0 0] by have h := HB3.out; simp only [World.size_alloc] at h; rw [hW]; exact h)
  have HW := Lib.hid hW
  clear hW
  have HR1 := Lib.hid (show RdS W w.heap.size (w.heap.size + 3) a1 n1 o1 from ⟨h1.below KG.out, fun h0 p hp => Or.inl (hfar h1 h0 p hp)⟩)
  have HR2 := Lib.hid (show RdS W w.heap.size (w.heap.size + 3) a2 n2 o2 from ⟨h2.below KG.out, fun h0 p hp => Or.inl (hfar h2 h0 p hp)⟩)
  have HR3 := Lib.hid (show RdS W w.heap.size (w.heap.size + 3) a3 n3 o3 from ⟨h3.below KG.out, fun h0 p hp => Or.inl (hfar h3 h0 p hp)⟩)
  have HR4 := Lib.hid (show RdS W w.heap.size (w.heap.size + 3) a4 n4 o4 from ⟨h4.below KG.out, fun h0 p hp => Or.inl (hfar h4 h0 p hp)⟩)
  clear hx hp hq l1 h1 h2 hfar hy hr ht l2 h3 h4
  go_enter Tryz.func21, Tryz.ntmps21
  go_upto_region 1 with (fail)
  rw [show ((w.alloc (.cells #[.bool s1, .slice a1 n1 c1, .bool s2, .slice a2 n2 c2] 27)).alloc (.cells #[.bool s3, .slice a3 n3 c3, .bool s4, .slice a4 n4 c4] 27)).alloc (.cells #[.bool false, .slice none 0 0, .bool false, .slice none 0 0] 27) = W from HW.out.symm]
  clear HW
  have CK := Lib.hid (fun (w' : World) (hb : Below W.heap.size W w') => rfcheck_any s1 a1 n1 c1 o1 s2 a2 n2 c2 o2 w' (HR1.out.rd.below hb) (by omega) hc1 (HR2.out.rd.below hb) (by omega) hc2)
  rw [decide_eq_true HK.out.1] at CK
  have b1c0 := HB1.out.cell (i := 0) rfl
  have b1c1 := HB1.out.cell (i := 1) rfl
  have b1c2 := HB1.out.cell (i := 2) rfl
  have b1c3 := HB1.out.cell (i := 3) rfl
  have b1f := HB1.out.fz
  have b1l := HB1.out.lt
  go_wp2_with fail
  with_reducible refine (CK.out _ (Below.refl _ _)).mono ?_
  rintro e w1 ⟨rfl, hb⟩
  clear b1c0 b1c1 b1c2 b1c3 b1f b1l
  have HB1 := Lib.hid (HB1.out.below hb HB1.out.lt)
  have HB2 := Lib.hid (HB2.out.below hb HB2.out.lt)
  have HB3 := Lib.hid (HB3.out.below hb HB3.out.lt)
  have HR1 := Lib.hid (HR1.out.below hb)
  have HR2 := Lib.hid (HR2.out.below hb)
  have HR3 := Lib.hid (HR3.out.below hb)
  have HR4 := Lib.hid (HR4.out.below hb)
  have HWS := Lib.hid (Nat.le_trans HWS.out hb.size)
  have KG := Lib.hid (KG.out.trans (hb.mono KG.out.size))
  clear hb
  clear CK
  have CK := Lib.hid (fun (w' : World) (hb : Below w1.heap.size w1 w') => rfcheck_any s3 a3 n3 c3 o3 s4 a4 n4 c4 o4 w' (HR3.out.rd.below hb) (by omega) hc3 (HR4.out.rd.below hb) (by omega) hc4)
  rw [decide_eq_true HK.out.2] at CK
  have b2c0 := HB2.out.cell (i := 0) rfl
  have b2c1 := HB2.out.cell (i := 1) rfl
  have b2c2 := HB2.out.cell (i := 2) rfl
  have b2c3 := HB2.out.cell (i := 3) rfl
  have b2f := HB2.out.fz
  have b2l := HB2.out.lt
  go_wp2_with fail
  with_reducible refine (CK.out _ (Below.refl _ _)).mono ?_
  rintro e w2 ⟨rfl, hb⟩
  clear b2c0 b2c1 b2c2 b2c3 b2f b2l
  have HB1 := Lib.hid (HB1.out.below hb HB1.out.lt)
  have HB2 := Lib.hid (HB2.out.below hb HB2.out.lt)
  have HB3 := Lib.hid (HB3.out.below hb HB3.out.lt)
  have HR1 := Lib.hid (HR1.out.below hb)
  have HR2 := Lib.hid (HR2.out.below hb)
  have HR3 := Lib.hid (HR3.out.below hb)
  have HR4 := Lib.hid (HR4.out.below hb)
  have HWS := Lib.hid (Nat.le_trans HWS.out hb.size)
  have KG := Lib.hid (KG.out.trans (hb.mono KG.out.size))
  clear hb
  clear CK
  have SG := Lib.hid (fun (w' : World) (hb : Below w2.heap.size w2 w') => rsign_any s3 a3 n3 c3 o3 w' (HR3.out.rd.below hb) (by omega) hc3)
  rw [HV.out.2.2.1, ← HCS.out] at SG
  have b2c0 := HB2.out.cell (i := 0) rfl
  have b2c1 := HB2.out.cell (i := 1) rfl
  have b2c2 := HB2.out.cell (i := 2) rfl
  have b2c3 := HB2.out.cell (i := 3) rfl
  have b2f := HB2.out.fz
  have b2l := HB2.out.lt
  go_wp2_with fail
  with_reducible refine (SG.out _ (Below.refl _ _)).mono ?_
  rintro e w3 ⟨rfl, hb⟩
  clear b2c0 b2c1 b2c2 b2c3 b2f b2l
  have HB1 := Lib.hid (HB1.out.below hb HB1.out.lt)
  have HB2 := Lib.hid (HB2.out.below hb HB2.out.lt)
  have HB3 := Lib.hid (HB3.out.below hb HB3.out.lt)
  have HR1 := Lib.hid (HR1.out.below hb)
  have HR2 := Lib.hid (HR2.out.below hb)
  have HR3 := Lib.hid (HR3.out.below hb)
  have HR4 := Lib.hid (HR4.out.below hb)
  have HWS := Lib.hid (Nat.le_trans HWS.out hb.size)
  have KG := Lib.hid (KG.out.trans (hb.mono KG.out.size))
  clear hb
  clear SG
  have MA := Lib.hid (fun (w' : World) (hb : Below w3.heap.size w3 w') => rmul_any s1 a1 n1 c1 o1 s4 a4 n4 c4 o4 w' (HR1.out.rd.below hb) (by omega) hc1 (HR4.out.rd.below hb) (by omega) hc4)
  rw [HV.out.1, HV.out.2.2.2, ← HE.out.1] at MA
  have MB := Lib.hid (fun (w' : World) (hb : Below w3.heap.size w3 w') => rmul_any s3 a3 n3 c3 o3 s2 a2 n2 c2 o2 w' (HR3.out.rd.below hb) (by omega) hc3 (HR2.out.rd.below hb) (by omega) hc2)
  rw [HV.out.2.2.1, HV.out.2.1, ← HE.out.2] at MB
  go_upto_region 5 with (fail)
  have HS := Lib.hid (fun (w' : World) (hb : Below w3.heap.size w3 w') => And.intro (frac_box (HB1.out.below hb HB1.out.lt)) ((frac_box (HB2.out.below hb HB2.out.lt))))
  refine wp_region_fresh 10 (spOf [(4, Sp.made (fun x : Option Addr × Nat => numV (decide (T1 < 0)) x.1 (lenB T1.natAbs) x.2) (fun x w' => Own 74 w' w3.heap.size x.1 (lenB T1.natAbs) x.2 (dgi T1.natAbs))), (9, Sp.made (fun x : Option Addr × Nat => numV (decide (T2 < 0)) x.1 (lenB T2.natAbs) x.2) (fun x w' => Own 74 w' w3.heap.size x.1 (lenB T2.natAbs) x.2 (dgi T2.natAbs)))]) (fun w' => Below w3.heap.size w3 w') (by kernel_rfl) (by kernel_rfl)
    (spOf_cons (Sp.made_keeps fun x w w' h hb => h.below hb) (spOf_cons (Sp.made_keeps fun x w w' h hb => h.below hb) (spOf_nil))) (fun _ _ h hb => h.trans (hb.mono h.size)) ((Below.refl _ _).drew) ?_
  simp only [List.take_succ_cons, List.take_zero, List.drop_succ_cons, List.drop_zero]
  (refine wpF_reads rfl rfl ?_ (fun w' hw' => ?_) ?_; rotate_left; · (have hb' := Has.world hw'; (skip); clear hw'; go_simp; try rfl))
  conv => arg 9; simp only [Act.put, List.setIfInBounds_toArray, List.set_cons_succ, List.set_cons_zero]
  (refine wpF_reads rfl rfl ?_ (fun w' hw' => ?_) ?_; rotate_left; · (have hb' := Has.world hw'; (obtain ⟨k0, k1, k2, k3, k4, k5⟩ := (HS.out _ hb').1); clear hw'; go_simp; try rfl))
  conv => arg 9; simp only [Act.put, List.setIfInBounds_toArray, List.set_cons_succ, List.set_cons_zero]
  (refine wpF_reads rfl rfl ?_ (fun w' hw' => ?_) ?_; rotate_left; · (have hb' := Has.world hw'; (skip); clear hw'; go_simp; try rfl))
  conv => arg 9; simp only [Act.put, List.setIfInBounds_toArray, List.set_cons_succ, List.set_cons_zero]
  (refine wpF_reads rfl rfl ?_ (fun w' hw' => ?_) ?_; rotate_left; · (have hb' := Has.world hw'; (obtain ⟨k0, k1, k2, k3, k4, k5⟩ := (HS.out _ hb').2); clear hw'; go_simp; try rfl))
  conv => arg 9; simp only [Act.put, List.setIfInBounds_toArray, List.set_cons_succ, List.set_cons_zero]
  (refine wpF_spec rfl rfl (fun w' hw' => ?_) ?_; · (have hb' := Has.world hw'; go_simp; ((refine (MA.out w' hb').mono ?_; rintro e w'' ⟨za, zb, rfl, ho, hb⟩; exact ⟨_, rfl, ⟨⟨za, zb, rfl⟩, ⟨za, zb, rfl, ho.mono hb'.size⟩⟩, hb⟩))))
  rintro _ ⟨y4, rfl⟩
  conv => arg 9; simp only [Act.put, List.setIfInBounds_toArray, List.set_cons_succ, List.set_cons_zero]
  (refine wpF_reads rfl rfl ?_ (fun w' hw' => ?_) ?_; rotate_left; · (have hb' := Has.world hw'; (skip); clear hw'; go_simp; try rfl))
  conv => arg 9; simp only [Act.put, List.setIfInBounds_toArray, List.set_cons_succ, List.set_cons_zero]
  (refine wpF_reads rfl rfl ?_ (fun w' hw' => ?_) ?_; rotate_left; · (have hb' := Has.world hw'; (obtain ⟨k0, k1, k2, k3, k4, k5⟩ := (HS.out _ hb').2); clear hw'; go_simp; try rfl))
  conv => arg 9; simp only [Act.put, List.setIfInBounds_toArray, List.set_cons_succ, List.set_cons_zero]
  (refine wpF_reads rfl rfl ?_ (fun w' hw' => ?_) ?_; rotate_left; · (have hb' := Has.world hw'; (skip); clear hw'; go_simp; try rfl))
  conv => arg 9; simp only [Act.put, List.setIfInBounds_toArray, List.set_cons_succ, List.set_cons_zero]
  (refine wpF_reads rfl rfl ?_ (fun w' hw' => ?_) ?_; rotate_left; · (have hb' := Has.world hw'; (obtain ⟨k0, k1, k2, k3, k4, k5⟩ := (HS.out _ hb').1); clear hw'; go_simp; try rfl))
  conv => arg 9; simp only [Act.put, List.setIfInBounds_toArray, List.set_cons_succ, List.set_cons_zero]
  (refine wpF_spec rfl rfl (fun w' hw' => ?_) ?_; · (have hb' := Has.world hw'; go_simp; ((refine (MB.out w' hb').mono ?_; rintro e w'' ⟨za, zb, rfl, ho, hb⟩; exact ⟨_, rfl, ⟨⟨za, zb, rfl⟩, ⟨za, zb, rfl, ho.mono hb'.size⟩⟩, hb⟩))))
  rintro _ ⟨y9, rfl⟩
  conv => arg 9; simp only [Act.put, List.setIfInBounds_toArray, List.set_cons_succ, List.set_cons_zero]
  refine wpF_nil (fun w4 hb hF => ?_)
  have HO4 := Lib.hid (Own.mono (own_numc (T := 74) (x := y4) (b := w3.heap.size) (s := decide (T1 < 0)) (L := lenB T1.natAbs) (o := dgi T1.natAbs) (hF 4)) HWS.out)
  have HO9 := Lib.hid (Own.mono (own_numc (T := 74) (x := y9) (b := w3.heap.size) (s := decide (T2 < 0)) (L := lenB T2.natAbs) (o := dgi T2.natAbs) (hF 9)) HWS.out)
  clear hF HS
  have HB1 := Lib.hid (HB1.out.below hb HB1.out.lt)
  have HB2 := Lib.hid (HB2.out.below hb HB2.out.lt)
  have HB3 := Lib.hid (HB3.out.below hb HB3.out.lt)
  have HR1 := Lib.hid (HR1.out.below hb)
  have HR2 := Lib.hid (HR2.out.below hb)
  have HR3 := Lib.hid (HR3.out.below hb)
  have HR4 := Lib.hid (HR4.out.below hb)
  have HWS := Lib.hid (Nat.le_trans HWS.out hb.size)
  have KG := Lib.hid (KG.out.trans (hb.mono KG.out.size))
  clear hb
  clear MA MB
  clear HR1 HR2 HR3 HR4
  have LO := Lib.hid (fun (w' : World) (hb : Below w4.heap.size w4 w') => rlowest_any T1 T2 y4.1 y9.1 y4.2 y9.2 w' (HO4.out.rd.below hb) (by have := HM.out; omega) HO4.out.le (HO9.out.rd.below hb) (by have := HM.out; omega) HO9.out.le HZ.out.2)
  rw [HZ.out.1, ← HZE.out.1, ← HZE.out.2] at LO
  have b3c0 := HB3.out.cell (i := 0) rfl
  have b3c1 := HB3.out.cell (i := 1) rfl
  have b3c2 := HB3.out.cell (i := 2) rfl
  have b3c3 := HB3.out.cell (i := 3) rfl
  have b3f := HB3.out.fz
  have b3l := HB3.out.lt
  go_wp2_with fail
  with_reducible refine (LO.out _ (Below.refl _ _)).mono ?_
  rintro e w5 ⟨r1, e1, r2, e2, rfl, ho1, ho2, hb⟩
  have HQ1 := Lib.hid (ho1.mono HWS.out)
  have HQ2 := Lib.hid (ho2.mono HWS.out)
  clear ho1 ho2
  clear b3c0 b3c1 b3c2 b3c3 b3f b3l
  have HB1 := Lib.hid (HB1.out.below hb HB1.out.lt)
  have HB2 := Lib.hid (HB2.out.below hb HB2.out.lt)
  have HB3 := Lib.hid (HB3.out.below hb HB3.out.lt)
  have HO4 := Lib.hid (HO4.out.below hb)
  have HO9 := Lib.hid (HO9.out.below hb)
  have HWS := Lib.hid (Nat.le_trans HWS.out hb.size)
  have KG := Lib.hid (KG.out.trans (hb.mono KG.out.size))
  clear hb
  clear LO
  have b3c0 := HB3.out.cell (i := 0) rfl
  have b3c1 := HB3.out.cell (i := 1) rfl
  have b3c2 := HB3.out.cell (i := 2) rfl
  have b3c3 := HB3.out.cell (i := 3) rfl
  have b3f := HB3.out.fz
  have b3l := HB3.out.lt
  go_wp2_with fail
  have hws := HWS.out
  refine bodyPost_ret (results_ct rfl _ _ _ _ _ _ _ rfl (((((HB3.out).put 0 _).put 1 _).put 2 _).put 3 _) Tryz.underlying27 rfl (by kernel_rfl)) rfl ?_
  refine ⟨r1, e1, r2, e2, rfl, ?_, ?_, ?_⟩
  · exact (((((HQ1.out).other (by dsimp only; omega) _).other (by dsimp only; omega) _).other (by dsimp only; omega) _).other (by dsimp only; omega) _).mono (by omega)
  · exact (((((HQ2.out).other (by dsimp only; omega) _).other (by dsimp only; omega) _).other (by dsimp only; omega) _).other (by dsimp only; omega) _).mono (by omega)
  · exact ((((KG.out).setCell (by dsimp only; omega) _).setCell (by dsimp only; omega) _).setCell (by dsimp only; omega) _).setCell (by dsimp only; omega) _

theorem fdiv_all (s1 : Bool) (n1 : Nat) (o1 : Nat → Int) (s2 : Bool) (n2 : Nat) (o2 : Nat → Int) (s3 : Bool) (n3 : Nat) (o3 : Nat → Int) (s4 : Bool) (n4 : Nat) (o4 : Nat → Int) (hn1 : n1 ≤ 900000) (g1 : ∀ i, i < n1 → 0 ≤ o1 i ∧ o1 i ≤ 4294967295) (hn2 : n2 ≤ 900000) (g2 : ∀ i, i < n2 → 0 ≤ o2 i ∧ o2 i ≤ 4294967295) (hn3 : n3 ≤ 900000) (g3 : ∀ i, i < n3 → 0 ≤ o3 i ∧ o3 i ≤ 4294967295) (hn4 : n4 ≤ 900000) (g4 : ∀ i, i < n4 → 0 ≤ o4 i ∧ o4 i ≤ 4294967295) :
    ∃ c p q : Int, (lenB p.natAbs ≤ 2 * (n1 + n2 + n3 + n4 + 1) ∧ lenB q.natAbs ≤ 2 * (n1 + n2 + n3 + n4 + 1)) ∧
      (∀ (a1 a2 a3 a4 : Option Addr) (c1 c2 c3 c4 : Nat) (w : World), Rd w a1 n1 o1 → n1 ≤ c1 → Rd w a2 n2 o2 → n2 ≤ c2 → Rd w a3 n3 o3 → n3 ≤ c3 → Rd w a4 n4 o4 → n4 ≤ c4 → Calls Tryz.prog 20 #[fracV s1 a1 n1 c1 s2 a2 n2 c2, fracV s3 a3 n3 c3 s4 a4 n4 c4] w (MakeP w c p q)) ∧
      (∀ (a1 a2 a3 a4 : Option Addr) (c1 c2 c3 c4 : Nat) (w : World), Rd w a1 n1 o1 → n1 ≤ c1 → Rd w a2 n2 o2 → n2 ≤ c2 → Rd w a3 n3 o3 → n3 ≤ c3 → Rd w a4 n4 o4 → n4 ≤ c4 → Calls Tryz.prog 21 #[fracV s1 a1 n1 c1 s2 a2 n2 c2, fracV s3 a3 n3 c3 s4 a4 n4 c4] w (MakeF w c p q)) := by
  have hl0 : lenB (Int.natAbs 0) = 0 := by rw [show Int.natAbs 0 = 0 from rfl, lenB_zero]
  by_cases k1 : okF s1 n1 o1 s2 n2 o2
  · by_cases k2 : okF s3 n3 o3 s4 n4 o4
    · obtain ⟨x, hx⟩ : ∃ x, x = valF s1 n1 o1 s2 n2 o2 := ⟨_, rfl⟩
      obtain ⟨y, hy⟩ : ∃ y, y = valF s3 n3 o3 s4 n4 o4 := ⟨_, rfl⟩
      have l1 := valF_len (s1 := s1) (s2 := s2) g1 g2
      have l2 := valF_len (s1 := s3) (s2 := s4) g3 g4
      rw [← hx] at l1
      rw [← hy] at l2
      by_cases hz : y = 0
      · refine ⟨6, 0, 0, by omega, fun a1 a2 a3 a4 c1 c2 c3 c4 w h1 hc1 h2 hc2 h3 hc3 h4 hc4 => ?_, fun a1 a2 a3 a4 c1 c2 c3 c4 w h1 hc1 h2 hc2 h3 hc3 h4 hc4 => ?_⟩
        · have h := fdiv_ok s1 a1 n1 c1 o1 s2 a2 n2 c2 o2 s3 a3 n3 c3 o3 s4 a4 n4 c4 o4 w h1 hn1 hc1 h2 hn2 hc2 h3 hn3 hc3 h4 hn4 hc4 k1 k2 x y hx hy
          rw [if_pos hz, if_pos hz, hz, show (x / 0 : Rat).num = 0 by rw [← rat_div x 0, show (0 : Rat).num * (x.den : Int) = 0 from Int.zero_mul _, Rat.divInt_zero]; rfl] at h
          exact h
        · exact (rfdiv_z s1 a1 n1 c1 o1 s2 a2 n2 c2 o2 s3 a3 n3 c3 o3 s4 a4 n4 c4 o4 w x y hx hy h1 hn1 hc1 h2 hn2 hc2 h3 hn3 hc3 h4 hn4 hc4 k1 k2 hz).mono fun e w' h => (makeP_err h).2
      · refine ⟨0, (x / y).num, ((x / y).den : Int), ?_, fun a1 a2 a3 a4 c1 c2 c3 c4 w h1 hc1 h2 hc2 h3 hc3 h4 hc4 => ?_, fun a1 a2 a3 a4 c1 c2 c3 c4 w h1 hc1 h2 hc2 h3 hc3 h4 hc4 => ?_⟩
        · have h := div_len (x := x) (y := y) (k := n1 + n2 + n3 + n4 + 1) hz (by omega) (by omega) (by omega) (by omega)
          exact h
        · have h := fdiv_ok s1 a1 n1 c1 o1 s2 a2 n2 c2 o2 s3 a3 n3 c3 o3 s4 a4 n4 c4 o4 w h1 hn1 hc1 h2 hn2 hc2 h3 hn3 hc3 h4 hn4 hc4 k1 k2 x y hx hy
          rw [if_neg hz, if_neg hz] at h
          exact h
        · exact rfdiv_ok s1 a1 n1 c1 o1 s2 a2 n2 c2 o2 s3 a3 n3 c3 o3 s4 a4 n4 c4 o4 w x y hx hy h1 hn1 hc1 h2 hn2 hc2 h3 hn3 hc3 h4 hn4 hc4 k1 k2 hz
    · exact ⟨1, 0, 0, by omega, fun a1 a2 a3 a4 c1 c2 c3 c4 w h1 hc1 h2 hc2 h3 hc3 h4 hc4 => (fdiv_2 s1 a1 n1 c1 o1 s2 a2 n2 c2 o2 s3 a3 n3 c3 o3 s4 a4 n4 c4 o4 w h1 hn1 hc1 h2 hn2 hc2 h3 hn3 hc3 h4 hn4 hc4 k1 k2).mono fun e w' h => (makeP_err h).1, fun a1 a2 a3 a4 c1 c2 c3 c4 w h1 hc1 h2 hc2 h3 hc3 h4 hc4 => (rfdiv_2 s1 a1 n1 c1 o1 s2 a2 n2 c2 o2 s3 a3 n3 c3 o3 s4 a4 n4 c4 o4 w h1 hn1 hc1 h2 hn2 hc2 h3 hn3 hc3 h4 hn4 hc4 k1 k2).mono fun e w' h => (makeP_err h).2⟩
  · exact ⟨1, 0, 0, by omega, fun a1 a2 a3 a4 c1 c2 c3 c4 w h1 hc1 h2 hc2 h3 hc3 h4 hc4 => (fdiv_1 s1 a1 n1 c1 o1 s2 a2 n2 c2 o2 s3 a3 n3 c3 o3 s4 a4 n4 c4 o4 w h1 hn1 hc1 h2 hn2 hc2 h3 hn3 hc3 h4 hn4 hc4 k1).mono fun e w' h => (makeP_err h).1, fun a1 a2 a3 a4 c1 c2 c3 c4 w h1 hc1 h2 hc2 h3 hc3 h4 hc4 => (rfdiv_1 s1 a1 n1 c1 o1 s2 a2 n2 c2 o2 s3 a3 n3 c3 o3 s4 a4 n4 c4 o4 w h1 hn1 hc1 h2 hn2 hc2 h3 hn3 hc3 h4 hn4 hc4 k1).mono fun e w' h => (makeP_err h).2⟩
end Go.Proofs.YtaagegcidbgjmaaGreatDoor.Limb
namespace Go.Proofs.YtaagegcidbgjmaaGreatDoor.Limb
open Go.RowKit Go.Sort Go.Fresh

set_option maxRecDepth 100000 in
set_option maxHeartbeats 2000000 in
theorem sameFrac_any (s1 : Bool) (a1 b1 : Option Addr) (n1 c1 d1 : Nat) (o1 : Nat → Int) (s2 : Bool) (a2 b2 : Option Addr) (n2 c2 d2 : Nat) (o2 : Nat → Int) (w : World) (h1 : Rd w a1 n1 o1) (g1 : Rd w b1 n1 o1) (hn1 : n1 ≤ 1000000000) (h2 : Rd w a2 n2 o2) (g2 : Rd w b2 n2 o2) (hn2 : n2 ≤ 1000000000) :
    Calls Tryz.prog 9 #[fracV s1 a1 n1 c1 s2 a2 n2 c2, fracV s1 b1 n1 d1 s2 b2 n2 d2] w fun e w' => e = .returned (.bool true) ∧ Below w.heap.size w w' := by
  have HB1 := Lib.hid ((Bxs.new (w) 27 [.bool s1, .slice a1 n1 c1, .bool s2, .slice a2 n2 c2]).alloc (.cells #[.bool s1, .slice b1 n1 d1, .bool s2, .slice b2 n2 d2] 27))
  have HB2 := Lib.hid (Bxs.new (w.alloc (.cells #[.bool s1, .slice a1 n1 c1, .bool s2, .slice a2 n2 c2] 27)) 27 [.bool s1, .slice b1 n1 d1, .bool s2, .slice b2 n2 d2])
  obtain ⟨W, hW⟩ : ∃ W, W = (w.alloc (.cells #[.bool s1, .slice a1 n1 c1, .bool s2, .slice a2 n2 c2] 27)).alloc (.cells #[.bool s1, .slice b1 n1 d1, .bool s2, .slice b2 n2 d2] 27) := ⟨_, rfl⟩
  have KG := Lib.hid (show Below w.heap.size w W by rw [hW]; exact ((Below.refl _ _).alloc (Nat.le_refl _) _).alloc (by go_size) _)
  have HWS := Lib.hid (show w.heap.size + 2 ≤ W.heap.size by rw [hW]; simp only [World.size_alloc]; omega)
  have HB1 := Lib.hid (show Bxs W (w.heap.size) 27 [.bool s1, .slice a1 n1 c1, .bool s2, .slice a2 n2 c2] by have h := HB1.out; rw [hW]; exact h)
  have HB2 := Lib.hid (show Bxs W (w.heap.size + 1) 27 [.bool s1, .slice b1 n1 d1, .bool s2, .slice b2 n2 d2] by have h := HB2.out; simp only [World.size_alloc] at h; rw [hW]; exact h)
  have HW := Lib.hid hW
  clear hW
  have SA := Lib.hid (fun (w' : World) (hb : Below w.heap.size w w') => sameNum_any s1 a1 b1 n1 c1 d1 o1 w' (h1.below hb) (g1.below hb) hn1)
  have SB := Lib.hid (fun (w' : World) (hb : Below w.heap.size w w') => sameNum_any s2 a2 b2 n2 c2 d2 o2 w' (h2.below hb) (g2.below hb) hn2)
  clear h1 g1 h2 g2
  go_enter Tryz.func9, Tryz.ntmps9
  go_upto_region 1 with (fail)
  rw [show (w.alloc (.cells #[.bool s1, .slice a1 n1 c1, .bool s2, .slice a2 n2 c2] 27)).alloc (.cells #[.bool s1, .slice b1 n1 d1, .bool s2, .slice b2 n2 d2] 27) = W from HW.out.symm]
  clear HW
  have b1c0 := HB1.out.cell (i := 0) rfl
  have b1c1 := HB1.out.cell (i := 1) rfl
  have b1c2 := HB1.out.cell (i := 2) rfl
  have b1c3 := HB1.out.cell (i := 3) rfl
  have b1f := HB1.out.fz
  have b1l := HB1.out.lt
  have b2c0 := HB2.out.cell (i := 0) rfl
  have b2c1 := HB2.out.cell (i := 1) rfl
  have b2c2 := HB2.out.cell (i := 2) rfl
  have b2c3 := HB2.out.cell (i := 3) rfl
  have b2f := HB2.out.fz
  have b2l := HB2.out.lt
  go_wp2_with fail
  with_reducible refine (SA.out _ KG.out).mono ?_
  rintro e w1 ⟨rfl, hb⟩
  clear b1c0 b1c1 b1c2 b1c3 b1f b1l b2c0 b2c1 b2c2 b2c3 b2f b2l
  have HB1 := Lib.hid (HB1.out.below hb HB1.out.lt)
  have HB2 := Lib.hid (HB2.out.below hb HB2.out.lt)
  have HWS := Lib.hid (Nat.le_trans HWS.out hb.size)
  have KG := Lib.hid (KG.out.trans (hb.mono KG.out.size))
  clear hb
  clear SA
  have b1c0 := HB1.out.cell (i := 0) rfl
  have b1c1 := HB1.out.cell (i := 1) rfl
  have b1c2 := HB1.out.cell (i := 2) rfl
  have b1c3 := HB1.out.cell (i := 3) rfl
  have b1f := HB1.out.fz
  have b1l := HB1.out.lt
  have b2c0 := HB2.out.cell (i := 0) rfl
  have b2c1 := HB2.out.cell (i := 1) rfl
  have b2c2 := HB2.out.cell (i := 2) rfl
  have b2c3 := HB2.out.cell (i := 3) rfl
  have b2f := HB2.out.fz
  have b2l := HB2.out.lt
  go_wp2_with fail
  with_reducible refine (SB.out _ KG.out).mono ?_
  rintro e w2 ⟨rfl, hb⟩
  clear b1c0 b1c1 b1c2 b1c3 b1f b1l b2c0 b2c1 b2c2 b2c3 b2f b2l
  have HB1 := Lib.hid (HB1.out.below hb HB1.out.lt)
  have HB2 := Lib.hid (HB2.out.below hb HB2.out.lt)
  have HWS := Lib.hid (Nat.le_trans HWS.out hb.size)
  have KG := Lib.hid (KG.out.trans (hb.mono KG.out.size))
  clear hb
  clear SB
  go_wp2_with fail
  go_ret
  exact ⟨rfl, KG.out⟩

set_option maxRecDepth 100000 in
set_option maxHeartbeats 2000000 in
theorem leftFrac_any (s1 : Bool) (p1 : Nat) (a1 : Option Addr) (n1 c1 : Nat) (o1 : Nat → Int) (s2 : Bool) (p2 : Nat) (a2 : Option Addr) (n2 c2 : Nat) (o2 : Nat → Int) (w : World) (g1 : Rd w (some ⟨p1, 0, none⟩) (n1 + 1) (tw o1 n1)) (h1 : Rd w a1 n1 o1) (hn1 : n1 ≤ 1000000000) (g2 : Rd w (some ⟨p2, 0, none⟩) (n2 + 1) (tw o2 n2)) (h2 : Rd w a2 n2 o2) (hn2 : n2 ≤ 1000000000) :
    Calls Tryz.prog 29 #[fracV s1 (some ⟨p1, 0, none⟩) n1 (n1 + 1) s2 (some ⟨p2, 0, none⟩) n2 (n2 + 1), fracV s1 a1 n1 c1 s2 a2 n2 c2] w fun e w' => e = .returned (.bool true) ∧ Below w.heap.size w w' := by
  have HB1 := Lib.hid ((Bxs.new (w) 27 [.bool s1, .slice (some ⟨p1, 0, none⟩) n1 (n1 + 1), .bool s2, .slice (some ⟨p2, 0, none⟩) n2 (n2 + 1)]).alloc (.cells #[.bool s1, .slice a1 n1 c1, .bool s2, .slice a2 n2 c2] 27))
  have HB2 := Lib.hid (Bxs.new (w.alloc (.cells #[.bool s1, .slice (some ⟨p1, 0, none⟩) n1 (n1 + 1), .bool s2, .slice (some ⟨p2, 0, none⟩) n2 (n2 + 1)] 27)) 27 [.bool s1, .slice a1 n1 c1, .bool s2, .slice a2 n2 c2])
  obtain ⟨W, hW⟩ : ∃ W, W = (w.alloc (.cells #[.bool s1, .slice (some ⟨p1, 0, none⟩) n1 (n1 + 1), .bool s2, .slice (some ⟨p2, 0, none⟩) n2 (n2 + 1)] 27)).alloc (.cells #[.bool s1, .slice a1 n1 c1, .bool s2, .slice a2 n2 c2] 27) := ⟨_, rfl⟩
  have KG := Lib.hid (show Below w.heap.size w W by rw [hW]; exact ((Below.refl _ _).alloc (Nat.le_refl _) _).alloc (by go_size) _)
  have HWS := Lib.hid (show w.heap.size + 2 ≤ W.heap.size by rw [hW]; simp only [World.size_alloc]; omega)
  have HB1 := Lib.hid (show Bxs W (w.heap.size) 27 [.bool s1, .slice (some ⟨p1, 0, none⟩) n1 (n1 + 1), .bool s2, .slice (some ⟨p2, 0, none⟩) n2 (n2 + 1)] by have h := HB1.out; rw [hW]; exact h)
  have HB2 := Lib.hid (show Bxs W (w.heap.size + 1) 27 [.bool s1, .slice a1 n1 c1, .bool s2, .slice a2 n2 c2] by have h := HB2.out; simp only [World.size_alloc] at h; rw [hW]; exact h)
  have HW := Lib.hid hW
  clear hW
  have SA := Lib.hid (fun (w' : World) (hb : Below w.heap.size w w') => leftNum_any s1 p1 a1 n1 c1 o1 w' (g1.below hb) (h1.below hb) hn1)
  have SB := Lib.hid (fun (w' : World) (hb : Below w.heap.size w w') => leftNum_any s2 p2 a2 n2 c2 o2 w' (g2.below hb) (h2.below hb) hn2)
  clear h1 g1 h2 g2
  go_enter Tryz.func29, Tryz.ntmps29
  go_upto_region 1 with (fail)
  rw [show (w.alloc (.cells #[.bool s1, .slice (some ⟨p1, 0, none⟩) n1 (n1 + 1), .bool s2, .slice (some ⟨p2, 0, none⟩) n2 (n2 + 1)] 27)).alloc (.cells #[.bool s1, .slice a1 n1 c1, .bool s2, .slice a2 n2 c2] 27) = W from HW.out.symm]
  clear HW
  have b1c0 := HB1.out.cell (i := 0) rfl
  have b1c1 := HB1.out.cell (i := 1) rfl
  have b1c2 := HB1.out.cell (i := 2) rfl
  have b1c3 := HB1.out.cell (i := 3) rfl
  have b1f := HB1.out.fz
  have b1l := HB1.out.lt
  have b2c0 := HB2.out.cell (i := 0) rfl
  have b2c1 := HB2.out.cell (i := 1) rfl
  have b2c2 := HB2.out.cell (i := 2) rfl
  have b2c3 := HB2.out.cell (i := 3) rfl
  have b2f := HB2.out.fz
  have b2l := HB2.out.lt
  go_wp2_with fail
  with_reducible refine (SA.out _ KG.out).mono ?_
  rintro e w1 ⟨rfl, hb⟩
  clear b1c0 b1c1 b1c2 b1c3 b1f b1l b2c0 b2c1 b2c2 b2c3 b2f b2l
  have HB1 := Lib.hid (HB1.out.below hb HB1.out.lt)
  have HB2 := Lib.hid (HB2.out.below hb HB2.out.lt)
  have HWS := Lib.hid (Nat.le_trans HWS.out hb.size)
  have KG := Lib.hid (KG.out.trans (hb.mono KG.out.size))
  clear hb
  clear SA
  have b1c0 := HB1.out.cell (i := 0) rfl
  have b1c1 := HB1.out.cell (i := 1) rfl
  have b1c2 := HB1.out.cell (i := 2) rfl
  have b1c3 := HB1.out.cell (i := 3) rfl
  have b1f := HB1.out.fz
  have b1l := HB1.out.lt
  have b2c0 := HB2.out.cell (i := 0) rfl
  have b2c1 := HB2.out.cell (i := 1) rfl
  have b2c2 := HB2.out.cell (i := 2) rfl
  have b2c3 := HB2.out.cell (i := 3) rfl
  have b2f := HB2.out.fz
  have b2l := HB2.out.lt
  go_wp2_with fail
  with_reducible refine (SB.out _ KG.out).mono ?_
  rintro e w2 ⟨rfl, hb⟩
  clear b1c0 b1c1 b1c2 b1c3 b1f b1l b2c0 b2c1 b2c2 b2c3 b2f b2l
  have HB1 := Lib.hid (HB1.out.below hb HB1.out.lt)
  have HB2 := Lib.hid (HB2.out.below hb HB2.out.lt)
  have HWS := Lib.hid (Nat.le_trans HWS.out hb.size)
  have KG := Lib.hid (KG.out.trans (hb.mono KG.out.size))
  clear hb
  clear SB
  go_wp2_with fail
  go_ret
  exact ⟨rfl, KG.out⟩

set_option maxRecDepth 100000 in
set_option maxHeartbeats 2000000 in
theorem twinFrac_any (s1 : Bool) (a1 : Option Addr) (n1 c1 : Nat) (o1 : Nat → Int) (s2 : Bool) (a2 : Option Addr) (n2 c2 : Nat) (o2 : Nat → Int) (w : World) (h1 : Rd w a1 n1 o1) (hn1 : n1 ≤ 100000000) (h2 : Rd w a2 n2 o2) (hn2 : n2 ≤ 100000000) :
    Calls Tryz.prog 16 #[fracV s1 a1 n1 c1 s2 a2 n2 c2] w fun e w' => ∃ g1 g2, e = .returned (fracV s1 (some ⟨g1, 0, none⟩) n1 (n1 + 1) s2 (some ⟨g2, 0, none⟩) n2 (n2 + 1)) ∧ Own 74 w' w.heap.size (some ⟨g1, 0, none⟩) (n1 + 1) (n1 + 1) (tw o1 n1) ∧ Own 74 w' w.heap.size (some ⟨g2, 0, none⟩) (n2 + 1) (n2 + 1) (tw o2 n2) ∧ g1 ≠ g2 ∧ Below w.heap.size w w' := by
  have HB1 := Lib.hid ((Bxs.new (w) 27 [.bool s1, .slice a1 n1 c1, .bool s2, .slice a2 n2 c2]).alloc (.cells #[.bool false, .slice none 0 0, .bool false, .slice none 0 0] 27))
  have HB2 := Lib.hid (Bxs.new (w.alloc (.cells #[.bool s1, .slice a1 n1 c1, .bool s2, .slice a2 n2 c2] 27)) 27 [.bool false, .slice none 0 0, .bool false, .slice none 0 0])
  obtain ⟨W, hW⟩ : ∃ W, W = (w.alloc (.cells #[.bool s1, .slice a1 n1 c1, .bool s2, .slice a2 n2 c2] 27)).alloc (.cells #[.bool false, .slice none 0 0, .bool false, .slice none 0 0] 27) := ⟨_, rfl⟩
  have KG := Lib.hid (show Below w.heap.size w W by rw [hW]; exact ((Below.refl _ _).alloc (Nat.le_refl _) _).alloc (by go_size) _)
  have HWS := Lib.hid (show w.heap.size + 2 ≤ W.heap.size by rw [hW]; simp only [World.size_alloc]; omega)
  have HB1 := Lib.hid (show Bxs W (w.heap.size) 27 [.bool s1, .slice a1 n1 c1, .bool s2, .slice a2 n2 c2] by have h := HB1.out; rw [hW]; exact h)
  have HB2 := Lib.hid (show Bxs W (w.heap.size + 1) 27 [.bool false, .slice none 0 0, .bool false, .slice none 0 0] by have h := HB2.out; simp only [World.size_alloc] at h; rw [hW]; exact h)
  have HW := Lib.hid hW
  clear hW
  have TA := Lib.hid (fun (w' : World) (hb : Below W.heap.size W w') => twinNum_any s1 a1 n1 c1 o1 w' (h1.below (KG.out.trans (hb.mono KG.out.size))) hn1)
  have TB := Lib.hid (fun (w' : World) (hb : Below W.heap.size W w') => twinNum_any s2 a2 n2 c2 o2 w' (h2.below (KG.out.trans (hb.mono KG.out.size))) hn2)
  have HWS0 := Lib.hid HWS.out
  clear h1 h2
  go_enter Tryz.func16, Tryz.ntmps16
  go_upto_region 1 with (fail)
  rw [show (w.alloc (.cells #[.bool s1, .slice a1 n1 c1, .bool s2, .slice a2 n2 c2] 27)).alloc (.cells #[.bool false, .slice none 0 0, .bool false, .slice none 0 0] 27) = W from HW.out.symm]
  clear HW
  have HS := Lib.hid (fun (w' : World) (hb : Below W.heap.size W w') => frac_box (HB1.out.below hb HB1.out.lt))
  refine wp_region_fresh 5 (spOf [(2, Sp.made (fun g : Nat => numV s1 (some ⟨g, 0, none⟩) n1 (n1 + 1)) (fun g w' => Own 74 w' W.heap.size (some ⟨g, 0, none⟩) (n1 + 1) (n1 + 1) (tw o1 n1)))]) (fun w' => Below W.heap.size W w') (by kernel_rfl) (by kernel_rfl)
    (spOf_cons (Sp.made_keeps fun x w w' h hb => h.below hb) spOf_nil) (fun _ _ h hb => h.trans (hb.mono h.size)) ((Below.refl _ _).drew) ?_
  simp only [List.take_succ_cons, List.take_zero, List.drop_succ_cons, List.drop_zero]
  (refine wpF_reads rfl rfl ?_ (fun w' hw' => ?_) ?_; rotate_left; · (have hb' := Has.world hw'; (skip); clear hw'; go_simp; try rfl))
  conv => arg 9; simp only [Act.put, List.setIfInBounds_toArray, List.set_cons_succ, List.set_cons_zero]
  (refine wpF_reads rfl rfl ?_ (fun w' hw' => ?_) ?_; rotate_left; · (have hb' := Has.world hw'; (obtain ⟨k0, k1, k2, k3, k4, k5⟩ := HS.out _ hb'); clear hw'; go_simp; try rfl))
  conv => arg 9; simp only [Act.put, List.setIfInBounds_toArray, List.set_cons_succ, List.set_cons_zero]
  (refine wpF_spec rfl rfl (fun w' hw' => ?_) ?_; · (have hb' := Has.world hw'; go_simp; ((refine (TA.out w' hb').mono ?_; rintro e w'' ⟨g, rfl, hO, hb⟩; exact ⟨_, rfl, ⟨⟨g, rfl⟩, ⟨g, rfl, hO.mono hb'.size⟩⟩, hb⟩))))
  rintro _ ⟨g, rfl⟩
  conv => arg 9; simp only [Act.put, List.setIfInBounds_toArray, List.set_cons_succ, List.set_cons_zero]
  (refine wpF_reads rfl rfl ?_ (fun w' hw' => ?_) ?_; rotate_left; · (have hb' := Has.world hw'; (skip); clear hw'; go_simp; try rfl))
  conv => arg 9; simp only [Act.put, List.setIfInBounds_toArray, List.set_cons_succ, List.set_cons_zero]
  (refine wpF_reads rfl rfl ?_ (fun w' hw' => ?_) ?_; rotate_left; · (have hb' := Has.world hw'; (obtain ⟨k0, k1, k2, k3, k4, k5⟩ := HS.out _ hb'); clear hw'; go_simp; try rfl))
  conv => arg 9; simp only [Act.put, List.setIfInBounds_toArray, List.set_cons_succ, List.set_cons_zero]
  refine wpF_nil (fun w1 hb1 hF => ?_)
  have HO1 := Lib.hid (show Own 74 w1 W.heap.size (some ⟨g, 0, none⟩) (n1 + 1) (n1 + 1) (tw o1 n1) by obtain ⟨x, e, h⟩ := hF 2; cases e; exact h)
  have T2 := Lib.hid (TB.out w1 hb1)
  clear hF HS TA TB
  have HB1 := Lib.hid (HB1.out.below hb1 HB1.out.lt)
  have HB2 := Lib.hid (HB2.out.below hb1 HB2.out.lt)
  have HWS := Lib.hid (Nat.le_trans HWS.out hb1.size)
  have KG := Lib.hid (KG.out.trans (hb1.mono KG.out.size))
  clear hb1
  go_wp2_with fail
  with_reducible refine T2.out.mono ?_
  rintro e w2 ⟨g2, rfl, hO2, hb⟩
  have HNE := Lib.hid (show g ≠ g2 by
    have h1 := (HO1.out.blk rfl).2.2
    have h2 := (hO2.blk rfl).2.1
    dsimp only at h1 h2
    omega)
  have HO2 := Lib.hid (hO2.mono HWS.out)
  clear hO2 T2
  have HB1 := Lib.hid (HB1.out.below hb HB1.out.lt)
  have HB2 := Lib.hid (HB2.out.below hb HB2.out.lt)
  have HO1 := Lib.hid (HO1.out.below hb)
  have HWS := Lib.hid (Nat.le_trans HWS.out hb.size)
  have KG := Lib.hid (KG.out.trans (hb.mono KG.out.size))
  clear hb
  have HO1 := Lib.hid (HO1.out.mono (show w.heap.size + 2 ≤ W.heap.size from HWS0.out))
  have b2c0 := HB2.out.cell (i := 0) rfl
  have b2c1 := HB2.out.cell (i := 1) rfl
  have b2c2 := HB2.out.cell (i := 2) rfl
  have b2c3 := HB2.out.cell (i := 3) rfl
  have b2f := HB2.out.fz
  have b2l := HB2.out.lt
  go_wp2_with fail
  have hws := HWS.out
  refine bodyPost_ret (results_cell rfl _ _ _ _ _ _ _ rfl (((((HB2.out).put 0 _).put 1 _).put 2 _).put 3 _) Tryz.underlying27 rfl (by kernel_rfl)) rfl ?_
  refine ⟨g, g2, rfl, ?_, ?_, HNE.out, ?_⟩
  · exact (((((HO1.out).other (by dsimp only; omega) _).other (by dsimp only; omega) _).other (by dsimp only; omega) _).other (by dsimp only; omega) _).mono (by omega)
  · exact (((((HO2.out).other (by dsimp only; omega) _).other (by dsimp only; omega) _).other (by dsimp only; omega) _).other (by dsimp only; omega) _).mono (by omega)
  · exact ((((KG.out).setCell (by dsimp only; omega) _).setCell (by dsimp only; omega) _).setCell (by dsimp only; omega) _).setCell (by dsimp only; omega) _

open Classical in
set_option maxHeartbeats 1000000 in
theorem great2_any (M g k c : Nat) (A A' : Nat → Option Addr) (N C N' C' : Nat → Nat) (w : World) (hc : ∀ i, i < k → w.cell? ⟨g, i * 4 + 1, none⟩ = some (.slice (A i) (N i) (C i))) (hc' : ∀ i, i < k → w.cell? ⟨g, i * 4 + 2 + 1, none⟩ = some (.slice (A' i) (N' i) (C' i))) (hk : k ≤ 1000) :
    Calls Tryz.prog 15 #[.int .i64 M, .slice (some ⟨g, 0, none⟩) k c] w fun e w' => e = .returned (.bool (decide (∃ i, i < k ∧ (M < N i ∨ M < N' i)))) ∧ w' = w := by
  have HC := Lib.hid (And.intro hc hc')
  have Y := Lib.hid (fun i (hi : i < k) (h : M < N i ∨ M < N' i) => (decide_eq_true ⟨i, hi, h⟩ : decide (∃ i, i < k ∧ (M < N i ∨ M < N' i)) = true))
  have Z := Lib.hid (fun (h : ∀ i, i < k → N i ≤ M ∧ N' i ≤ M) => (decide_eq_false (fun ⟨i, hi, h1⟩ => by have := h i hi; omega) : decide (∃ i, i < k ∧ (M < N i ∨ M < N' i)) = false))
  clear hc hc'
  go_enter Tryz.func15, Tryz.ntmps15
  go_wp2_with fail
  go_loopw [5] (fun v wr => ∃ i : Nat, i ≤ k ∧ v = .int .i64 i ∧ (∀ j, j < i → N j ≤ M ∧ N' j ≤ M) ∧ wr = w) (fun v _ => k - (intOf v).toNat)
  case atStart => exact ⟨0, by omega, rfl, fun j hj => by omega, rfl⟩
  case round =>
    obtain ⟨i, hi, rfl, hM, rfl⟩ := hrel
    have HM := Lib.hid hM
    clear hM
    by_cases hik : i < k
    · have c1 := HC.out.1 i hik
      have c2 := HC.out.2 i hik
      obtain ⟨n, hn⟩ : ∃ n, n = N i := ⟨_, rfl⟩
      obtain ⟨n', hn'⟩ : ∃ n', n' = N' i := ⟨_, rfl⟩
      rw [← hn] at c1
      rw [← hn'] at c2
      have EN := Lib.hid (And.intro hn hn')
      clear hn hn'
      by_cases hg : M < n
      · have x1 : (n : Int) > (M : Int) := by omega
        have E := Lib.hid (Y.out i hik (by rw [← EN.out.1]; exact Or.inl hg))
        go_wp2_with fail
        go_ret
        exact ⟨by rw [E.out]; rfl, rfl⟩
      · have x1 : ¬ (n : Int) > (M : Int) := by omega
        by_cases hg' : M < n'
        · have x2 : (n' : Int) > (M : Int) := by omega
          have E := Lib.hid (Y.out i hik (by rw [← EN.out.2]; exact Or.inr hg'))
          go_wp2_with fail
          go_ret
          exact ⟨by rw [E.out]; rfl, rfl⟩
        · have x2 : ¬ (n' : Int) > (M : Int) := by omega
          go_wp2_with fail
          go_roundw
          case rel =>
            refine ⟨i + 1, by omega, by go_num, fun j hj => ?_, by trivial⟩
            by_cases e : j = i
            · subst e; have := EN.out; omega
            · exact HM.out j (by omega)
          case measure => simp [intOf]; omega
    · obtain rfl : i = k := by omega
      have E := Lib.hid (Z.out HM.out)
      go_wp2_with fail
      go_ret
      exact ⟨by rw [E.out]; rfl, rfl⟩
end Go.Proofs.YtaagegcidbgjmaaGreatDoor.Limb
namespace Go.Proofs.YtaagegcidbgjmaaGreatDoor.Limb
open Go.RowKit Go.Sort Go.Fresh

/-- A fraction's two lists, as they may be read. -/
structure FracJ (w : World) (l1 : Nat) (d1 : Nat → Int) (l2 : Nat) (d2 : Nat → Int) (x : Option Addr × Nat × Option Addr × Nat) : Prop where
  r1 : Rd w x.1 l1 d1
  r2 : Rd w x.2.2.1 l2 d2
theorem FracJ.below {w w' : World} {l1 : Nat} {d1 : Nat → Int} {l2 : Nat} {d2 : Nat → Int} {x : Option Addr × Nat × Option Addr × Nat} (h : FracJ w l1 d1 l2 d2 x) (hb : Below w.heap.size w w') : FracJ w' l1 d1 l2 d2 x := ⟨h.r1.below hb, h.r2.below hb⟩
theorem fracJ_of {s1 s2 : Bool} {l1 : Nat} {d1 : Nat → Int} {l2 : Nat} {d2 : Nat → Int} {x : Option Addr × Nat × Option Addr × Nat} {w : World}
    (h : ∃ y : Option Addr × Nat × Option Addr × Nat, fracV s1 x.1 l1 x.2.1 s2 x.2.2.1 l2 x.2.2.2 = fracV s1 y.1 l1 y.2.1 s2 y.2.2.1 l2 y.2.2.2 ∧ FracJ w l1 d1 l2 d2 y) : FracJ w l1 d1 l2 d2 x := by
  obtain ⟨y, e, h⟩ := h
  simp only [Value.agg.injEq, Array.mk.injEq, List.cons.injEq, Value.slice.injEq, true_and, and_true] at e
  obtain ⟨⟨e1, e2⟩, e3, e4⟩ := e
  obtain ⟨x1, x2, x3, x4⟩ := x
  obtain ⟨y1, y2, y3, y4⟩ := y
  dsimp only at e1 e2 e3 e4
  subst e1 e2 e3 e4
  exact h

open Classical in
theorem fmake_all (s1 : Bool) (n1 : Nat) (o1 : Nat → Int) (s2 : Bool) (n2 : Nat) (o2 : Nat → Int) (hn1 : n1 ≤ 900000) (g1 : ∀ i, i < n1 → 0 ≤ o1 i ∧ o1 i ≤ 4294967295) (hn2 : n2 ≤ 900000) (g2 : ∀ i, i < n2 → 0 ≤ o2 i ∧ o2 i ≤ 4294967295) :
    ∃ c p q : Int, (lenB p.natAbs ≤ n1 ∧ lenB q.natAbs ≤ n2) ∧
      (∀ (a1 a2 : Option Addr) (c1 c2 : Nat) (w : World), Rd w a1 n1 o1 → n1 ≤ c1 → Rd w a2 n2 o2 → n2 ≤ c2 → Calls Tryz.prog 6 #[numV s1 a1 n1 c1, numV s2 a2 n2 c2] w (MakeP w c p q)) ∧
      (∀ (a1 a2 : Option Addr) (c1 c2 : Nat) (w : World), Rd w a1 n1 o1 → n1 ≤ c1 → Rd w a2 n2 o2 → n2 ≤ c2 → Calls Tryz.prog 7 #[numV s1 a1 n1 c1, numV s2 a2 n2 c2] w (MakeF w c p q)) := by
  have hl0 : lenB (Int.natAbs 0) = 0 := by rw [show Int.natAbs 0 = 0 from rfl, lenB_zero]
  by_cases k1 : okN s1 n1 o1
  · by_cases k2 : okN s2 n2 o2
    · by_cases hz : valN s2 n2 o2 = 0
      · exact ⟨6, 0, 0, by omega, fun a1 a2 c1 c2 w h1 hc1 h2 hc2 => (make_3 s1 a1 n1 c1 o1 s2 a2 n2 c2 o2 w h1 (by omega) hc1 h2 (by omega) hc2 k1 k2 hz).mono fun e w' h => (makeP_err h).1, fun a1 a2 c1 c2 w h1 hc1 h2 hc2 => (rmake_3 s1 a1 n1 c1 o1 s2 a2 n2 c2 o2 w h1 (by omega) hc1 h2 (by omega) hc2 k1 k2 hz).mono fun e w' h => (makeP_err h).2⟩
      · refine ⟨0, (Rat.divInt (valN s1 n1 o1) (valN s2 n2 o2)).num, ((Rat.divInt (valN s1 n1 o1) (valN s2 n2 o2)).den : Int), ?_, fun a1 a2 c1 c2 w h1 hc1 h2 hc2 => make_ok s1 a1 n1 c1 o1 s2 a2 n2 c2 o2 w h1 (by omega) hc1 h2 (by omega) hc2 k1 k2 hz, fun a1 a2 c1 c2 w h1 hc1 h2 hc2 => rmake_ok s1 a1 n1 c1 o1 s2 a2 n2 c2 o2 w h1 (by omega) hc1 h2 (by omega) hc2 k1 k2 hz⟩
        have h := divInt_len (valN s1 n1 o1) (valN s2 n2 o2) hz
        have e1 := (of_facts s1 n1 o1 k1 g1).2.1
        have e2 := (of_facts s2 n2 o2 k2 g2).2.1
        rw [e1, e2] at h
        exact h
    · exact ⟨1, 0, 0, by omega, fun a1 a2 c1 c2 w h1 hc1 h2 hc2 => (make_2 s1 a1 n1 c1 o1 s2 a2 n2 c2 o2 w h1 (by omega) hc1 h2 (by omega) hc2 k1 k2).mono fun e w' h => (makeP_err h).1, fun a1 a2 c1 c2 w h1 hc1 h2 hc2 => (rmake_2 s1 a1 n1 c1 o1 s2 a2 n2 c2 o2 w h1 (by omega) hc1 h2 (by omega) hc2 k1 k2).mono fun e w' h => (makeP_err h).2⟩
  · exact ⟨1, 0, 0, by omega, fun a1 a2 c1 c2 w h1 hc1 h2 hc2 => (make_1 s1 a1 n1 c1 o1 s2 a2 n2 c2 o2 w h1 (by omega) hc1 h2 (by omega) hc2 k1).mono fun e w' h => (makeP_err h).1, fun a1 a2 c1 c2 w h1 hc1 h2 hc2 => (rmake_1 s1 a1 n1 c1 o1 s2 a2 n2 c2 o2 w h1 (by omega) hc1 h2 (by omega) hc2 k1).mono fun e w' h => (makeP_err h).2⟩

open Classical in
set_option maxRecDepth 100000 in
set_option maxHeartbeats 8000000 in
theorem fracsMakes_law (s1 : Bool) (a1 : Option Addr) (n1 c1 : Nat) (o1 : Nat → Int) (s2 : Bool) (a2 : Option Addr) (n2 c2 : Nat) (o2 : Nat → Int) (z : Int) (w : World)
    (h1 : Rd w a1 n1 o1) (hc1 : n1 ≤ c1) (h2 : Rd w a2 n2 o2) (hc2 : n2 ≤ c2) (hz1 : -9223372036854775808 ≤ z) (hz2 : z ≤ 9223372036854775807) :
    Calls Tryz.prog 3 #[numV s1 a1 n1 c1, numV s2 a2 n2 c2, .int .i64 z] w fun e w' => e = .returned (.bool true) ∧ Below w.heap.size w w' := by
  have HR := Lib.hid (And.intro h1 h2)
  have HC := Lib.hid (And.intro hc1 hc2)
  have HZ := Lib.hid (And.intro hz1 hz2)
  have HB1 := Lib.hid ((Bxs.new w 24 [.bool s1, .slice a1 n1 c1]).alloc (.cells #[.bool s2, .slice a2 n2 c2] 24))
  have HB2 := Lib.hid (Bxs.new (w.alloc (.cells #[.bool s1, .slice a1 n1 c1] 24)) 24 [.bool s2, .slice a2 n2 c2])
  clear h1 h2 hc1 hc2 hz1 hz2
  obtain ⟨V, hV⟩ : ∃ V, V = (w.alloc (.cells #[.bool s1, .slice a1 n1 c1] 24)).alloc (.cells #[.bool s2, .slice a2 n2 c2] 24) := ⟨_, rfl⟩
  have HG := Lib.hid (show Below w.heap.size w V by rw [hV]; exact (((Below.refl _ _).alloc (Nat.le_refl _) _).alloc (by go_size) _))
  have HB1 := Lib.hid (show Bxs V w.heap.size 24 [.bool s1, .slice a1 n1 c1] by rw [hV]; exact HB1.out)
  have HB2 := Lib.hid (show Bxs V (w.heap.size + 1) 24 [.bool s2, .slice a2 n2 c2] by have h := HB2.out; simp only [World.size_alloc] at h; rw [hV]; exact h)
  have HV := Lib.hid hV
  clear hV
  by_cases hg : 25 < n1
  · have g1 : (n1 : Int) > 25 := by omega
    clear hg
    go_enter Tryz.func3, Tryz.ntmps3
    go_upto_region 1 with (fail)
    rw [show (w.alloc (.cells #[.bool s1, .slice a1 n1 c1] 24)).alloc (.cells #[.bool s2, .slice a2 n2 c2] 24) = V from HV.out.symm]
    have c10 := HB1.out.cell (i := 0) rfl
    have c11 := HB1.out.cell (i := 1) rfl
    have c1f := HB1.out.fz
    have c1l := HB1.out.lt
    go_wp2_with fail
    go_ret
    exact ⟨rfl, HG.out⟩
  have g1 : ¬ (n1 : Int) > 25 := by omega
  by_cases hg2 : 25 < n2
  · have g2 : (n2 : Int) > 25 := by omega
    clear hg hg2
    go_enter Tryz.func3, Tryz.ntmps3
    go_upto_region 1 with (fail)
    rw [show (w.alloc (.cells #[.bool s1, .slice a1 n1 c1] 24)).alloc (.cells #[.bool s2, .slice a2 n2 c2] 24) = V from HV.out.symm]
    have c10 := HB1.out.cell (i := 0) rfl
    have c11 := HB1.out.cell (i := 1) rfl
    have c1f := HB1.out.fz
    have c1l := HB1.out.lt
    have c20 := HB2.out.cell (i := 0) rfl
    have c21 := HB2.out.cell (i := 1) rfl
    have c2f := HB2.out.fz
    have c2l := HB2.out.lt
    go_wp2_with fail
    go_ret
    exact ⟨rfl, HG.out⟩
  have g2 : ¬ (n2 : Int) > 25 := by omega
  have hn1 : n1 ≤ 25 := by omega
  have hn2 : n2 ≤ 25 := by omega
  clear hg hg2
  go_enter Tryz.func3, Tryz.ntmps3
  go_upto_region 1 with (fail)
  rw [show (w.alloc (.cells #[.bool s1, .slice a1 n1 c1] 24)).alloc (.cells #[.bool s2, .slice a2 n2 c2] 24) = V from HV.out.symm]
  clear HV
  have c10 := HB1.out.cell (i := 0) rfl
  have c11 := HB1.out.cell (i := 1) rfl
  have c1f := HB1.out.fz
  have c1l := HB1.out.lt
  have c20 := HB2.out.cell (i := 0) rfl
  have c21 := HB2.out.cell (i := 1) rfl
  have c2f := HB2.out.fz
  have c2l := HB2.out.lt
  go_upto_region 3 with (fail)
  clear c10 c11 c1f c1l c20 c21 c2f c2l g1 g2
  obtain ⟨lo, hlo⟩ : ∃ lo, lo = V.heap.size := ⟨_, rfl⟩
  have HLO := Lib.hid (And.intro (show w.heap.size ≤ lo by rw [hlo]; exact HG.out.size) (show lo ≤ V.heap.size by omega))
  have HA := Lib.hid (OwnAll.nil lo V)
  clear hlo
  have cHB10 := HB1.out.cell (i := 0) rfl
  have cHB11 := HB1.out.cell (i := 1) rfl
  have cHB1f := HB1.out.fz
  have cHB1l := HB1.out.lt
  go_wp2_with fail
  with_reducible refine (twinNum_any s1 a1 n1 c1 o1 V (HR.out.1.below HG.out) (by omega)).mono ?_
  rintro e w1 ⟨gx, rfl, hO1, hb⟩
  clear cHB10 cHB11 cHB1f cHB1l
  have ho1 : Own 74 w1 V.heap.size (some ⟨gx, 0, none⟩) n1 (n1 + 1) o1 := (hO1.less (by omega)).congr fun i hi => (if_pos hi)
  have hA1 := HA.out.more HLO.out.2 hb (x := ⟨0, s1, some ⟨gx, 0, none⟩, n1, n1 + 1, o1⟩) ho1
  have HA := Lib.hid (hA1.below ((Below.refl _ _).alloc (Nat.le_refl _) (.cells #[.bool s1, .slice (some ⟨gx, 0, none⟩) n1 (n1 + 1)] 24)))
  clear hA1
  simp only [List.nil_append, List.cons_append] at HA
  have HTx := Lib.hid (hO1.mono HLO.out.2)
  clear ho1 hO1
  have hbV := Lib.hid (hb.alloc hb.size (.cells #[.bool s1, .slice (some ⟨gx, 0, none⟩) n1 (n1 + 1)] 24))
  have HKx := Lib.hid (Bxs.new (w1) 24 [.bool s1, .slice (some ⟨gx, 0, none⟩) n1 (n1 + 1)])
  go_upto_region 4 with (fail)
  obtain ⟨W, hW⟩ : ∃ W, W = w1.alloc (.cells #[.bool s1, .slice (some ⟨gx, 0, none⟩) n1 (n1 + 1)] 24) := ⟨_, rfl⟩
  have HKx := Lib.hid (show Bxs W (w1.heap.size) 24 [.bool s1, .slice (some ⟨gx, 0, none⟩) n1 (n1 + 1)] by have h := HKx.out; rw [hW]; exact h)
  rw [← hW] at hbV HA
  have HTx := Lib.hid ((HTx.out).allocd (.cells #[.bool s1, .slice (some ⟨gx, 0, none⟩) n1 (n1 + 1)] 24))
  rw [← hW] at HTx
  rw [show w1.alloc (.cells #[.bool s1, .slice (some ⟨gx, 0, none⟩) n1 (n1 + 1)] 24) = W from hW.symm]
  clear hW hb
  obtain ⟨blx, hbz⟩ : ∃ b, b = w1.heap.size := ⟨_, rfl⟩
  rw [← hbz] at HKx ⊢
  clear hbz
  have HB1 := Lib.hid (HB1.out.below hbV.out HB1.out.lt)
  have HB2 := Lib.hid (HB2.out.below hbV.out HB2.out.lt)
  have HG := Lib.hid (HG.out.trans (hbV.out.mono HG.out.size))
  have HLO := Lib.hid (And.intro HLO.out.1 (Nat.le_trans HLO.out.2 hbV.out.size))
  clear hbV
  obtain ⟨V, rfl⟩ : ∃ V, V = W := ⟨_, rfl⟩
  have cHB20 := HB2.out.cell (i := 0) rfl
  have cHB21 := HB2.out.cell (i := 1) rfl
  have cHB2f := HB2.out.fz
  have cHB2l := HB2.out.lt
  go_wp2_with fail
  with_reducible refine (twinNum_any s2 a2 n2 c2 o2 V (HR.out.2.below HG.out) (by omega)).mono ?_
  rintro e w1 ⟨gy, rfl, hO1, hb⟩
  clear cHB20 cHB21 cHB2f cHB2l
  have ho1 : Own 74 w1 V.heap.size (some ⟨gy, 0, none⟩) n2 (n2 + 1) o2 := (hO1.less (by omega)).congr fun i hi => (if_pos hi)
  have hA1 := HA.out.more HLO.out.2 hb (x := ⟨0, s2, some ⟨gy, 0, none⟩, n2, n2 + 1, o2⟩) ho1
  have HA := Lib.hid (hA1.below ((Below.refl _ _).alloc (Nat.le_refl _) (.cells #[.bool s2, .slice (some ⟨gy, 0, none⟩) n2 (n2 + 1)] 24)))
  clear hA1
  simp only [List.nil_append, List.cons_append] at HA
  have HTy := Lib.hid (hO1.mono HLO.out.2)
  clear ho1 hO1
  have hbV := Lib.hid (hb.alloc hb.size (.cells #[.bool s2, .slice (some ⟨gy, 0, none⟩) n2 (n2 + 1)] 24))
  have HKy := Lib.hid (Bxs.new (w1) 24 [.bool s2, .slice (some ⟨gy, 0, none⟩) n2 (n2 + 1)])
  go_upto_region 5 with (fail)
  obtain ⟨W, hW⟩ : ∃ W, W = w1.alloc (.cells #[.bool s2, .slice (some ⟨gy, 0, none⟩) n2 (n2 + 1)] 24) := ⟨_, rfl⟩
  have HKy := Lib.hid (show Bxs W (w1.heap.size) 24 [.bool s2, .slice (some ⟨gy, 0, none⟩) n2 (n2 + 1)] by have h := HKy.out; rw [hW]; exact h)
  rw [← hW] at hbV HA
  have HTy := Lib.hid ((HTy.out).allocd (.cells #[.bool s2, .slice (some ⟨gy, 0, none⟩) n2 (n2 + 1)] 24))
  rw [← hW] at HTy
  rw [show w1.alloc (.cells #[.bool s2, .slice (some ⟨gy, 0, none⟩) n2 (n2 + 1)] 24) = W from hW.symm]
  clear hW hb
  obtain ⟨bly, hbz⟩ : ∃ b, b = w1.heap.size := ⟨_, rfl⟩
  rw [← hbz] at HKy ⊢
  clear hbz
  have HB1 := Lib.hid (HB1.out.below hbV.out HB1.out.lt)
  have HB2 := Lib.hid (HB2.out.below hbV.out HB2.out.lt)
  have HKx := Lib.hid (HKx.out.below hbV.out HKx.out.lt)
  have HTx := Lib.hid (HTx.out.below hbV.out)
  have HG := Lib.hid (HG.out.trans (hbV.out.mono HG.out.size))
  have HLO := Lib.hid (And.intro HLO.out.1 (Nat.le_trans HLO.out.2 hbV.out.size))
  clear hbV
  obtain ⟨V, rfl⟩ : ∃ V, V = W := ⟨_, rfl⟩
  obtain ⟨code, p1, q1, hlen, DA, DB⟩ := fmake_all s1 n1 o1 s2 n2 o2 (by omega) HR.out.1.rng (by omega) HR.out.2.rng
  have HDA := Lib.hid DA
  have HDB := Lib.hid DB
  have HL1 := Lib.hid (show lenB p1.natAbs ≤ 1000 ∧ lenB q1.natAbs ≤ 1000 by omega)
  clear DA DB hlen
  have G0 := HA.out.get (i := 0) rfl
  have G1 := HA.out.get (i := 1) rfl
  have CA := Lib.hid (HDA.out (some ⟨gx, 0, none⟩) (some ⟨gy, 0, none⟩) (n1 + 1) (n2 + 1) V G0.rd (by omega) G1.rd (by omega))
  clear G0 G1
  have cHKx0 := HKx.out.cell (i := 0) rfl
  have cHKx1 := HKx.out.cell (i := 1) rfl
  have cHKxf := HKx.out.fz
  have cHKxl := HKx.out.lt
  have cHKy0 := HKy.out.cell (i := 0) rfl
  have cHKy1 := HKy.out.cell (i := 1) rfl
  have cHKyf := HKy.out.fz
  have cHKyl := HKy.out.lt
  go_wp2_with fail
  with_reducible refine CA.out.mono ?_
  rintro e w1 ⟨rc, uc, rfl, ho1, ho2, hap, hb⟩
  clear cHKx0 cHKx1 cHKxf cHKxl cHKy0 cHKy1 cHKyf cHKyl
  have hA1 := HA.out.more2 HLO.out.2 hb (x := ⟨0, decide (p1 < 0), rc, lenB p1.natAbs, lenB p1.natAbs, dgi p1.natAbs⟩) (y := ⟨0, decide (q1 < 0), uc, lenB q1.natAbs, lenB q1.natAbs, dgi q1.natAbs⟩) ho1 ho2 hap
  have HA := Lib.hid (hA1.below ((Below.refl _ _).alloc (Nat.le_refl _) (.cells #[.bool (decide (p1 < 0)), .slice rc (lenB p1.natAbs) (lenB p1.natAbs), .bool (decide (q1 < 0)), .slice uc (lenB q1.natAbs) (lenB q1.natAbs)] 27)))
  clear hA1
  simp only [List.nil_append, List.cons_append] at HA
  clear CA ho1 ho2 hap
  have hbV := Lib.hid (hb.alloc hb.size (.cells #[.bool (decide (p1 < 0)), .slice rc (lenB p1.natAbs) (lenB p1.natAbs), .bool (decide (q1 < 0)), .slice uc (lenB q1.natAbs) (lenB q1.natAbs)] 27))
  have HKc := Lib.hid (Bxs.new (w1) 27 [.bool (decide (p1 < 0)), .slice rc (lenB p1.natAbs) (lenB p1.natAbs), .bool (decide (q1 < 0)), .slice uc (lenB q1.natAbs) (lenB q1.natAbs)])
  go_upto_region 6 with (fail)
  obtain ⟨W, hW⟩ : ∃ W, W = w1.alloc (.cells #[.bool (decide (p1 < 0)), .slice rc (lenB p1.natAbs) (lenB p1.natAbs), .bool (decide (q1 < 0)), .slice uc (lenB q1.natAbs) (lenB q1.natAbs)] 27) := ⟨_, rfl⟩
  have HKc := Lib.hid (show Bxs W (w1.heap.size) 27 [.bool (decide (p1 < 0)), .slice rc (lenB p1.natAbs) (lenB p1.natAbs), .bool (decide (q1 < 0)), .slice uc (lenB q1.natAbs) (lenB q1.natAbs)] by have h := HKc.out; rw [hW]; exact h)
  rw [← hW] at hbV HA
  rw [show w1.alloc (.cells #[.bool (decide (p1 < 0)), .slice rc (lenB p1.natAbs) (lenB p1.natAbs), .bool (decide (q1 < 0)), .slice uc (lenB q1.natAbs) (lenB q1.natAbs)] 27) = W from hW.symm]
  clear hW hb
  obtain ⟨blc, hbz⟩ : ∃ b, b = w1.heap.size := ⟨_, rfl⟩
  rw [← hbz] at HKc ⊢
  clear hbz
  have HB1 := Lib.hid (HB1.out.below hbV.out HB1.out.lt)
  have HB2 := Lib.hid (HB2.out.below hbV.out HB2.out.lt)
  have HKx := Lib.hid (HKx.out.below hbV.out HKx.out.lt)
  have HKy := Lib.hid (HKy.out.below hbV.out HKy.out.lt)
  have HTx := Lib.hid (HTx.out.below hbV.out)
  have HTy := Lib.hid (HTy.out.below hbV.out)
  have HG := Lib.hid (HG.out.trans (hbV.out.mono HG.out.size))
  have HLO := Lib.hid (And.intro HLO.out.1 (Nat.le_trans HLO.out.2 hbV.out.size))
  clear hbV
  obtain ⟨V, rfl⟩ : ∃ V, V = W := ⟨_, rfl⟩
  have G0 := HA.out.get (i := 0) rfl
  have G1 := HA.out.get (i := 1) rfl
  have CA := Lib.hid (HDA.out (some ⟨gx, 0, none⟩) (some ⟨gy, 0, none⟩) (n1 + 1) (n2 + 1) V G0.rd (by omega) G1.rd (by omega))
  clear G0 G1
  have cHKx0 := HKx.out.cell (i := 0) rfl
  have cHKx1 := HKx.out.cell (i := 1) rfl
  have cHKxf := HKx.out.fz
  have cHKxl := HKx.out.lt
  have cHKy0 := HKy.out.cell (i := 0) rfl
  have cHKy1 := HKy.out.cell (i := 1) rfl
  have cHKyf := HKy.out.fz
  have cHKyl := HKy.out.lt
  go_wp2_with fail
  with_reducible refine CA.out.mono ?_
  rintro e w1 ⟨rd, ud, rfl, ho1, ho2, hap, hb⟩
  clear cHKx0 cHKx1 cHKxf cHKxl cHKy0 cHKy1 cHKyf cHKyl
  have hA1 := HA.out.more2 HLO.out.2 hb (x := ⟨0, decide (p1 < 0), rd, lenB p1.natAbs, lenB p1.natAbs, dgi p1.natAbs⟩) (y := ⟨0, decide (q1 < 0), ud, lenB q1.natAbs, lenB q1.natAbs, dgi q1.natAbs⟩) ho1 ho2 hap
  have HA := Lib.hid (hA1.below ((Below.refl _ _).alloc (Nat.le_refl _) (.cells #[.bool (decide (p1 < 0)), .slice rd (lenB p1.natAbs) (lenB p1.natAbs), .bool (decide (q1 < 0)), .slice ud (lenB q1.natAbs) (lenB q1.natAbs)] 27)))
  clear hA1
  simp only [List.nil_append, List.cons_append] at HA
  clear CA ho1 ho2 hap
  have hbV := Lib.hid (hb.alloc hb.size (.cells #[.bool (decide (p1 < 0)), .slice rd (lenB p1.natAbs) (lenB p1.natAbs), .bool (decide (q1 < 0)), .slice ud (lenB q1.natAbs) (lenB q1.natAbs)] 27))
  have HKd := Lib.hid (Bxs.new (w1) 27 [.bool (decide (p1 < 0)), .slice rd (lenB p1.natAbs) (lenB p1.natAbs), .bool (decide (q1 < 0)), .slice ud (lenB q1.natAbs) (lenB q1.natAbs)])
  go_upto_region 7 with (fail)
  obtain ⟨W, hW⟩ : ∃ W, W = w1.alloc (.cells #[.bool (decide (p1 < 0)), .slice rd (lenB p1.natAbs) (lenB p1.natAbs), .bool (decide (q1 < 0)), .slice ud (lenB q1.natAbs) (lenB q1.natAbs)] 27) := ⟨_, rfl⟩
  have HKd := Lib.hid (show Bxs W (w1.heap.size) 27 [.bool (decide (p1 < 0)), .slice rd (lenB p1.natAbs) (lenB p1.natAbs), .bool (decide (q1 < 0)), .slice ud (lenB q1.natAbs) (lenB q1.natAbs)] by have h := HKd.out; rw [hW]; exact h)
  rw [← hW] at hbV HA
  rw [show w1.alloc (.cells #[.bool (decide (p1 < 0)), .slice rd (lenB p1.natAbs) (lenB p1.natAbs), .bool (decide (q1 < 0)), .slice ud (lenB q1.natAbs) (lenB q1.natAbs)] 27) = W from hW.symm]
  clear hW hb
  obtain ⟨bld, hbz⟩ : ∃ b, b = w1.heap.size := ⟨_, rfl⟩
  rw [← hbz] at HKd ⊢
  clear hbz
  have HB1 := Lib.hid (HB1.out.below hbV.out HB1.out.lt)
  have HB2 := Lib.hid (HB2.out.below hbV.out HB2.out.lt)
  have HKx := Lib.hid (HKx.out.below hbV.out HKx.out.lt)
  have HKy := Lib.hid (HKy.out.below hbV.out HKy.out.lt)
  have HKc := Lib.hid (HKc.out.below hbV.out HKc.out.lt)
  have HTx := Lib.hid (HTx.out.below hbV.out)
  have HTy := Lib.hid (HTy.out.below hbV.out)
  have HG := Lib.hid (HG.out.trans (hbV.out.mono HG.out.size))
  have HLO := Lib.hid (And.intro HLO.out.1 (Nat.le_trans HLO.out.2 hbV.out.size))
  clear hbV
  obtain ⟨V, rfl⟩ : ∃ V, V = W := ⟨_, rfl⟩
  have CB := Lib.hid (HDB.out a1 a2 c1 c2 V (HR.out.1.below HG.out) HC.out.1 (HR.out.2.below HG.out) HC.out.2)
  have cHB10 := HB1.out.cell (i := 0) rfl
  have cHB11 := HB1.out.cell (i := 1) rfl
  have cHB1f := HB1.out.fz
  have cHB1l := HB1.out.lt
  have cHB20 := HB2.out.cell (i := 0) rfl
  have cHB21 := HB2.out.cell (i := 1) rfl
  have cHB2f := HB2.out.fz
  have cHB2l := HB2.out.lt
  go_wp2_with fail
  with_reducible refine CB.out.mono ?_
  rintro e w1 ⟨rz, cw, uz, dz, rfl, ho1, ho2, hb⟩
  clear cHB10 cHB11 cHB1f cHB1l cHB20 cHB21 cHB2f cHB2l
  have HW1 := Lib.hid (ho1.mono HLO.out.2)
  have HW2 := Lib.hid (ho2.mono HLO.out.2)
  clear CB ho1 ho2 HDB HDA
  have hbV := Lib.hid (hb.alloc hb.size (.cells #[.bool (decide (p1 < 0)), .slice rz (lenB p1.natAbs) cw, .bool (decide (q1 < 0)), .slice uz (lenB q1.natAbs) dz] 27))
  have HKw := Lib.hid (Bxs.new (w1) 27 [.bool (decide (p1 < 0)), .slice rz (lenB p1.natAbs) cw, .bool (decide (q1 < 0)), .slice uz (lenB q1.natAbs) dz])
  go_upto_region 8 with (fail)
  obtain ⟨W, hW⟩ : ∃ W, W = w1.alloc (.cells #[.bool (decide (p1 < 0)), .slice rz (lenB p1.natAbs) cw, .bool (decide (q1 < 0)), .slice uz (lenB q1.natAbs) dz] 27) := ⟨_, rfl⟩
  have HKw := Lib.hid (show Bxs W (w1.heap.size) 27 [.bool (decide (p1 < 0)), .slice rz (lenB p1.natAbs) cw, .bool (decide (q1 < 0)), .slice uz (lenB q1.natAbs) dz] by have h := HKw.out; rw [hW]; exact h)
  rw [← hW] at hbV
  have HW1 := Lib.hid ((HW1.out).allocd (.cells #[.bool (decide (p1 < 0)), .slice rz (lenB p1.natAbs) cw, .bool (decide (q1 < 0)), .slice uz (lenB q1.natAbs) dz] 27))
  rw [← hW] at HW1
  have HW2 := Lib.hid ((HW2.out).allocd (.cells #[.bool (decide (p1 < 0)), .slice rz (lenB p1.natAbs) cw, .bool (decide (q1 < 0)), .slice uz (lenB q1.natAbs) dz] 27))
  rw [← hW] at HW2
  rw [show w1.alloc (.cells #[.bool (decide (p1 < 0)), .slice rz (lenB p1.natAbs) cw, .bool (decide (q1 < 0)), .slice uz (lenB q1.natAbs) dz] 27) = W from hW.symm]
  clear hW hb
  obtain ⟨blw, hbz⟩ : ∃ b, b = w1.heap.size := ⟨_, rfl⟩
  rw [← hbz] at HKw ⊢
  clear hbz
  have HB1 := Lib.hid (HB1.out.below hbV.out HB1.out.lt)
  have HB2 := Lib.hid (HB2.out.below hbV.out HB2.out.lt)
  have HKx := Lib.hid (HKx.out.below hbV.out HKx.out.lt)
  have HKy := Lib.hid (HKy.out.below hbV.out HKy.out.lt)
  have HKc := Lib.hid (HKc.out.below hbV.out HKc.out.lt)
  have HKd := Lib.hid (HKd.out.below hbV.out HKd.out.lt)
  have HTx := Lib.hid (HTx.out.below hbV.out)
  have HTy := Lib.hid (HTy.out.below hbV.out)
  have HG := Lib.hid (HG.out.trans (hbV.out.mono HG.out.size))
  have HLO := Lib.hid (And.intro HLO.out.1 (Nat.le_trans HLO.out.2 hbV.out.size))
  have HA := Lib.hid (HA.out.below hbV.out)
  clear hbV
  obtain ⟨V, rfl⟩ : ∃ V, V = W := ⟨_, rfl⟩
  obtain ⟨p2, hp2⟩ : ∃ p, p = z := ⟨_, rfl⟩
  obtain ⟨q2, hq2⟩ : ∃ q : Int, q = 1 := ⟨_, rfl⟩
  have HL2 := Lib.hid (show lenB p2.natAbs ≤ 1000 ∧ lenB q2.natAbs ≤ 1000 by
    rw [hp2, hq2]
    exact ⟨lenB_le (Nat.lt_of_lt_of_le (show z.natAbs < pw 3 by have := HZ.out; rw [pw_succ, pw_succ, pw_succ, pw_zero]; omega) (pw_le (by omega))), lenB_le (Nat.lt_of_lt_of_le (show Int.natAbs 1 < pw 1 by rw [pw_succ, pw_zero]; decide) (pw_le (by omega)))⟩)
  have CO := Lib.hid (fun (w' : World) => fof_any z w' HZ.out.1 HZ.out.2)
  have CR := Lib.hid (fun (w' : World) => rfof_any z w' HZ.out.1 HZ.out.2)
  have HE2 := Lib.hid (And.intro hp2 hq2)
  have CO := Lib.hid (show ∀ w', Calls Tryz.prog 8 #[.int .i64 z] w' (FracR w' p2 q2) from fun w' => by rw [HE2.out.1, HE2.out.2]; exact CO.out w')
  have CR := Lib.hid (show ∀ w', Calls Tryz.prog 10 #[.int .i64 z] w' (FracF w' p2 q2) from fun w' => by rw [HE2.out.1, HE2.out.2]; exact CR.out w')
  unfold FracF at CR
  clear hp2 hq2 HE2
  go_wp2_with fail
  with_reducible refine (CO.out V).mono ?_
  rintro e w1 ⟨ro, uo, rfl, ho1, ho2, hap, hb⟩
  have hA1 := HA.out.more2 HLO.out.2 hb (x := ⟨0, decide (p2 < 0), ro, lenB p2.natAbs, lenB p2.natAbs, dgi p2.natAbs⟩) (y := ⟨0, decide (q2 < 0), uo, lenB q2.natAbs, lenB q2.natAbs, dgi q2.natAbs⟩) ho1 ho2 hap
  have HA := Lib.hid (hA1.below ((Below.refl _ _).alloc (Nat.le_refl _) (.cells #[.bool (decide (p2 < 0)), .slice ro (lenB p2.natAbs) (lenB p2.natAbs), .bool (decide (q2 < 0)), .slice uo (lenB q2.natAbs) (lenB q2.natAbs)] 27)))
  clear hA1
  simp only [List.nil_append, List.cons_append] at HA
  clear CO ho1 ho2 hap
  have hbV := Lib.hid (hb.alloc hb.size (.cells #[.bool (decide (p2 < 0)), .slice ro (lenB p2.natAbs) (lenB p2.natAbs), .bool (decide (q2 < 0)), .slice uo (lenB q2.natAbs) (lenB q2.natAbs)] 27))
  have HKo := Lib.hid (Bxs.new (w1) 27 [.bool (decide (p2 < 0)), .slice ro (lenB p2.natAbs) (lenB p2.natAbs), .bool (decide (q2 < 0)), .slice uo (lenB q2.natAbs) (lenB q2.natAbs)])
  go_upto_region 9 with (fail)
  obtain ⟨W, hW⟩ : ∃ W, W = w1.alloc (.cells #[.bool (decide (p2 < 0)), .slice ro (lenB p2.natAbs) (lenB p2.natAbs), .bool (decide (q2 < 0)), .slice uo (lenB q2.natAbs) (lenB q2.natAbs)] 27) := ⟨_, rfl⟩
  have HKo := Lib.hid (show Bxs W (w1.heap.size) 27 [.bool (decide (p2 < 0)), .slice ro (lenB p2.natAbs) (lenB p2.natAbs), .bool (decide (q2 < 0)), .slice uo (lenB q2.natAbs) (lenB q2.natAbs)] by have h := HKo.out; rw [hW]; exact h)
  rw [← hW] at hbV HA
  rw [show w1.alloc (.cells #[.bool (decide (p2 < 0)), .slice ro (lenB p2.natAbs) (lenB p2.natAbs), .bool (decide (q2 < 0)), .slice uo (lenB q2.natAbs) (lenB q2.natAbs)] 27) = W from hW.symm]
  clear hW hb
  obtain ⟨blo, hbz⟩ : ∃ b, b = w1.heap.size := ⟨_, rfl⟩
  rw [← hbz] at HKo ⊢
  clear hbz
  have HB1 := Lib.hid (HB1.out.below hbV.out HB1.out.lt)
  have HB2 := Lib.hid (HB2.out.below hbV.out HB2.out.lt)
  have HKx := Lib.hid (HKx.out.below hbV.out HKx.out.lt)
  have HKy := Lib.hid (HKy.out.below hbV.out HKy.out.lt)
  have HKc := Lib.hid (HKc.out.below hbV.out HKc.out.lt)
  have HKd := Lib.hid (HKd.out.below hbV.out HKd.out.lt)
  have HKw := Lib.hid (HKw.out.below hbV.out HKw.out.lt)
  have HTx := Lib.hid (HTx.out.below hbV.out)
  have HTy := Lib.hid (HTy.out.below hbV.out)
  have HW1 := Lib.hid (HW1.out.below hbV.out)
  have HW2 := Lib.hid (HW2.out.below hbV.out)
  have HG := Lib.hid (HG.out.trans (hbV.out.mono HG.out.size))
  have HLO := Lib.hid (And.intro HLO.out.1 (Nat.le_trans HLO.out.2 hbV.out.size))
  clear hbV
  obtain ⟨V, rfl⟩ : ∃ V, V = W := ⟨_, rfl⟩
  have RA := Lib.hid (fun (w' : World) (hb : Below V.heap.size V w') => And.intro (HR.out.1.below (HG.out.trans (hb.mono HG.out.size))) (HR.out.2.below (HG.out.trans (hb.mono HG.out.size))))
  have G0 := Lib.hid (fun (w' : World) (hb : Below V.heap.size V w') => ((HA.out.get (i := 0) rfl).below hb).rd)
  have G1 := Lib.hid (fun (w' : World) (hb : Below V.heap.size V w') => ((HA.out.get (i := 1) rfl).below hb).rd)
  have G2 := Lib.hid (fun (w' : World) (hb : Below V.heap.size V w') => ((HA.out.get (i := 2) rfl).below hb).rd)
  have G3 := Lib.hid (fun (w' : World) (hb : Below V.heap.size V w') => ((HA.out.get (i := 3) rfl).below hb).rd)
  have G4 := Lib.hid (fun (w' : World) (hb : Below V.heap.size V w') => ((HA.out.get (i := 4) rfl).below hb).rd)
  have G5 := Lib.hid (fun (w' : World) (hb : Below V.heap.size V w') => ((HA.out.get (i := 5) rfl).below hb).rd)
  have G6 := Lib.hid (fun (w' : World) (hb : Below V.heap.size V w') => ((HA.out.get (i := 6) rfl).below hb).rd)
  have G7 := Lib.hid (fun (w' : World) (hb : Below V.heap.size V w') => ((HA.out.get (i := 7) rfl).below hb).rd)
  have SM1 := Lib.hid (fun (w' : World) (hb : Below V.heap.size V w') => sameFrac_any (decide (p1 < 0)) rc rz (lenB p1.natAbs) (lenB p1.natAbs) cw (dgi p1.natAbs) (decide (q1 < 0)) uc uz (lenB q1.natAbs) (lenB q1.natAbs) dz (dgi q1.natAbs) w' (G2.out w' hb) (HW1.out.below hb).rd (by have := HL1.out; omega) (G3.out w' hb) (HW2.out.below hb).rd (by have := HL1.out; omega))
  have SM2 := Lib.hid (fun (w' : World) (hb : Below V.heap.size V w') => sameFrac_any (decide (p1 < 0)) rd rz (lenB p1.natAbs) (lenB p1.natAbs) cw (dgi p1.natAbs) (decide (q1 < 0)) ud uz (lenB q1.natAbs) (lenB q1.natAbs) dz (dgi q1.natAbs) w' (G4.out w' hb) (HW1.out.below hb).rd (by have := HL1.out; omega) (G5.out w' hb) (HW2.out.below hb).rd (by have := HL1.out; omega))
  have SM3 := Lib.hid (fun (w' : World) (hb : Below V.heap.size V w') (x : Option Addr × Nat × Option Addr × Nat) (hx : FracJ w' (lenB p2.natAbs) (dgi p2.natAbs) (lenB q2.natAbs) (dgi q2.natAbs) x) => sameFrac_any (decide (p2 < 0)) ro x.1 (lenB p2.natAbs) (lenB p2.natAbs) x.2.1 (dgi p2.natAbs) (decide (q2 < 0)) uo x.2.2.1 (lenB q2.natAbs) (lenB q2.natAbs) x.2.2.2 (dgi q2.natAbs) w' (G6.out w' hb) hx.r1 (by have := HL2.out; omega) (G7.out w' hb) hx.r2 (by have := HL2.out; omega))
  have LFX := Lib.hid (fun (w' : World) (hb : Below V.heap.size V w') => leftNum_any s1 gx a1 n1 c1 o1 w' (HTx.out.below hb).rd (RA.out w' hb).1 (by omega))
  have LFY := Lib.hid (fun (w' : World) (hb : Below V.heap.size V w') => leftNum_any s2 gy a2 n2 c2 o2 w' (HTy.out.below hb).rd (RA.out w' hb).2 (by omega))
  have CR := Lib.hid (fun (w' : World) (hb : Below V.heap.size V w') => CR.out w')
  clear RA G0 G1 G2 G3 G4 G5 G6 G7 HTx HTy HW1 HW2 HR HC
  generalize decide (p1 < 0) = s1' at *
  generalize decide (q1 < 0) = t1' at *
  generalize lenB p1.natAbs = l1' at *
  generalize lenB q1.natAbs = m1' at *
  generalize dgi p1.natAbs = d1' at *
  generalize dgi q1.natAbs = e1' at *
  generalize decide (p2 < 0) = s2' at *
  generalize decide (q2 < 0) = t2' at *
  generalize lenB p2.natAbs = l2' at *
  generalize lenB q2.natAbs = m2' at *
  generalize dgi p2.natAbs = d2' at *
  generalize dgi q2.natAbs = e2' at *
  refine wp_region_fresh 33 (spOf [(2, Sp.know (.bool true)), (7, Sp.know (.bool true)), (18, Sp.made (fun x : Option Addr × Nat × Option Addr × Nat => fracV s2' x.1 l2' x.2.1 t2' x.2.2.1 m2' x.2.2.2) (fun x w' => FracJ w' l2' d2' m2' e2' x)), (19, Sp.know (.bool true)), (25, Sp.know (.bool true)), (31, Sp.know (.bool true))])
    (fun w' => Below V.heap.size V w') (by kernel_rfl) (by kernel_rfl)
    (spOf_cons (Sp.know_keeps _) (spOf_cons (Sp.know_keeps _) (spOf_cons (Sp.made_keeps fun x w w' h hb => h.below hb) (spOf_cons (Sp.know_keeps _) (spOf_cons (Sp.know_keeps _) (spOf_cons (Sp.know_keeps _) (spOf_nil))))))) (fun _ _ h hb => h.trans (hb.mono h.size)) ((Below.refl _ _).drew) ?_
  simp only [List.take_succ_cons, List.take_zero, List.drop_succ_cons, List.drop_zero]
  refine wpF_reads rfl rfl ?_ (fun w' hw' => ?_) ?_
  rotate_left
  · have hb' := hw'.world
    have hB := HKc.out.below hb' HKc.out.lt; have hs0 := hB.cell (i := 0) rfl; have hs1 := hB.cell (i := 1) rfl; have hs2 := hB.cell (i := 2) rfl; have hs3 := hB.cell (i := 3) rfl; have hsf := hB.fz; have hsl := hB.lt; clear hB
    clear hw'
    go_simp
    try rfl
  conv => arg 9; simp only [Act.put, List.setIfInBounds_toArray, List.set_cons_succ, List.set_cons_zero]
  refine wpF_reads rfl rfl ?_ (fun w' hw' => ?_) ?_
  rotate_left
  · have hb' := hw'.world
    have hB := HKw.out.below hb' HKw.out.lt; have hs0 := hB.cell (i := 0) rfl; have hs1 := hB.cell (i := 1) rfl; have hs2 := hB.cell (i := 2) rfl; have hs3 := hB.cell (i := 3) rfl; have hsf := hB.fz; have hsl := hB.lt; clear hB
    clear hw'
    go_simp
    try rfl
  conv => arg 9; simp only [Act.put, List.setIfInBounds_toArray, List.set_cons_succ, List.set_cons_zero]
  refine wpF_spec rfl rfl (fun w' hw' => ?_) ?_
  · have hb' := hw'.world
    go_simp
    refine (SM1.out w' hb').mono ?_
    rintro e w'' ⟨rfl, hb⟩
    exact ⟨_, rfl, rfl, hb⟩
  rintro _ rfl
  conv => arg 9; simp only [Act.put, List.setIfInBounds_toArray, List.set_cons_succ, List.set_cons_zero]
  refine wpF_reads rfl rfl ?_ (fun w' hw' => ?_) ?_
  rotate_left
  · have hb' := hw'.world
    skip
    clear hw'
    go_simp
    try rfl
  conv => arg 9; simp only [Act.put, List.setIfInBounds_toArray, List.set_cons_succ, List.set_cons_zero]
  refine wpF_reads rfl rfl ?_ (fun w' hw' => ?_) ?_
  rotate_left
  · have hb' := hw'.world
    skip
    clear hw'
    go_simp
    try rfl
  conv => arg 9; simp only [Act.put, List.setIfInBounds_toArray, List.set_cons_succ, List.set_cons_zero]
  refine wpF_readsG (by rfl) rfl ?_ (fun w' hw' => ?_) ?_
  rotate_left
  · have hb' := hw'.world
    have hB := HKd.out.below hb' HKd.out.lt; have hs0 := hB.cell (i := 0) rfl; have hs1 := hB.cell (i := 1) rfl; have hs2 := hB.cell (i := 2) rfl; have hs3 := hB.cell (i := 3) rfl; have hsf := hB.fz; have hsl := hB.lt; clear hB
    clear hw'
    go_simp
    try rfl
  conv => arg 9; simp only [Act.put, List.setIfInBounds_toArray, List.set_cons_succ, List.set_cons_zero]
  refine wpF_readsG (by rfl) rfl ?_ (fun w' hw' => ?_) ?_
  rotate_left
  · have hb' := hw'.world
    have hB := HKw.out.below hb' HKw.out.lt; have hs0 := hB.cell (i := 0) rfl; have hs1 := hB.cell (i := 1) rfl; have hs2 := hB.cell (i := 2) rfl; have hs3 := hB.cell (i := 3) rfl; have hsf := hB.fz; have hsl := hB.lt; clear hB
    clear hw'
    go_simp
    try rfl
  conv => arg 9; simp only [Act.put, List.setIfInBounds_toArray, List.set_cons_succ, List.set_cons_zero]
  refine wpF_specG (by rfl) rfl (fun w' hw' => ?_) ?_
  · have hb' := hw'.world
    go_simp
    refine (SM2.out w' hb').mono ?_
    rintro e w'' ⟨rfl, hb⟩
    exact ⟨_, rfl, rfl, hb⟩
  rintro _ rfl
  conv => arg 9; simp only [Act.put, List.setIfInBounds_toArray, List.set_cons_succ, List.set_cons_zero]
  refine wpF_readsG (by rfl) rfl ?_ (fun w' hw' => ?_) ?_
  rotate_left
  · have hb' := hw'.world
    skip
    clear hw'
    go_simp
    try rfl
  conv => arg 9; simp only [Act.put, List.setIfInBounds_toArray, List.set_cons_succ, List.set_cons_zero]
  refine wpF_reads rfl rfl ?_ (fun w' hw' => ?_) ?_
  rotate_left
  · have hb' := hw'.world
    skip
    clear hw'
    go_simp
    try rfl
  conv => arg 9; simp only [Act.put, List.setIfInBounds_toArray, List.set_cons_succ, List.set_cons_zero]
  refine wpF_reads rfl rfl ?_ (fun w' hw' => ?_) ?_
  rotate_left
  · have hb' := hw'.world
    skip
    clear hw'
    go_simp
    try rfl
  conv => arg 9; simp only [Act.put, List.setIfInBounds_toArray, List.set_cons_succ, List.set_cons_zero]
  refine wpF_readsG (by rfl) rfl ?_ (fun w' hw' => ?_) ?_
  rotate_left
  · have hb' := hw'.world
    skip
    clear hw'
    go_simp
    try rfl
  conv => arg 9; simp only [Act.put, List.setIfInBounds_toArray, List.set_cons_succ, List.set_cons_zero]
  refine wpF_readsG (by rfl) rfl ?_ (fun w' hw' => ?_) ?_
  rotate_left
  · have hb' := hw'.world
    skip
    clear hw'
    go_simp
    try rfl
  conv => arg 9; simp only [Act.put, List.setIfInBounds_toArray, List.set_cons_succ, List.set_cons_zero]
  refine wpF_readsG (by rfl) rfl ?_ (fun w' hw' => ?_) ?_
  rotate_left
  · have hb' := hw'.world
    skip
    clear hw'
    go_simp
    try rfl
  conv => arg 9; simp only [Act.put, List.setIfInBounds_toArray, List.set_cons_succ, List.set_cons_zero]
  refine wpF_reads rfl rfl ?_ (fun w' hw' => ?_) ?_
  rotate_left
  · have hb' := hw'.world
    skip
    clear hw'
    go_simp
    try rfl
  conv => arg 9; simp only [Act.put, List.setIfInBounds_toArray, List.set_cons_succ, List.set_cons_zero]
  refine wpF_reads rfl rfl ?_ (fun w' hw' => ?_) ?_
  rotate_left
  · have hb' := hw'.world
    skip
    clear hw'
    go_simp
    try rfl
  conv => arg 9; simp only [Act.put, List.setIfInBounds_toArray, List.set_cons_succ, List.set_cons_zero]
  refine wpF_readsG (by rfl) rfl ?_ (fun w' hw' => ?_) ?_
  rotate_left
  · have hb' := hw'.world
    have hB := HKo.out.below hb' HKo.out.lt; have hs0 := hB.cell (i := 0) rfl; have hs1 := hB.cell (i := 1) rfl; have hs2 := hB.cell (i := 2) rfl; have hs3 := hB.cell (i := 3) rfl; have hsf := hB.fz; have hsl := hB.lt; clear hB
    clear hw'
    go_simp
    try rfl
  conv => arg 9; simp only [Act.put, List.setIfInBounds_toArray, List.set_cons_succ, List.set_cons_zero]
  refine wpF_readsG (by rfl) rfl ?_ (fun w' hw' => ?_) ?_
  rotate_left
  · have hb' := hw'.world
    skip
    clear hw'
    go_simp
    try rfl
  conv => arg 9; simp only [Act.put, List.setIfInBounds_toArray, List.set_cons_succ, List.set_cons_zero]
  refine wpF_specG (by rfl) rfl (fun w' hw' => ?_) ?_
  · have hb' := hw'.world
    go_simp
    refine (CR.out w' hb').mono ?_
    rintro e w'' ⟨za, zb, zc, zd, rfl, h1, h2, hb⟩
    exact ⟨_, rfl, ⟨⟨za, zb, zc, zd, rfl⟩, ⟨za, zb, zc, zd, rfl, ⟨h1.rd, h2.rd⟩⟩⟩, hb⟩
  rintro _ ⟨x, rfl⟩
  conv => arg 9; simp only [Act.put, List.setIfInBounds_toArray, List.set_cons_succ, List.set_cons_zero]
  refine wpF_specG (by rfl) rfl (fun w' hw' => ?_) ?_
  · have hb' := hw'.world
    go_simp
    have h7 := fracJ_of (hw'.fact 18 (by kernel_rfl))
    refine (SM3.out w' hb' x h7).mono ?_
    rintro e w'' ⟨rfl, hb⟩
    exact ⟨_, rfl, rfl, hb⟩
  rintro _ rfl
  conv => arg 9; simp only [Act.put, List.setIfInBounds_toArray, List.set_cons_succ, List.set_cons_zero]
  refine wpF_readsG (by rfl) rfl ?_ (fun w' hw' => ?_) ?_
  rotate_left
  · have hb' := hw'.world
    skip
    clear hw'
    go_simp
    try rfl
  conv => arg 9; simp only [Act.put, List.setIfInBounds_toArray, List.set_cons_succ, List.set_cons_zero]
  refine wpF_reads rfl rfl ?_ (fun w' hw' => ?_) ?_
  rotate_left
  · have hb' := hw'.world
    skip
    clear hw'
    go_simp
    try rfl
  conv => arg 9; simp only [Act.put, List.setIfInBounds_toArray, List.set_cons_succ, List.set_cons_zero]
  refine wpF_reads rfl rfl ?_ (fun w' hw' => ?_) ?_
  rotate_left
  · have hb' := hw'.world
    skip
    clear hw'
    go_simp
    try rfl
  conv => arg 9; simp only [Act.put, List.setIfInBounds_toArray, List.set_cons_succ, List.set_cons_zero]
  refine wpF_readsG (by rfl) rfl ?_ (fun w' hw' => ?_) ?_
  rotate_left
  · have hb' := hw'.world
    have hB := HKx.out.below hb' HKx.out.lt; have hs0 := hB.cell (i := 0) rfl; have hs1 := hB.cell (i := 1) rfl; have hsf := hB.fz; have hsl := hB.lt; clear hB
    clear hw'
    go_simp
    try rfl
  conv => arg 9; simp only [Act.put, List.setIfInBounds_toArray, List.set_cons_succ, List.set_cons_zero]
  refine wpF_readsG (by rfl) rfl ?_ (fun w' hw' => ?_) ?_
  rotate_left
  · have hb' := hw'.world
    have hB := HB1.out.below hb' HB1.out.lt; have hs0 := hB.cell (i := 0) rfl; have hs1 := hB.cell (i := 1) rfl; have hsf := hB.fz; have hsl := hB.lt; clear hB
    clear hw'
    go_simp
    try rfl
  conv => arg 9; simp only [Act.put, List.setIfInBounds_toArray, List.set_cons_succ, List.set_cons_zero]
  refine wpF_specG (by rfl) rfl (fun w' hw' => ?_) ?_
  · have hb' := hw'.world
    go_simp
    refine (LFX.out w' hb').mono ?_
    rintro e w'' ⟨rfl, hb⟩
    exact ⟨_, rfl, rfl, hb⟩
  rintro _ rfl
  conv => arg 9; simp only [Act.put, List.setIfInBounds_toArray, List.set_cons_succ, List.set_cons_zero]
  refine wpF_readsG (by rfl) rfl ?_ (fun w' hw' => ?_) ?_
  rotate_left
  · have hb' := hw'.world
    skip
    clear hw'
    go_simp
    try rfl
  conv => arg 9; simp only [Act.put, List.setIfInBounds_toArray, List.set_cons_succ, List.set_cons_zero]
  refine wpF_reads rfl rfl ?_ (fun w' hw' => ?_) ?_
  rotate_left
  · have hb' := hw'.world
    skip
    clear hw'
    go_simp
    try rfl
  conv => arg 9; simp only [Act.put, List.setIfInBounds_toArray, List.set_cons_succ, List.set_cons_zero]
  refine wpF_reads rfl rfl ?_ (fun w' hw' => ?_) ?_
  rotate_left
  · have hb' := hw'.world
    skip
    clear hw'
    go_simp
    try rfl
  conv => arg 9; simp only [Act.put, List.setIfInBounds_toArray, List.set_cons_succ, List.set_cons_zero]
  refine wpF_readsG (by rfl) rfl ?_ (fun w' hw' => ?_) ?_
  rotate_left
  · have hb' := hw'.world
    have hB := HKy.out.below hb' HKy.out.lt; have hs0 := hB.cell (i := 0) rfl; have hs1 := hB.cell (i := 1) rfl; have hsf := hB.fz; have hsl := hB.lt; clear hB
    clear hw'
    go_simp
    try rfl
  conv => arg 9; simp only [Act.put, List.setIfInBounds_toArray, List.set_cons_succ, List.set_cons_zero]
  refine wpF_readsG (by rfl) rfl ?_ (fun w' hw' => ?_) ?_
  rotate_left
  · have hb' := hw'.world
    have hB := HB2.out.below hb' HB2.out.lt; have hs0 := hB.cell (i := 0) rfl; have hs1 := hB.cell (i := 1) rfl; have hsf := hB.fz; have hsl := hB.lt; clear hB
    clear hw'
    go_simp
    try rfl
  conv => arg 9; simp only [Act.put, List.setIfInBounds_toArray, List.set_cons_succ, List.set_cons_zero]
  refine wpF_specG (by rfl) rfl (fun w' hw' => ?_) ?_
  · have hb' := hw'.world
    go_simp
    refine (LFY.out w' hb').mono ?_
    rintro e w'' ⟨rfl, hb⟩
    exact ⟨_, rfl, rfl, hb⟩
  rintro _ rfl
  conv => arg 9; simp only [Act.put, List.setIfInBounds_toArray, List.set_cons_succ, List.set_cons_zero]
  refine wpF_readsG (by rfl) rfl ?_ (fun w' hw' => ?_) ?_
  rotate_left
  · have hb' := hw'.world
    skip
    clear hw'
    go_simp
    try rfl
  conv => arg 9; simp only [Act.put, List.setIfInBounds_toArray, List.set_cons_succ, List.set_cons_zero]
  refine wpF_nil (fun w5 hb5 hF5 => ?_)
  have HA := Lib.hid (HA.out.below hb5)
  have HG := Lib.hid (HG.out.trans (hb5.mono HG.out.size))
  have HLO := Lib.hid (And.intro HLO.out.1 (Nat.le_trans HLO.out.2 hb5.size))
  have HKx := Lib.hid (HKx.out.below hb5 HKx.out.lt)
  have HKy := Lib.hid (HKy.out.below hb5 HKy.out.lt)
  have HKc := Lib.hid (HKc.out.below hb5 HKc.out.lt)
  have HKd := Lib.hid (HKd.out.below hb5 HKd.out.lt)
  have HKo := Lib.hid (HKo.out.below hb5 HKo.out.lt)
  clear hF5 hb5 CR SM1 SM2 SM3 LFX LFY HB1 HB2 HKw
  go_upto_region 12 with (fail)
  obtain ⟨W, hW⟩ : ∃ W, W = w5.alloc (.cells #[.int .i64 0, .slice none 0 0, .slice none 0 0, .slice none 0 0, .slice none 0 0, .slice none 0 0, .slice none 0 0, .slice none 0 0, .slice none 0 0, .slice none 0 0, .slice none 0 0, .slice none 0 0, .slice none 0 0] 47) := ⟨_, rfl⟩
  have HK := Lib.hid (book_nw w5)
  have HW := Lib.hid (show Below w5.heap.size w5 (w5.alloc (.cells #[.int .i64 0, .slice none 0 0, .slice none 0 0, .slice none 0 0, .slice none 0 0, .slice none 0 0, .slice none 0 0, .slice none 0 0, .slice none 0 0, .slice none 0 0, .slice none 0 0, .slice none 0 0, .slice none 0 0] 47)) from (Below.refl _ _).alloc (Nat.le_refl _) _)
  rw [← hW] at HK HW
  rw [show w5.alloc (.cells #[.int .i64 0, .slice none 0 0, .slice none 0 0, .slice none 0 0, .slice none 0 0, .slice none 0 0, .slice none 0 0, .slice none 0 0, .slice none 0 0, .slice none 0 0, .slice none 0 0, .slice none 0 0, .slice none 0 0] 47) = W from hW.symm]
  clear hW
  obtain ⟨B, hB⟩ : ∃ B, B = w5.heap.size := ⟨_, rfl⟩
  rw [← hB] at HK HW
  rw [← hB]
  have HBe := Lib.hid hB
  clear hB
  have hbz : B ≤ W.heap.size := Nat.le_trans (by rw [HBe.out]; exact Nat.le_refl _) HW.out.size
  have hBX := HKx.out.below (by rw [← HBe.out]; exact HW.out) HKx.out.lt
  have x0 := hBX.cell (i := 0) rfl
  have x1 := hBX.cell (i := 1) rfl
  have x4 := hBX.fz
  have x5 := hBX.lt
  have NM := Lib.hid (Book.num_any B B 0 _ _ s1 (some ⟨gx, 0, none⟩) n1 (n1 + 1) W (by omega) HK.out hbz)
  clear hBX
  go_wp2_with fail
  with_reducible refine NM.out.mono ?_
  rintro e W' hk
  obtain ⟨⟨u, rfl⟩, v', hk1, hk2⟩ := kept_nxt hk HK.out hbz
  have HK := Lib.hid hk1
  have HW := Lib.hid (HW.out.trans hk2)
  clear hk1 hk2 NM x0 x1 x4 x5 hbz hk
  obtain ⟨W, rfl⟩ : ∃ W, W = W' := ⟨_, rfl⟩
  have hbz : B ≤ W.heap.size := Nat.le_trans (by rw [HBe.out]; exact Nat.le_refl _) HW.out.size
  have hBX := HKy.out.below (by rw [← HBe.out]; exact HW.out) HKy.out.lt
  have x0 := hBX.cell (i := 0) rfl
  have x1 := hBX.cell (i := 1) rfl
  have x4 := hBX.fz
  have x5 := hBX.lt
  have NM := Lib.hid (Book.num_any B B 1 _ _ s2 (some ⟨gy, 0, none⟩) n2 (n2 + 1) W (by omega) HK.out hbz)
  clear hBX
  go_wp2_with fail
  with_reducible refine NM.out.mono ?_
  rintro e W' hk
  obtain ⟨⟨u, rfl⟩, v', hk1, hk2⟩ := kept_nxt hk HK.out hbz
  have HK := Lib.hid hk1
  have HW := Lib.hid (HW.out.trans hk2)
  clear hk1 hk2 NM x0 x1 x4 x5 hbz hk
  obtain ⟨W, rfl⟩ : ∃ W, W = W' := ⟨_, rfl⟩
  have hbz : B ≤ W.heap.size := Nat.le_trans (by rw [HBe.out]; exact Nat.le_refl _) HW.out.size
  have hBX := HKc.out.below (by rw [← HBe.out]; exact HW.out) HKc.out.lt
  have x0 := hBX.cell (i := 0) rfl
  have x1 := hBX.cell (i := 1) rfl
  have x2 := hBX.cell (i := 2) rfl
  have x3 := hBX.cell (i := 3) rfl
  have x4 := hBX.fz
  have x5 := hBX.lt
  have NM := Lib.hid (bookFrac_any B 2 _ _ s1' rc l1' l1' t1' uc m1' m1' W (by omega) HK.out hbz)
  clear hBX
  go_wp2_with fail
  with_reducible refine NM.out.mono ?_
  rintro e W' hk
  obtain ⟨⟨u, rfl⟩, v', hk1, hk2⟩ := hk
  have HK := Lib.hid hk1
  have HW := Lib.hid (HW.out.trans hk2)
  clear hk1 hk2 NM x0 x1 x2 x3 x4 x5 hbz
  obtain ⟨W, rfl⟩ : ∃ W, W = W' := ⟨_, rfl⟩
  have hbz : B ≤ W.heap.size := Nat.le_trans (by rw [HBe.out]; exact Nat.le_refl _) HW.out.size
  have hBX := HKd.out.below (by rw [← HBe.out]; exact HW.out) HKd.out.lt
  have x0 := hBX.cell (i := 0) rfl
  have x1 := hBX.cell (i := 1) rfl
  have x2 := hBX.cell (i := 2) rfl
  have x3 := hBX.cell (i := 3) rfl
  have x4 := hBX.fz
  have x5 := hBX.lt
  have NM := Lib.hid (bookFrac_any B 4 _ _ s1' rd l1' l1' t1' ud m1' m1' W (by omega) HK.out hbz)
  clear hBX
  go_wp2_with fail
  with_reducible refine NM.out.mono ?_
  rintro e W' hk
  obtain ⟨⟨u, rfl⟩, v', hk1, hk2⟩ := hk
  have HK := Lib.hid hk1
  have HW := Lib.hid (HW.out.trans hk2)
  clear hk1 hk2 NM x0 x1 x2 x3 x4 x5 hbz
  obtain ⟨W, rfl⟩ : ∃ W, W = W' := ⟨_, rfl⟩
  have hbz : B ≤ W.heap.size := Nat.le_trans (by rw [HBe.out]; exact Nat.le_refl _) HW.out.size
  have hBX := HKo.out.below (by rw [← HBe.out]; exact HW.out) HKo.out.lt
  have x0 := hBX.cell (i := 0) rfl
  have x1 := hBX.cell (i := 1) rfl
  have x2 := hBX.cell (i := 2) rfl
  have x3 := hBX.cell (i := 3) rfl
  have x4 := hBX.fz
  have x5 := hBX.lt
  have NM := Lib.hid (bookFrac_any B 6 _ _ s2' ro l2' l2' t2' uo m2' m2' W (by omega) HK.out hbz)
  clear hBX
  go_wp2_with fail
  with_reducible refine NM.out.mono ?_
  rintro e W' hk
  obtain ⟨⟨u, rfl⟩, v', hk1, hk2⟩ := hk
  have HK := Lib.hid hk1
  have HW := Lib.hid (HW.out.trans hk2)
  clear hk1 hk2 NM x0 x1 x2 x3 x4 x5 hbz
  obtain ⟨W, rfl⟩ : ∃ W, W = W' := ⟨_, rfl⟩
  have AP := Lib.hid (apart_own (w0 := w) HA.out HBe.out.symm HW.out HK.out rfl (Nat.zero_lt_succ 7) (show 8 ≤ 1000 by omega) (by
    intro x hx
    simp only [List.mem_cons, List.mem_nil_iff, or_false] at hx
    have h1 := HL1.out
    have h2 := HL2.out
    rcases hx with rfl | rfl | rfl | rfl | rfl | rfl | rfl | rfl <;> dsimp only <;> omega) HLO.out.1 (by rw [HBe.out]; exact HLO.out.2) (HG.out.trans (HW.out.mono (by rw [HBe.out]; exact HG.out.size))) (Nat.le_trans (Nat.le_trans HG.out.size (by rw [← HBe.out]; exact Nat.le_refl _)) (Nat.le_trans (by rw [HBe.out]; exact Nat.le_refl _) HW.out.size)))
  go_wp2_with fail
  with_reducible refine AP.out.mono ?_
  rintro e W' ⟨rfl, hb⟩
  have HF := Lib.hid hb
  clear hb AP
  go_wp2_with fail
  go_ret
  exact ⟨rfl, HF.out⟩
end Go.Proofs.YtaagegcidbgjmaaGreatDoor.Limb
