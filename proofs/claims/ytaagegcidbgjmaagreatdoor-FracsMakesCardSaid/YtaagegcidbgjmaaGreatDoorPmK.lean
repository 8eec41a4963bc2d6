/-
  The walks of Sign and Cmp of fracs.
  A fraction in its own numbers is worth itself; the closure of Mul.
  Lists that a law has made, no two in one block, and a Book of them; a Book's Frac.
  The walk of Mul of fracs.
  The walk of Div of fracs.
  The document's answer for fracs: one, Check, Of, Fit.
-/
import Derived.Test.YtaagegcidbgjmaaGreatDoorPmJ
namespace Go.Proofs.YtaagegcidbgjmaaGreatDoor.Limb
open Go.RowKit Go.Sort Go.Fresh

theorem field_frac (s1 : Bool) (a1 : Option Addr) (n1 c1 : Nat) (s2 : Bool) (a2 : Option Addr) (n2 c2 : Nat) (w : World) : (Instr.field 27 (fracV s1 a1 n1 c1 s2 a2 n2 c2) 0).run Tryz.prog w = .ok (numV s1 a1 n1 c1) w := by kernel_rfl
set_option maxRecDepth 100000 in
set_option maxHeartbeats 1000000 in
theorem fsign_any (s1 : Bool) (a1 : Option Addr) (n1 c1 : Nat) (o1 : Nat → Int) (s2 : Bool) (a2 : Option Addr) (n2 c2 : Nat) (o2 : Nat → Int) (w : World) (x : Rat) (hx : x = valF s1 n1 o1 s2 n2 o2)
    (h1 : Rd w a1 n1 o1) (hn1 : n1 ≤ 1000000) (hc1 : n1 ≤ c1) (h2 : Rd w a2 n2 o2) (hn2 : n2 ≤ 1000000) (hc2 : n2 ≤ c2) :
    Calls Tryz.prog 24 #[fracV s1 a1 n1 c1 s2 a2 n2 c2] w fun e w' => e = .returned (.int .i64 (cmpZ x.num 0)) ∧ Below w.heap.size w w' := by
  have hfar : ∀ {a : Option Addr} {n : Nat} {o : Nat → Int}, Rd w a n o → 0 < n → ∀ p, a = some p → p.block < w.heap.size := fun h h0 p hp => by
    obtain ⟨b, off, e, hc⟩ := h.cells h0
    rw [e] at hp; cases hp
    exact block_lt_of_cell (hc 0 h0)
  have l1 := valF_len (s1 := s1) (s2 := s2) h1.rng h2.rng
  rw [← hx] at l1
  have HL := Lib.hid (show lenB x.num.natAbs ≤ 1000001 by omega)
  have HB1 := Lib.hid (Bxs.new w 27 [.bool s1, .slice a1 n1 c1, .bool s2, .slice a2 n2 c2])
  obtain ⟨W, hW⟩ : ∃ W, W = w.alloc (.cells #[.bool s1, .slice a1 n1 c1, .bool s2, .slice a2 n2 c2] 27) := ⟨_, rfl⟩
  have KG := Lib.hid (show Below w.heap.size w W by rw [hW]; exact (Below.refl _ _).alloc (Nat.le_refl _) _)
  have HB1 := Lib.hid (show Bxs W w.heap.size 27 [.bool s1, .slice a1 n1 c1, .bool s2, .slice a2 n2 c2] by rw [hW]; exact HB1.out)
  have OX := Lib.hid (fof2_any s1 a1 n1 c1 o1 s2 a2 n2 c2 o2 W w.heap.size KG.out.size (h1.below KG.out) (by omega) hc1 (hfar h1) (h2.below KG.out) (by omega) hc2 (hfar h2))
  rw [← hx] at OX
  obtain ⟨p, hp⟩ : ∃ p, p = x.num := ⟨_, rfl⟩
  obtain ⟨q, hq⟩ : ∃ q : Int, q = (x.den : Int) := ⟨_, rfl⟩
  rw [← hp, ← hq] at OX
  rw [← hp] at HL ⊢
  have HW := Lib.hid hW
  clear hW h1 h2 l1 hfar hx hp hq
  go_enter Tryz.func24, Tryz.ntmps24
  go_upto_region 1 with (fail)
  rw [show w.alloc (.cells #[.bool s1, .slice a1 n1 c1, .bool s2, .slice a2 n2 c2] 27) = W from HW.out.symm]
  clear HW
  obtain ⟨x0, x1, x2, x3, x4, x5⟩ := frac_box HB1.out
  go_wp2_with fail
  with_reducible refine OX.out.mono ?_
  intro e w2 hh
  obtain ⟨⟨za, zc, zb, zd⟩, rfl, hi, hb⟩ := fracS_ex hh
  have hff := field_frac (decide (p < 0)) za (lenB p.natAbs) zc (decide (q < 0)) zb (lenB q.natAbs) zd w2
  have SG := Lib.hid (sign_any (decide (p < 0)) za (lenB p.natAbs) zc (dgi p.natAbs) w2 hi.r1.rd (by have := HL.out; omega) hi.c1)
  rw [canon_val] at SG
  have KG := Lib.hid (KG.out.trans (hb.mono KG.out.size))
  clear hh hi hb OX x0 x1 x2 x3 x4 x5 HB1
  go_wp2_with fail
  with_reducible refine SG.out.mono ?_
  rintro e w3 ⟨rfl, hb⟩
  have KG := Lib.hid (KG.out.trans (hb.mono KG.out.size))
  clear hb SG
  go_wp2_with fail
  go_ret
  exact ⟨rfl, KG.out⟩

set_option maxRecDepth 100000 in
set_option maxHeartbeats 4000000 in
theorem fcmp_any (s1 : Bool) (a1 : Option Addr) (n1 c1 : Nat) (o1 : Nat → Int) (s2 : Bool) (a2 : Option Addr) (n2 c2 : Nat) (o2 : Nat → Int) (s3 : Bool) (a3 : Option Addr) (n3 c3 : Nat) (o3 : Nat → Int) (s4 : Bool) (a4 : Option Addr) (n4 c4 : Nat) (o4 : Nat → Int) (w : World) (x y : Rat)
    (hx : x = valF s1 n1 o1 s2 n2 o2) (hy : y = valF s3 n3 o3 s4 n4 o4)
    (h1 : Rd w a1 n1 o1) (hn1 : n1 ≤ 1000000) (hc1 : n1 ≤ c1) (h2 : Rd w a2 n2 o2) (hn2 : n2 ≤ 1000000) (hc2 : n2 ≤ c2) (h3 : Rd w a3 n3 o3) (hn3 : n3 ≤ 1000000) (hc3 : n3 ≤ c3) (h4 : Rd w a4 n4 o4) (hn4 : n4 ≤ 1000000) (hc4 : n4 ≤ c4) :
    Calls Tryz.prog 22 #[fracV s1 a1 n1 c1 s2 a2 n2 c2, fracV s3 a3 n3 c3 s4 a4 n4 c4] w fun e w' => e = .returned (.int .i64 (cmpZ (x.num * (y.den : Int)) (y.num * (x.den : Int)))) ∧ Below w.heap.size w w' := by
  have l1 := valF_len (s1 := s1) (s2 := s2) h1.rng h2.rng
  have l2 := valF_len (s1 := s3) (s2 := s4) h3.rng h4.rng
  rw [← hx] at l1
  rw [← hy] at l2
  have hl1 := lenB_mul_le x.num.natAbs (y.den : Int).natAbs
  have hl2 := lenB_mul_le y.num.natAbs (x.den : Int).natAbs
  rw [← Int.natAbs_mul] at hl1 hl2
  have HL := Lib.hid (show lenB (x.num * (y.den : Int)).natAbs ≤ 4000000 ∧ lenB (y.num * (x.den : Int)).natAbs ≤ 4000000 by omega)
  clear hl1 hl2
  have HB1 := Lib.hid ((Bxs.new w 27 [.bool s1, .slice a1 n1 c1, .bool s2, .slice a2 n2 c2]).alloc (.cells #[.bool s3, .slice a3 n3 c3, .bool s4, .slice a4 n4 c4] 27))
  have HB2 := Lib.hid (Bxs.new (w.alloc (.cells #[.bool s1, .slice a1 n1 c1, .bool s2, .slice a2 n2 c2] 27)) 27 [.bool s3, .slice a3 n3 c3, .bool s4, .slice a4 n4 c4])
  obtain ⟨W, hW⟩ : ∃ W, W = (w.alloc (.cells #[.bool s1, .slice a1 n1 c1, .bool s2, .slice a2 n2 c2] 27)).alloc (.cells #[.bool s3, .slice a3 n3 c3, .bool s4, .slice a4 n4 c4] 27) := ⟨_, rfl⟩
  have KG := Lib.hid (show Below w.heap.size w W by rw [hW]; exact ((Below.refl _ _).alloc (Nat.le_refl _) _).alloc (by go_size) _)
  have hWs : w.heap.size + 2 = W.heap.size := by rw [hW]; simp
  have HB1 := Lib.hid (show Bxs W w.heap.size 27 [.bool s1, .slice a1 n1 c1, .bool s2, .slice a2 n2 c2] by rw [hW]; exact HB1.out)
  have HB2 := Lib.hid (show Bxs W (w.heap.size + 1) 27 [.bool s3, .slice a3 n3 c3, .bool s4, .slice a4 n4 c4] by have h := HB2.out; simp only [World.size_alloc] at h; rw [hW]; exact h)
  have BR := Lib.hid (brought_any s1 a1 n1 c1 o1 s2 a2 n2 c2 o2 s3 a3 n3 c3 o3 s4 a4 n4 c4 o4 W x y hx hy (h1.below KG.out) hn1 hc1 (h2.below KG.out) hn2 hc2 (h3.below KG.out) hn3 hc3 (h4.below KG.out) hn4 hc4)
  obtain ⟨T1, hT1⟩ : ∃ T1, T1 = x.num * (y.den : Int) := ⟨_, rfl⟩
  obtain ⟨T2, hT2⟩ : ∃ T2, T2 = y.num * (x.den : Int) := ⟨_, rfl⟩
  obtain ⟨Lw, hLw⟩ : ∃ Lw, Lw = (x.den : Int) * (y.den : Int) := ⟨_, rfl⟩
  rw [← hT1, ← hT2]
  rw [← hT1, ← hT2, ← hLw] at BR
  rw [← hT1, ← hT2] at HL
  have HW := Lib.hid hW
  have HWS := Lib.hid hWs
  clear hW hWs hT1 hT2 hLw hx hy h1 h2 h3 h4 l1 l2
  go_enter Tryz.func22, Tryz.ntmps22
  go_upto_region 1 with (fail)
  rw [show (w.alloc (.cells #[.bool s1, .slice a1 n1 c1, .bool s2, .slice a2 n2 c2] 27)).alloc (.cells #[.bool s3, .slice a3 n3 c3, .bool s4, .slice a4 n4 c4] 27) = W from HW.out.symm]
  clear HW
  obtain ⟨x0, x1, x2, x3, x4, x5⟩ := frac_box HB1.out
  obtain ⟨y0, y1, y2, y3, y4, y5⟩ := frac_box HB2.out
  go_wp2_with fail
  with_reducible refine BR.out.mono ?_
  rintro e w2 ⟨m1, m2, m3, rfl, O1, O2, O3, hb⟩
  go_upto_region 2 with (fail)
  obtain ⟨V, hV⟩ : ∃ V, V = (w2.alloc (.cells #[.bool (decide (T1 < 0)), .slice m1 (lenB T1.natAbs) (lenB T1.natAbs), .bool (decide (T2 < 0)), .slice m2 (lenB T2.natAbs) (lenB T2.natAbs)] 70)).alloc (.cells #[.bool (decide (Lw < 0)), .slice m3 (lenB Lw.natAbs) (lenB Lw.natAbs)] 24) := ⟨_, rfl⟩
  have M4 := Lib.hid (show Bxs V w2.heap.size 70 [.bool (decide (T1 < 0)), .slice m1 (lenB T1.natAbs) (lenB T1.natAbs), .bool (decide (T2 < 0)), .slice m2 (lenB T2.natAbs) (lenB T2.natAbs)] by rw [hV]; exact (Bxs.new w2 70 [.bool (decide (T1 < 0)), .slice m1 (lenB T1.natAbs) (lenB T1.natAbs), .bool (decide (T2 < 0)), .slice m2 (lenB T2.natAbs) (lenB T2.natAbs)]).alloc _)
  have M5 := Lib.hid (show Bxs V (w2.heap.size + 1) 24 [.bool (decide (Lw < 0)), .slice m3 (lenB Lw.natAbs) (lenB Lw.natAbs)] by have h := Bxs.new (w2.alloc (.cells #[.bool (decide (T1 < 0)), .slice m1 (lenB T1.natAbs) (lenB T1.natAbs), .bool (decide (T2 < 0)), .slice m2 (lenB T2.natAbs) (lenB T2.natAbs)] 70)) 24 [.bool (decide (Lw < 0)), .slice m3 (lenB Lw.natAbs) (lenB Lw.natAbs)]; simp only [World.size_alloc] at h; rw [hV]; exact h)
  have hbV : Below W.heap.size W V := by rw [hV]; exact (hb.alloc hb.size _).alloc (by have := hb.size; go_size) _
  have O1 := Lib.hid (show Own 74 V W.heap.size m1 (lenB T1.natAbs) (lenB T1.natAbs) (dgi T1.natAbs) by rw [hV]; exact (O1.allocd _).allocd _)
  have O2 := Lib.hid (show Own 74 V W.heap.size m2 (lenB T2.natAbs) (lenB T2.natAbs) (dgi T2.natAbs) by rw [hV]; exact (O2.allocd _).allocd _)
  have O3 := Lib.hid (show Own 74 V W.heap.size m3 (lenB Lw.natAbs) (lenB Lw.natAbs) (dgi Lw.natAbs) by rw [hV]; exact (O3.allocd _).allocd _)
  have KG := Lib.hid (KG.out.trans (hbV.mono KG.out.size))
  have KW := Lib.hid hbV.size
  obtain ⟨b4, hb4⟩ : ∃ b, b = w2.heap.size := ⟨_, rfl⟩
  rw [show (w2.alloc (.cells #[.bool (decide (T1 < 0)), .slice m1 (lenB T1.natAbs) (lenB T1.natAbs), .bool (decide (T2 < 0)), .slice m2 (lenB T2.natAbs) (lenB T2.natAbs)] 70)).alloc (.cells #[.bool (decide (Lw < 0)), .slice m3 (lenB Lw.natAbs) (lenB Lw.natAbs)] 24) = V from hV.symm]
  rw [← hb4] at M4 M5 ⊢
  clear hV hbV hb hb4 x0 x1 x2 x3 x4 x5 y0 y1 y2 y3 y4 y5 HB1 HB2 BR
  have HS := Lib.hid (fun (w' : World) (hb : Below V.heap.size V w') => And.intro (M4.out.below hb M4.out.lt) (M5.out.below hb M5.out.lt).bx.all)
  have x0 := M4.out.cell (i := 0) rfl
  have x1 := M4.out.cell (i := 1) rfl
  have x2 := M4.out.cell (i := 2) rfl
  have x3 := M4.out.cell (i := 3) rfl
  have x4 := M4.out.fz
  have x5 := M4.out.lt
  have CM := Lib.hid (cmp_any (decide (T1 < 0)) m1 (lenB T1.natAbs) (lenB T1.natAbs) (dgi T1.natAbs) (decide (T2 < 0)) m2 (lenB T2.natAbs) (lenB T2.natAbs) (dgi T2.natAbs) V O1.out.rd (by have := HL.out; omega) (Nat.le_refl _) O2.out.rd (by have := HL.out; omega) (Nat.le_refl _))
  rw [canon_val, canon_val] at CM
  clear HS O1 O2 O3 M5
  go_wp2_with fail
  with_reducible refine CM.out.mono ?_
  rintro e w3 ⟨rfl, hb⟩
  have KG := Lib.hid (KG.out.trans (hb.mono KG.out.size))
  clear hb CM
  go_wp2_with fail
  go_ret
  exact ⟨rfl, KG.out⟩
end Go.Proofs.YtaagegcidbgjmaaGreatDoor.Limb
namespace Go.Proofs.YtaagegcidbgjmaaGreatDoor.Limb
open Go.RowKit Go.Sort Go.Fresh

theorem okF_canon (x : Rat) : okF (decide (x.num < 0)) (lenB x.num.natAbs) (dgi x.num.natAbs) (decide ((x.den : Int) < 0)) (lenB (x.den : Int).natAbs) (dgi (x.den : Int).natAbs) := by
  refine ⟨canon_ok _, canon_ok _, ?_, ?_⟩
  · rw [canon_val]; exact rat_pos x
  · rw [canon_val, canon_val]; exact rat_gcd x
theorem valF_canon (x : Rat) : valF (decide (x.num < 0)) (lenB x.num.natAbs) (dgi x.num.natAbs) (decide ((x.den : Int) < 0)) (lenB (x.den : Int).natAbs) (dgi (x.den : Int).natAbs) = x := by
  obtain ⟨e1, e2⟩ := valF_ok (okF_canon x)
  rw [canon_val] at e1 e2
  exact Rat.ext e1 (by omega)
set_option maxRecDepth 100000 in
set_option maxHeartbeats 2000000 in
theorem mulc_any (bx bz : Nat) (p r : Int) (a1 : Option Addr) (c1 : Nat) (a2 : Option Addr) (n2 c2 : Nat) (s2 : Bool) (a3 : Option Addr) (c3 : Nat) (a4 : Option Addr) (n4 c4 : Nat) (s4 : Bool) (ta tb : Bool) (ua ub : Option Addr) (na ca nb cb : Nat) (w : World)
    (hbx : Bxs w bx 27 [.bool (decide (p < 0)), .slice a1 (lenB p.natAbs) c1, .bool s2, .slice a2 n2 c2]) (hbz : Bxs w bz 27 [.bool (decide (r < 0)), .slice a3 (lenB r.natAbs) c3, .bool s4, .slice a4 n4 c4])
    (h1 : Rd w a1 (lenB p.natAbs) (dgi p.natAbs)) (hn1 : lenB p.natAbs ≤ 100000000) (hc1 : lenB p.natAbs ≤ c1) (h2 : Rd w a3 (lenB r.natAbs) (dgi r.natAbs)) (hn2 : lenB r.natAbs ≤ 100000000) (hc2 : lenB r.natAbs ≤ c3) :
    Calls Tryz.prog 84 #[numV ta ua na ca, numV tb ub nb cb, .pointer (some ⟨bx, 0, none⟩), .pointer (some ⟨bz, 0, none⟩)] w (ResN w (p * r)) := by
  have HB1 := Lib.hid (((hbx.alloc (.cells #[.bool ta, .slice ua na ca] 24)).alloc (.cells #[.bool tb, .slice ub nb cb] 24)).alloc (.cells #[.bool false, .slice none 0 0] 24))
  have HB2 := Lib.hid (((hbz.alloc (.cells #[.bool ta, .slice ua na ca] 24)).alloc (.cells #[.bool tb, .slice ub nb cb] 24)).alloc (.cells #[.bool false, .slice none 0 0] 24))
  have HB3 := Lib.hid (Bxs.new ((w.alloc (.cells #[.bool ta, .slice ua na ca] 24)).alloc (.cells #[.bool tb, .slice ub nb cb] 24)) 24 [.bool false, .slice none 0 0])
  obtain ⟨W, hW⟩ : ∃ W, W = ((w.alloc (.cells #[.bool ta, .slice ua na ca] 24)).alloc (.cells #[.bool tb, .slice ub nb cb] 24)).alloc (.cells #[.bool false, .slice none 0 0] 24) := ⟨_, rfl⟩
  have KG := Lib.hid (show Below w.heap.size w W by rw [hW]; exact (((Below.refl _ _).alloc (Nat.le_refl _) _).alloc (by go_size) _).alloc (by go_size) _)
  have hWs : w.heap.size + 3 = W.heap.size := by rw [hW]; simp
  rw [← hW] at HB1 HB2
  have HB3 := Lib.hid (show Bxs W (w.heap.size + 1 + 1) 24 [.bool false, .slice none 0 0] by have h := HB3.out; simp only [World.size_alloc] at h; rw [hW]; exact h)
  have BR := Lib.hid (mul_any (decide (p < 0)) a1 (lenB p.natAbs) c1 (dgi p.natAbs) (decide (r < 0)) a3 (lenB r.natAbs) c3 (dgi r.natAbs) W (h1.below KG.out) hn1 hc1 (h2.below KG.out) hn2 hc2)
  rw [canon_val, canon_val] at BR
  obtain ⟨T, hT⟩ : ∃ T, T = p * r := ⟨_, rfl⟩
  rw [← hT] at BR ⊢
  have HW := Lib.hid hW
  have HWS := Lib.hid hWs
  clear hW hWs h1 h2 hT hbx hbz
  go_enter Tryz.func84, Tryz.ntmps84
  go_upto_region 1 with (fail)
  rw [show ((w.alloc (.cells #[.bool ta, .slice ua na ca] 24)).alloc (.cells #[.bool tb, .slice ub nb cb] 24)).alloc (.cells #[.bool false, .slice none 0 0] 24) = W from HW.out.symm]
  clear HW
  obtain ⟨x0, x1, x2, x3, x4, x5⟩ := frac_box HB1.out
  obtain ⟨y0, y1, y2, y3, y4, y5⟩ := frac_box HB2.out
  go_wp2_with fail
  with_reducible refine BR.out.mono ?_
  rintro e w2 ⟨m, rfl, O1, hm, hb⟩
  have M3 := Lib.hid (HB3.out.below hb HB3.out.lt)
  have KG := Lib.hid (KG.out.trans (hb.mono KG.out.size))
  have hvs := HWS.out
  have h2s := hb.size
  clear x0 x1 x2 x3 x4 x5 y0 y1 y2 y3 y4 y5 HB1 HB2 HB3 BR hb
  obtain ⟨z0, z1, z2, z3⟩ := M3.out.bx.all
  go_wp2_with fail
  refine bodyPost_ret (results_cell rfl _ _ _ _ _ _ _ rfl ((M3.out.put 0 _).put 1 _) Tryz.underlying24 rfl (by kernel_rfl)) rfl ⟨m, rfl, ?_, hm, ?_⟩
  · exact ((O1.other (by dsimp only; omega) _).other (by dsimp only; omega) _).mono (by omega)
  · exact (KG.out.setCell (by dsimp only; omega) _).setCell (by dsimp only; omega) _
end Go.Proofs.YtaagegcidbgjmaaGreatDoor.Limb
namespace Go.Proofs.YtaagegcidbgjmaaGreatDoor.Limb
open Go.RowKit Go.Sort Go.Fresh

def OwnAll (lo : Nat) (w : World) (L : List Num1) : Prop := (∀ x ∈ L, Own 74 w lo x.a x.n x.c x.o) ∧ L.Pairwise Asunder
theorem OwnAll.nil (lo : Nat) (w : World) : OwnAll lo w [] := ⟨fun x h => (by cases h), List.Pairwise.nil⟩
theorem OwnAll.below {lo : Nat} {w w' : World} {L : List Num1} (h : OwnAll lo w L) (hb : Below w.heap.size w w') : OwnAll lo w' L := ⟨fun x hx => (h.1 x hx).below hb, h.2⟩
theorem OwnAll.more {lo : Nat} {w w1 : World} {L : List Num1} (h : OwnAll lo w L) (hlo : lo ≤ w.heap.size) (hb : Below w.heap.size w w1) {x : Num1} (ho : Own 74 w1 w.heap.size x.a x.n x.c x.o) : OwnAll lo w1 (L ++ [x]) := by
  refine ⟨fun y hy => ?_, List.pairwise_append.2 ⟨h.2, List.pairwise_singleton _ _, fun y hy z hz => ?_⟩⟩
  · rcases List.mem_append.1 hy with hy | hy
    · exact (h.1 y hy).below hb
    · obtain rfl := List.mem_singleton.1 hy
      exact ho.mono hlo
  · obtain rfl := List.mem_singleton.1 hz
    intro p q hp hq e
    have h3 := ((h.1 y hy).blk hp).2.2
    have h4 := (ho.blk hq).2.1
    omega
/-- Two lists of one call. -/
theorem OwnAll.more2 {lo : Nat} {w w1 : World} {L : List Num1} (h : OwnAll lo w L) (hlo : lo ≤ w.heap.size) (hb : Below w.heap.size w w1) {x y : Num1} (ho : Own 74 w1 w.heap.size x.a x.n x.c x.o) (ho2 : Own 74 w1 w.heap.size y.a y.n y.c y.o) (hap : Apart2 x.a y.a) : OwnAll lo w1 (L ++ [x] ++ [y]) := by
  have h1 := h.more hlo hb ho
  refine ⟨fun z hz => ?_, List.pairwise_append.2 ⟨h1.2, List.pairwise_singleton _ _, fun z hz u hu => ?_⟩⟩
  · rcases List.mem_append.1 hz with hz | hz
    · exact h1.1 z hz
    · obtain rfl := List.mem_singleton.1 hz
      exact ho2.mono hlo
  · obtain rfl := List.mem_singleton.1 hu
    rcases List.mem_append.1 hz with hz | hz
    · intro p q hp hq e
      have h3 := ((h.1 z hz).blk hp).2.2
      have h4 := (ho2.blk hq).2.1
      omega
    · obtain rfl := List.mem_singleton.1 hz
      exact hap
theorem OwnAll.get {lo : Nat} {w : World} {L : List Num1} (h : OwnAll lo w L) {i : Nat} {x : Num1} (hx : L[i]? = some x) : Own 74 w lo x.a x.n x.c x.o := h.1 x (List.mem_of_getElem? hx)

/-- The Book of all of them has them all apart. -/
theorem apart_own {lo B : Nat} {w0 V W : World} {L : List Num1} {v : Value} {xs : List Value} (hV : OwnAll lo V L) (hVB : V.heap.size = B) (hb : Below B V W) (hB : Book.Bk W B B L.length v xs) (hxs : xs = heldL L 0) (h0 : 0 < L.length) (hk : L.length ≤ 1000) (hN : ∀ x ∈ L, x.n ≤ 900000000) (hlo : w0.heap.size ≤ lo)
    (hlo2 : lo ≤ B) (hw : Below w0.heap.size w0 W) (hsz : w0.heap.size ≤ W.heap.size) :
    Calls Tryz.prog 14 #[.pointer (some ⟨B, 0, none⟩)] W fun e w' => e = .returned (.bool true) ∧ Below w0.heap.size w0 w' := by
  subst hVB
  subst hxs
  have hW := hV.below hb
  obtain ⟨g, cap, cur, rfl, hbg, hg, hnc, hcm, hcs, htake⟩ : ∃ g cap cur, v = .slice (some ⟨g, 0, none⟩) L.length cap ∧ V.heap.size ≤ g ∧ W.heap[g]? = some (.cells cur 86 (0, 0)) ∧ L.length ≤ cap ∧ cap ≤ maxLen ∧ cur.size = cap * 3 ∧ cur.toList.take (L.length * 3) = heldL L 0 := by
    rcases hB.row.2 with ⟨_, h⟩ | h
    · omega
    · exact h
  have cell : ∀ j d, j < L.length → d < 3 → cur[3 * j + d]? = (Book.held ((L.getD j ⟨0, false, none, 0, 0, fun _ => 0⟩).a) ((L.getD j ⟨0, false, none, 0, 0, fun _ => 0⟩).n) ((L.getD j ⟨0, false, none, 0, 0, fun _ => 0⟩).c) j)[d]? := by
    intro j d hj hd
    have hx : L[j]? = some (L.getD j ⟨0, false, none, 0, 0, fun _ => 0⟩) := by rw [List.getD_eq_getElem?_getD, List.getElem?_eq_getElem hj]; rfl
    have h := heldL_get L 0 j d _ hx hd
    rw [← htake, List.getElem?_take, if_pos (by omega), Array.getElem?_toList, Nat.zero_add] at h
    exact h
  have mem : ∀ j, j < L.length → L.getD j ⟨0, false, none, 0, 0, fun _ => 0⟩ ∈ L := by
    intro j hj
    rw [List.getD_eq_getElem?_getD, List.getElem?_eq_getElem hj]
    exact List.getElem_mem hj
  have hA : Book.Arr W g L.length (fun j => (L.getD j ⟨0, false, none, 0, 0, fun _ => 0⟩).a) (fun j => (L.getD j ⟨0, false, none, 0, 0, fun _ => 0⟩).n) (fun j => (L.getD j ⟨0, false, none, 0, 0, fun _ => 0⟩).c) (fun _ => .slice none 0 0) := by
    refine ⟨cap * 3, fun i => cur[i]?.getD undef, ⟨cur, hg, hcs, fun i hi => ?_⟩, fun j hj => ⟨by omega, ?_, ?_, ?_⟩⟩
    · show cur[i]? = some ((cur[i]?).getD undef)
      rw [Array.getElem?_eq_getElem (by omega)]; rfl
    · have h := cell j 0 hj (by omega)
      rw [Nat.add_zero] at h
      show (cur[3 * j]?).getD undef = _
      rw [h]; rfl
    · show (cur[3 * j + 1]?).getD undef = _
      rw [cell j 1 hj (by omega)]; rfl
    · show (cur[3 * j + 2]?).getD undef = _
      rw [cell j 2 hj (by omega)]; rfl
  have hUlt : ∀ q, Book.UA L.length (fun j => (L.getD j ⟨0, false, none, 0, 0, fun _ => 0⟩).a) q → lo ≤ q ∧ q < V.heap.size := by
    rintro q ⟨j, hj, p, hp, rfl⟩
    exact ((hV.1 _ (mem j hj)).blk hp).2
  refine (Book.apart_any V.heap.size g L.length cap _ _ _ (fun j => (L.getD j ⟨0, false, none, 0, 0, fun _ => 0⟩).o) W hk hB.box hA (fun j hj => ((hW.1 _ (mem j hj)).mono (Nat.zero_le _))) (fun j hj => hN _ (mem j hj))
    ⟨fun h => by have := (hUlt _ h).2; omega, fun h => by have := (hUlt _ h).2; omega⟩ ?_ (fun e => hB.ne (by rw [e]; rfl))).mono ?_
  · intro i hi j hj hij p q hp hq
    have key : ∀ i j, i < j → i < L.length → j < L.length → ∀ p q, (L.getD i ⟨0, false, none, 0, 0, fun _ => 0⟩).a = some p → (L.getD j ⟨0, false, none, 0, 0, fun _ => 0⟩).a = some q → p.block ≠ q.block := by
      intro i j hij hi hj p q hp hq
      have h := List.pairwise_iff_getElem.1 hV.2 i j hi hj hij
      rw [List.getD_eq_getElem?_getD, List.getElem?_eq_getElem hi] at hp
      rw [List.getD_eq_getElem?_getD, List.getElem?_eq_getElem hj] at hq
      exact h p q hp hq
    rcases Nat.lt_or_ge i j with h | h
    · exact key i j h hi hj p q hp hq
    · exact fun e => key j i (by omega) hj hi q p hq hp e.symm
  · rintro e w' ⟨rfl, hT⟩
    refine ⟨rfl, hw.trans (hT.to_below hsz fun k hk hu => ?_)⟩
    rcases hu with hu | rfl
    · have := (hUlt _ hu).1; omega
    · omega

/-- A Book that has taken one list more: below its own block nothing has turned. -/
theorem kept_nxt {W W' : World} {B k : Nat} {v : Value} {xs : List Value} {a : Option Addr} {n c : Nat} {e : Ending} (h : Book.Kept W B B k v xs a n c e W') (hB : Book.Bk W B B k v xs) (hb : B ≤ W.heap.size) :
    (∃ u, e = .returned u) ∧ ∃ v', Book.Bk W' B B (k + 1) v' (xs ++ Book.held a n c k) ∧ Below B W W' := by
  obtain ⟨hu, v', h1, -, h3⟩ := h
  refine ⟨hu, v', h1, h3.to_below hb fun q hq hU => ?_⟩
  rcases hU with rfl | hU
  · omega
  · have := (hB.row.lt q hU).1; omega
theorem book_nw (w : World) : Book.Bk (w.alloc (.cells #[.int .i64 0, .slice none 0 0, .slice none 0 0, .slice none 0 0, .slice none 0 0, .slice none 0 0, .slice none 0 0, .slice none 0 0, .slice none 0 0, .slice none 0 0, .slice none 0 0, .slice none 0 0, .slice none 0 0] 47)) w.heap.size w.heap.size 0 (.slice none 0 0) [] := by
  refine ⟨World.rowIs_alloc w #[Value.int .i64 0, .slice none 0 0, .slice none 0 0, .slice none 0 0, .slice none 0 0, .slice none 0 0, .slice none 0 0, .slice none 0 0, .slice none 0 0, .slice none 0 0, .slice none 0 0, .slice none 0 0, .slice none 0 0] 47 (Book.bkf 0 (.slice none 0 0)) (fun i hi => ?_), World.ownsRow_nil _ _ _ _, fun e => by cases e⟩
  match i, hi with
  | 0, _ => rfl
  | 1, _ => rfl
  | 2, _ => rfl
  | 3, _ => rfl
  | 4, _ => rfl
  | 5, _ => rfl
  | 6, _ => rfl
  | 7, _ => rfl
  | 8, _ => rfl
  | 9, _ => rfl
  | 10, _ => rfl
  | 11, _ => rfl
  | 12, _ => rfl


set_option maxRecDepth 100000 in
set_option maxHeartbeats 1000000 in
theorem bookFrac_any (B k : Nat) (v : Value) (xs : List Value) (s1 : Bool) (a1 : Option Addr) (n1 c1 : Nat) (s2 : Bool) (a2 : Option Addr) (n2 c2 : Nat) (w : World) (hk : k ≤ 999) (hB : Book.Bk w B B k v xs) (hbase : B ≤ w.heap.size) :
    Calls Tryz.prog 13 #[.pointer (some ⟨B, 0, none⟩), fracV s1 a1 n1 c1 s2 a2 n2 c2] w fun e w' => (∃ u, e = .returned u) ∧ ∃ v', Book.Bk w' B B (k + 2) v' (xs ++ Book.held a1 n1 c1 k ++ Book.held a2 n2 c2 (k + 1)) ∧ Below B w w' := by
  have hlt := hB.box.lt
  have hrow := hB.row.lt
  have HB1 := Lib.hid (Bxs.new w 27 [.bool s1, .slice a1 n1 c1, .bool s2, .slice a2 n2 c2])
  obtain ⟨W, hW⟩ : ∃ W, W = w.alloc (.cells #[.bool s1, .slice a1 n1 c1, .bool s2, .slice a2 n2 c2] 27) := ⟨_, rfl⟩
  have HB1 := Lib.hid (show Bxs W w.heap.size 27 [.bool s1, .slice a1 n1 c1, .bool s2, .slice a2 n2 c2] by rw [hW]; exact HB1.out)
  have HK := Lib.hid (show Book.Bk W B B k v xs by rw [hW]; exact hB.alloc _)
  have KG := Lib.hid (show Below w.heap.size w W by rw [hW]; exact (Below.refl _ _).alloc (Nat.le_refl _) _)
  have HBZ := Lib.hid (Nat.le_trans hbase KG.out.size)
  have HLT := Lib.hid (And.intro hlt hrow)
  have HBS := Lib.hid hbase
  have HW := Lib.hid hW
  clear hW hB hbase hlt hrow
  have N1 := Lib.hid (Book.num_any B B k v xs s1 a1 n1 c1 W (by omega) HK.out HBZ.out)
  go_enter Tryz.func13, Tryz.ntmps13
  go_upto_region 1 with (fail)
  rw [show w.alloc (.cells #[.bool s1, .slice a1 n1 c1, .bool s2, .slice a2 n2 c2] 27) = W from HW.out.symm]
  clear HW
  obtain ⟨x0, x1, x2, x3, x4, x5⟩ := frac_box HB1.out
  go_wp2_with fail
  with_reducible refine N1.out.mono ?_
  rintro e w1 hk
  have HB2 := Lib.hid (show Bxs w1 w.heap.size 27 [.bool s1, .slice a1 n1 c1, .bool s2, .slice a2 n2 c2] by
    obtain ⟨-, v', -, -, ht⟩ := hk
    refine HB1.out.of (ht.block _ HB1.out.lt ?_)
    rintro (h | h)
    · have := HLT.out.1; omega
    · have := (HLT.out.2 _ h).2; omega)
  obtain ⟨⟨u, rfl⟩, v', hk1, hk2⟩ := kept_nxt hk HK.out HBZ.out
  have HK := Lib.hid hk1
  have HBZ := Lib.hid (Nat.le_trans HBZ.out hk2.size)
  have KB := Lib.hid (Below.trans (KG.out.mono HBS.out) hk2)
  clear hk hk1 hk2 N1 x0 x1 x2 x3 x4 x5
  have N2 := Lib.hid (Book.num_any B B (k + 1) v' _ s2 a2 n2 c2 w1 (by omega) HK.out HBZ.out)
  obtain ⟨x0, x1, x2, x3, x4, x5⟩ := frac_box HB2.out
  go_wp2_with fail
  with_reducible refine N2.out.mono ?_
  rintro e w2 hk
  obtain ⟨⟨u2, rfl⟩, v2, hk1, hk2⟩ := kept_nxt hk HK.out HBZ.out
  have H := Lib.hid (And.intro hk1 (KB.out.trans hk2))
  clear hk hk1 hk2 N2 x0 x1 x2 x3 x4 x5
  go_wp2_with fail
  (try simp only [Exit.inBlock, Exit.then])
  refine bodyPost_end (results_none rfl _ _ _) rfl ?_
  exact ⟨⟨_, rfl⟩, v2, H.out.1, H.out.2⟩
end Go.Proofs.YtaagegcidbgjmaaGreatDoor.Limb
namespace Go.Proofs.YtaagegcidbgjmaaGreatDoor.Limb
open Go.RowKit Go.Sort Go.Fresh

set_option maxRecDepth 100000 in
set_option maxHeartbeats 4000000 in
theorem fmul_any (s1 : Bool) (a1 : Option Addr) (n1 c1 : Nat) (o1 : Nat → Int) (s2 : Bool) (a2 : Option Addr) (n2 c2 : Nat) (o2 : Nat → Int) (s3 : Bool) (a3 : Option Addr) (n3 c3 : Nat) (o3 : Nat → Int) (s4 : Bool) (a4 : Option Addr) (n4 c4 : Nat) (o4 : Nat → Int) (w : World) (x y : Rat)
    (hx : x = valF s1 n1 o1 s2 n2 o2) (hy : y = valF s3 n3 o3 s4 n4 o4)
    (h1 : Rd w a1 n1 o1) (hn1 : n1 ≤ 900000) (hc1 : n1 ≤ c1) (h2 : Rd w a2 n2 o2) (hn2 : n2 ≤ 900000) (hc2 : n2 ≤ c2) (h3 : Rd w a3 n3 o3) (hn3 : n3 ≤ 900000) (hc3 : n3 ≤ c3) (h4 : Rd w a4 n4 o4) (hn4 : n4 ≤ 900000) (hc4 : n4 ≤ c4) :
    Calls Tryz.prog 19 #[fracV s1 a1 n1 c1 s2 a2 n2 c2, fracV s3 a3 n3 c3 s4 a4 n4 c4] w (FracR w (x * y).num ((x * y).den : Int)) := by
  have hfar : ∀ {a : Option Addr} {n : Nat} {o : Nat → Int}, Rd w a n o → 0 < n → ∀ p, a = some p → p.block < w.heap.size := fun h h0 p hp => by
    obtain ⟨b, off, e, hc⟩ := h.cells h0
    rw [e] at hp; cases hp
    exact block_lt_of_cell (hc 0 h0)
  have OX := Lib.hid (fun (w' : World) (hb : Below w.heap.size w w') => fof2_any s1 a1 n1 c1 o1 s2 a2 n2 c2 o2 w' w.heap.size hb.size (h1.below hb) (by omega) hc1 (hfar h1) (h2.below hb) (by omega) hc2 (hfar h2))
  have OY := Lib.hid (fun (w' : World) (hb : Below w.heap.size w w') => fof2_any s3 a3 n3 c3 o3 s4 a4 n4 c4 o4 w' w.heap.size hb.size (h3.below hb) (by omega) hc3 (hfar h3) (h4.below hb) (by omega) hc4 (hfar h4))
  have l1 := valF_len (s1 := s1) (s2 := s2) h1.rng h2.rng
  have l2 := valF_len (s1 := s3) (s2 := s4) h3.rng h4.rng
  rw [← hx] at OX l1
  rw [← hy] at OY l2
  obtain ⟨p, hp⟩ : ∃ p, p = x.num := ⟨_, rfl⟩
  obtain ⟨q, hq⟩ : ∃ q : Int, q = (x.den : Int) := ⟨_, rfl⟩
  obtain ⟨r, hr⟩ : ∃ r, r = y.num := ⟨_, rfl⟩
  obtain ⟨t, ht⟩ : ∃ t : Int, t = (y.den : Int) := ⟨_, rfl⟩
  rw [← hp, ← hq] at OX l1
  rw [← hr, ← ht] at OY l2
  have HP := Lib.hid (And.intro hp (And.intro hq (And.intro hr ht)))
  obtain ⟨z, hz⟩ : ∃ z, z = x * y := ⟨_, rfl⟩
  rw [← hz]
  have HZ := Lib.hid hz
  clear hz
  have HL := Lib.hid (show (lenB p.natAbs ≤ 900001 ∧ lenB q.natAbs ≤ 900001) ∧ lenB r.natAbs ≤ 900001 ∧ lenB t.natAbs ≤ 900001 by omega)
  clear hp hq hr ht hx hy h1 h2 h3 h4 l1 l2 hfar
  have HB1 := Lib.hid (((Bxs.new w 27 [.bool s1, .slice a1 n1 c1, .bool s2, .slice a2 n2 c2]).alloc (.cells #[.bool s3, .slice a3 n3 c3, .bool s4, .slice a4 n4 c4] 27)).alloc (.cells #[.bool false, .slice none 0 0, .bool false, .slice none 0 0] 27))
  have HB2 := Lib.hid (((Bxs.new (w.alloc (.cells #[.bool s1, .slice a1 n1 c1, .bool s2, .slice a2 n2 c2] 27)) 27 [.bool s3, .slice a3 n3 c3, .bool s4, .slice a4 n4 c4]).alloc (.cells #[.bool false, .slice none 0 0, .bool false, .slice none 0 0] 27)))
  have HB4 := Lib.hid ((Bxs.new ((w.alloc (.cells #[.bool s1, .slice a1 n1 c1, .bool s2, .slice a2 n2 c2] 27)).alloc (.cells #[.bool s3, .slice a3 n3 c3, .bool s4, .slice a4 n4 c4] 27)) 27 [.bool false, .slice none 0 0, .bool false, .slice none 0 0]))
  obtain ⟨W, hW⟩ : ∃ W, W = ((w.alloc (.cells #[.bool s1, .slice a1 n1 c1, .bool s2, .slice a2 n2 c2] 27)).alloc (.cells #[.bool s3, .slice a3 n3 c3, .bool s4, .slice a4 n4 c4] 27)).alloc (.cells #[.bool false, .slice none 0 0, .bool false, .slice none 0 0] 27) := ⟨_, rfl⟩
  have KG := Lib.hid (show Below w.heap.size w W by rw [hW]; exact (((Below.refl _ _).alloc (Nat.le_refl _) _).alloc (by go_size) _).alloc (by go_size) _)
  have hWs : w.heap.size + 3 = W.heap.size := by rw [hW]; simp
  have HB1 := Lib.hid (show Bxs W w.heap.size 27 [.bool s1, .slice a1 n1 c1, .bool s2, .slice a2 n2 c2] by rw [hW]; exact HB1.out)
  have HB2 := Lib.hid (show Bxs W (w.heap.size + 1) 27 [.bool s3, .slice a3 n3 c3, .bool s4, .slice a4 n4 c4] by have h := HB2.out; simp only [World.size_alloc] at h; rw [hW]; exact h)
  have HB4 := Lib.hid (show Bxs W (w.heap.size + 1 + 1) 27 [.bool false, .slice none 0 0, .bool false, .slice none 0 0] by have h := HB4.out; simp only [World.size_alloc] at h; rw [hW]; exact h)
  have HW := Lib.hid hW
  have HWS := Lib.hid hWs
  clear hW hWs
  go_enter Tryz.func19, Tryz.ntmps19
  go_upto_region 1 with (fail)
  rw [show ((w.alloc (.cells #[.bool s1, .slice a1 n1 c1, .bool s2, .slice a2 n2 c2] 27)).alloc (.cells #[.bool s3, .slice a3 n3 c3, .bool s4, .slice a4 n4 c4] 27)).alloc (.cells #[.bool false, .slice none 0 0, .bool false, .slice none 0 0] 27) = W from HW.out.symm]
  clear HW
  have HS := Lib.hid (fun (w' : World) (hb : Below W.heap.size W w') => And.intro (frac_box (HB1.out.below hb HB1.out.lt)) (frac_box (HB2.out.below hb HB2.out.lt)))
  refine wp_region_fresh 3 (spOf [(1, Sp.made (fracX p q) (fun x w' => FracI w' w.heap.size (w.heap.size + 3) p q x))]) (fun w' => Below W.heap.size W w') (by kernel_rfl) (by kernel_rfl)
    (spOf_cons (Sp.made_keeps fun x w w' h hb => h.below hb) spOf_nil) (fun _ _ h hb => h.trans (hb.mono h.size)) ((Below.refl _ _).drew) ?_
  simp only [List.take_succ_cons, List.take_zero, List.drop_succ_cons, List.drop_zero]
  (refine wpF_reads rfl rfl ?_ (fun w' hw' => ?_) ?_; rotate_left; · (have hb' := Has.world hw'; (obtain ⟨x0, x1, x2, x3, x4, x5⟩ := (HS.out _ hb').1); clear hw'; go_simp; try rfl))
  conv => arg 9; simp only [Act.put, List.setIfInBounds_toArray, List.set_cons_succ, List.set_cons_zero]
  refine wpF_spec rfl rfl (fun w' hw' => ?_) ?_
  · have hb' := hw'.world
    go_simp
    refine (OX.out w' (KG.out.trans (hb'.mono KG.out.size))).mono ?_
    intro e w'' hh
    obtain ⟨z, rfl, hi, hb⟩ := fracS_ex hh
    exact ⟨_, rfl, ⟨⟨z.1, z.2.1, z.2.2.1, z.2.2.2, rfl⟩, ⟨z.1, z.2.1, z.2.2.1, z.2.2.2, rfl, hi.up (by have := hb'.size; have := HWS.out; omega)⟩⟩, hb⟩
  rintro _ ⟨xa, rfl⟩
  conv => arg 9; simp only [Act.put, List.setIfInBounds_toArray, List.set_cons_succ, List.set_cons_zero]
  (refine wpF_reads rfl rfl ?_ (fun w' hw' => ?_) ?_; rotate_left; · (have hb' := Has.world hw'; (obtain ⟨x0, x1, x2, x3, x4, x5⟩ := (HS.out _ hb').2); clear hw'; go_simp; try rfl))
  conv => arg 9; simp only [Act.put, List.setIfInBounds_toArray, List.set_cons_succ, List.set_cons_zero]
  refine wpF_nil (fun w1 hb1 hF => ?_)
  have HXA := Lib.hid (fracI_of (hF 1))
  have GB := Lib.hid hb1
  clear hF hb1
  go_wp2_with fail
  have OY1 := Lib.hid (OY.out w1 (KG.out.trans (GB.out.mono KG.out.size)))
  clear OX OY HS
  with_reducible refine OY1.out.mono ?_
  intro e w2 hh
  obtain ⟨yb, rfl, hi, hb⟩ := fracS_ex hh
  have HYB := Lib.hid (hi.up (show w.heap.size + 3 ≤ w1.heap.size by have := GB.out.size; have := HWS.out; omega))
  have HXA := Lib.hid (HXA.out.below hb)
  have GB := Lib.hid (GB.out.trans (hb.mono GB.out.size))
  clear hh hi hb OY1
  have M1 := Lib.hid (HB1.out.below GB.out HB1.out.lt)
  have M2 := Lib.hid (HB2.out.below GB.out HB2.out.lt)
  have M4 := Lib.hid (HB4.out.below GB.out HB4.out.lt)
  obtain ⟨x0, x1, x2, x3, x4, x5⟩ := frac_box M1.out
  obtain ⟨y0, y1, y2, y3, y4, y5⟩ := frac_box M2.out
  go_upto_region 2 with (fail)
  obtain ⟨V, hV⟩ : ∃ V, V = ((((((((w2.setCell ⟨w.heap.size, 0, none⟩ (.bool (decide (p < 0)))).setCell ⟨w.heap.size, 1, none⟩ (.slice xa.1 (lenB p.natAbs) xa.2.1)).setCell ⟨w.heap.size, 2, none⟩ (.bool (decide (q < 0)))).setCell ⟨w.heap.size, 3, none⟩ (.slice xa.2.2.1 (lenB q.natAbs) xa.2.2.2)).setCell ⟨w.heap.size + 1, 0, none⟩ (.bool (decide (r < 0)))).setCell ⟨w.heap.size + 1, 1, none⟩ (.slice yb.1 (lenB r.natAbs) yb.2.1)).setCell ⟨w.heap.size + 1, 2, none⟩ (.bool (decide (t < 0)))).setCell ⟨w.heap.size + 1, 3, none⟩ (.slice yb.2.2.1 (lenB t.natAbs) yb.2.2.2)) := ⟨_, rfl⟩
  have M1 := Lib.hid (show Bxs V w.heap.size 27 [.bool (decide (p < 0)), .slice xa.1 (lenB p.natAbs) xa.2.1, .bool (decide (q < 0)), .slice xa.2.2.1 (lenB q.natAbs) xa.2.2.2] by rw [hV]; exact ((((((((M1.out.put 0 _).put 1 _).put 2 _).put 3 _).other (by dsimp only; omega) _).other (by dsimp only; omega) _).other (by dsimp only; omega) _).other (by dsimp only; omega) _))
  have M2 := Lib.hid (show Bxs V (w.heap.size + 1) 27 [.bool (decide (r < 0)), .slice yb.1 (lenB r.natAbs) yb.2.1, .bool (decide (t < 0)), .slice yb.2.2.1 (lenB t.natAbs) yb.2.2.2] by rw [hV]; exact ((((((((M2.out.other (by dsimp only; omega) _).other (by dsimp only; omega) _).other (by dsimp only; omega) _).other (by dsimp only; omega) _).put 0 _).put 1 _).put 2 _).put 3 _))
  have M4 := Lib.hid (show Bxs V (w.heap.size + 1 + 1) 27 [.bool false, .slice none 0 0, .bool false, .slice none 0 0] by rw [hV]; exact ((((((((M4.out.other (by dsimp only; omega) _).other (by dsimp only; omega) _).other (by dsimp only; omega) _).other (by dsimp only; omega) _).other (by dsimp only; omega) _).other (by dsimp only; omega) _).other (by dsimp only; omega) _).other (by dsimp only; omega) _))
  have HXA := Lib.hid (show FracI V w.heap.size (w.heap.size + 3) p q xa by rw [hV]; exact ((((((((HXA.out.set (by dsimp only; omega) (by dsimp only; omega) _).set (by dsimp only; omega) (by dsimp only; omega) _).set (by dsimp only; omega) (by dsimp only; omega) _).set (by dsimp only; omega) (by dsimp only; omega) _).set (by dsimp only; omega) (by dsimp only; omega) _).set (by dsimp only; omega) (by dsimp only; omega) _).set (by dsimp only; omega) (by dsimp only; omega) _).set (by dsimp only; omega) (by dsimp only; omega) _))
  have HYB := Lib.hid (show FracI V w.heap.size (w.heap.size + 3) r t yb by rw [hV]; exact ((((((((HYB.out.set (by dsimp only; omega) (by dsimp only; omega) _).set (by dsimp only; omega) (by dsimp only; omega) _).set (by dsimp only; omega) (by dsimp only; omega) _).set (by dsimp only; omega) (by dsimp only; omega) _).set (by dsimp only; omega) (by dsimp only; omega) _).set (by dsimp only; omega) (by dsimp only; omega) _).set (by dsimp only; omega) (by dsimp only; omega) _).set (by dsimp only; omega) (by dsimp only; omega) _))
  have hG := KG.out.trans (GB.out.mono KG.out.size)
  have KG := Lib.hid (show Below w.heap.size w V by rw [hV]; exact ((((((((hG.setCell (by dsimp only; omega) _).setCell (by dsimp only; omega) _).setCell (by dsimp only; omega) _).setCell (by dsimp only; omega) _).setCell (by dsimp only; omega) _).setCell (by dsimp only; omega) _).setCell (by dsimp only; omega) _).setCell (by dsimp only; omega) _))
  rw [show ((((((((w2.setCell ⟨w.heap.size, 0, none⟩ (.bool (decide (p < 0)))).setCell ⟨w.heap.size, 1, none⟩ (.slice xa.1 (lenB p.natAbs) xa.2.1)).setCell ⟨w.heap.size, 2, none⟩ (.bool (decide (q < 0)))).setCell ⟨w.heap.size, 3, none⟩ (.slice xa.2.2.1 (lenB q.natAbs) xa.2.2.2)).setCell ⟨w.heap.size + 1, 0, none⟩ (.bool (decide (r < 0)))).setCell ⟨w.heap.size + 1, 1, none⟩ (.slice yb.1 (lenB r.natAbs) yb.2.1)).setCell ⟨w.heap.size + 1, 2, none⟩ (.bool (decide (t < 0)))).setCell ⟨w.heap.size + 1, 3, none⟩ (.slice yb.2.2.1 (lenB t.natAbs) yb.2.2.2)) = V from hV.symm]
  clear hV hG x0 x1 x2 x3 x4 x5 y0 y1 y2 y3 y4 y5 HB1 HB2 HB4 GB
  have MK := Lib.hid (make2_any 84 #[.pointer (some ⟨w.heap.size, 0, none⟩), .pointer (some ⟨w.heap.size + 1, 0, none⟩)] (p * r) (decide (p < 0)) xa.1 (lenB p.natAbs) xa.2.1 (dgi p.natAbs) (decide (q < 0)) xa.2.2.1 (lenB q.natAbs) xa.2.2.2 (dgi q.natAbs) (decide (r < 0)) yb.1 (lenB r.natAbs) yb.2.1 (dgi r.natAbs) (decide (t < 0)) yb.2.2.1 (lenB t.natAbs) yb.2.2.2 (dgi t.natAbs) V x y
    (by rw [HP.out.1, HP.out.2.1]; exact (valF_canon x).symm) (by rw [HP.out.2.2.1, HP.out.2.2.2]; exact (valF_canon y).symm)
    HXA.out.r1.rd (by have := HL.out; omega) HXA.out.c1 HXA.out.r2.rd (by have := HL.out; omega) HXA.out.c2 HYB.out.r1.rd (by have := HL.out; omega) HYB.out.c1 HYB.out.r2.rd (by have := HL.out; omega) HYB.out.c2
    (fun _ _ => rfl) (by have h := lenB_mul_le p.natAbs r.natAbs; rw [← Int.natAbs_mul] at h; have := HL.out; omega)
    (fun m1 m2 w1 hb _ _ => mulc_any w.heap.size (w.heap.size + 1) p r _ _ _ _ _ _ _ _ _ _ _ _ _ _ _ _ _ _ _ _ w1 (M1.out.below hb M1.out.lt) (M2.out.below hb M2.out.lt) (HXA.out.r1.rd.below hb) (by have := HL.out; omega) HXA.out.c1 (HYB.out.r1.rd.below hb) (by have := HL.out; omega) HYB.out.c1))
  rw [show Rat.divInt (p * r) ((x.den : Int) * (y.den : Int)) = x * y by rw [HP.out.1, HP.out.2.2.1, Rat.mul_def', ← Rat.divInt_ofNat, Int.natCast_mul]] at MK
  rw [← HZ.out] at MK
  have HVS := Lib.hid (show w.heap.size + 3 ≤ V.heap.size by have := M4.out.lt; omega)
  clear HZ HP HL HXA HYB
  obtain ⟨x0, x1, x2, x3, x4, x5⟩ := frac_box M1.out
  obtain ⟨y0, y1, y2, y3, y4, y5⟩ := frac_box M2.out
  go_wp2_with fail
  with_reducible refine MK.out.mono ?_
  rintro e w4 ⟨r1, r2, rfl, Q1, Q2, hap, hb⟩
  have M3 := Lib.hid (M4.out.below hb M4.out.lt)
  have KG := Lib.hid (KG.out.trans (hb.mono KG.out.size))
  have hvs := HVS.out
  have h2s := hb.size
  clear x0 x1 x2 x3 x4 x5 y0 y1 y2 y3 y4 y5 M1 M2 M4 MK hb
  obtain ⟨z0, z1, z2, z3, zf, zl⟩ := frac_box M3.out
  go_wp2_with fail
  refine bodyPost_ret (results_cell rfl _ _ _ _ _ _ _ rfl ((((M3.out.put 0 _).put 1 _).put 2 _).put 3 _) Tryz.underlying27 rfl (by kernel_rfl)) rfl ⟨r1, r2, rfl, ?_, ?_, hap, ?_⟩
  · exact ((((Q1.other (by dsimp only; omega) _).other (by dsimp only; omega) _).other (by dsimp only; omega) _).other (by dsimp only; omega) _).mono (by omega)
  · exact ((((Q2.other (by dsimp only; omega) _).other (by dsimp only; omega) _).other (by dsimp only; omega) _).other (by dsimp only; omega) _).mono (by omega)
  · exact (((KG.out.setCell (by dsimp only; omega) _).setCell (by dsimp only; omega) _).setCell (by dsimp only; omega) _).setCell (by dsimp only; omega) _
end Go.Proofs.YtaagegcidbgjmaaGreatDoor.Limb
namespace Go.Proofs.YtaagegcidbgjmaaGreatDoor.Limb
open Go.RowKit Go.Sort Go.Fresh

/-- Make of two numbers in hand. -/
theorem make_canon (z1 z2 : Int) (a1 a2 : Option Addr) (c1 c2 : Nat) (w : World) (h1 : Rd w a1 (lenB z1.natAbs) (dgi z1.natAbs)) (hn1 : lenB z1.natAbs ≤ 4000000) (hc1 : lenB z1.natAbs ≤ c1) (h2 : Rd w a2 (lenB z2.natAbs) (dgi z2.natAbs)) (hn2 : lenB z2.natAbs ≤ 4000000) (hc2 : lenB z2.natAbs ≤ c2) :
    Calls Tryz.prog 6 #[numV (decide (z1 < 0)) a1 (lenB z1.natAbs) c1, numV (decide (z2 < 0)) a2 (lenB z2.natAbs) c2] w (MakeP w (if z2 = 0 then 6 else 0) (Rat.divInt z1 z2).num (if z2 = 0 then 0 else ((Rat.divInt z1 z2).den : Int))) := by
  by_cases hz : z2 = 0
  · rw [if_pos hz, if_pos hz]
    refine (make_3 (decide (z1 < 0)) a1 (lenB z1.natAbs) c1 (dgi z1.natAbs) (decide (z2 < 0)) a2 (lenB z2.natAbs) c2 (dgi z2.natAbs) w h1 hn1 hc1 h2 hn2 hc2 (canon_ok z1) (canon_ok z2) (by rw [canon_val]; exact hz)).mono fun e w' h => ?_
    rw [hz, Rat.divInt_zero]
    exact (makeP_err h).1
  · rw [if_neg hz, if_neg hz]
    have h := make_ok (decide (z1 < 0)) a1 (lenB z1.natAbs) c1 (dgi z1.natAbs) (decide (z2 < 0)) a2 (lenB z2.natAbs) c2 (dgi z2.natAbs) w h1 hn1 hc1 h2 hn2 hc2 (canon_ok z1) (canon_ok z2) (by rw [canon_val]; exact hz)
    rw [canon_val, canon_val] at h
    exact h
theorem rat_div (x y : Rat) : Rat.divInt (x.num * (y.den : Int)) (y.num * (x.den : Int)) = x / y := by
  rw [Rat.div_def, Rat.inv_def]
  conv => rhs; rw [← Rat.num_divInt_den x]
  rw [Rat.divInt_mul_divInt]
  rw [Int.mul_comm (x.den : Int)]
open Classical in
set_option maxRecDepth 100000 in
set_option maxHeartbeats 4000000 in
theorem fdiv_1 (s1 : Bool) (a1 : Option Addr) (n1 c1 : Nat) (o1 : Nat → Int) (s2 : Bool) (a2 : Option Addr) (n2 c2 : Nat) (o2 : Nat → Int) (s3 : Bool) (a3 : Option Addr) (n3 c3 : Nat) (o3 : Nat → Int) (s4 : Bool) (a4 : Option Addr) (n4 c4 : Nat) (o4 : Nat → Int) (w : World)
    (h1 : Rd w a1 n1 o1) (hn1 : n1 ≤ 900000) (hc1 : n1 ≤ c1) (h2 : Rd w a2 n2 o2) (hn2 : n2 ≤ 900000) (hc2 : n2 ≤ c2) (h3 : Rd w a3 n3 o3) (hn3 : n3 ≤ 900000) (hc3 : n3 ≤ c3) (h4 : Rd w a4 n4 o4) (hn4 : n4 ≤ 900000) (hc4 : n4 ≤ c4) (hk : ¬ okF s1 n1 o1 s2 n2 o2) :
    Calls Tryz.prog 20 #[fracV s1 a1 n1 c1 s2 a2 n2 c2, fracV s3 a3 n3 c3 s4 a4 n4 c4] w fun e w' => e = .returned (.tuple #[fracV false none 0 0 false none 0 0, .int .i64 1]) ∧ Below w.heap.size w w' := by
  have HB1 := Lib.hid (((Bxs.new w 27 [.bool s1, .slice a1 n1 c1, .bool s2, .slice a2 n2 c2]).alloc (.cells #[.bool s3, .slice a3 n3 c3, .bool s4, .slice a4 n4 c4] 27)).alloc (.cells #[.bool false, .slice none 0 0, .bool false, .slice none 0 0] 27))
  have HB2 := Lib.hid ((Bxs.new (w.alloc (.cells #[.bool s1, .slice a1 n1 c1, .bool s2, .slice a2 n2 c2] 27)) 27 [.bool s3, .slice a3 n3 c3, .bool s4, .slice a4 n4 c4]).alloc (.cells #[.bool false, .slice none 0 0, .bool false, .slice none 0 0] 27))
  have HB3 := Lib.hid (Bxs.new ((w.alloc (.cells #[.bool s1, .slice a1 n1 c1, .bool s2, .slice a2 n2 c2] 27)).alloc (.cells #[.bool s3, .slice a3 n3 c3, .bool s4, .slice a4 n4 c4] 27)) 27 [.bool false, .slice none 0 0, .bool false, .slice none 0 0])
  obtain ⟨W, hW⟩ : ∃ W, W = ((w.alloc (.cells #[.bool s1, .slice a1 n1 c1, .bool s2, .slice a2 n2 c2] 27)).alloc (.cells #[.bool s3, .slice a3 n3 c3, .bool s4, .slice a4 n4 c4] 27)).alloc (.cells #[.bool false, .slice none 0 0, .bool false, .slice none 0 0] 27) := ⟨_, rfl⟩
  have KG := Lib.hid (show Below w.heap.size w W by rw [hW]; exact (((Below.refl _ _).alloc (Nat.le_refl _) _).alloc (by go_size) _).alloc (by go_size) _)
  have hWs : w.heap.size + 3 = W.heap.size := by rw [hW]; simp
  have HB1 := Lib.hid (show Bxs W w.heap.size 27 [.bool s1, .slice a1 n1 c1, .bool s2, .slice a2 n2 c2] by rw [hW]; exact HB1.out)
  have HB2 := Lib.hid (show Bxs W (w.heap.size + 1) 27 [.bool s3, .slice a3 n3 c3, .bool s4, .slice a4 n4 c4] by have h := HB2.out; simp only [World.size_alloc] at h; rw [hW]; exact h)
  have HB3 := Lib.hid (show Bxs W (w.heap.size + 1 + 1) 27 [.bool false, .slice none 0 0, .bool false, .slice none 0 0] by have h := HB3.out; simp only [World.size_alloc] at h; rw [hW]; exact h)
  have HW := Lib.hid hW
  have HWS := Lib.hid hWs
  have CK1 := Lib.hid (fcheck_any s1 a1 n1 c1 o1 s2 a2 n2 c2 o2 W (h1.below KG.out) (by omega) hc1 (h2.below KG.out) (by omega) hc2)
  rw [decide_eq_false hk] at CK1
  clear hk h1 h2 h3 h4 hW hWs
  go_enter Tryz.func20, Tryz.ntmps20
  go_upto_region 1 with (fail)
  rw [show ((w.alloc (.cells #[.bool s1, .slice a1 n1 c1, .bool s2, .slice a2 n2 c2] 27)).alloc (.cells #[.bool s3, .slice a3 n3 c3, .bool s4, .slice a4 n4 c4] 27)).alloc (.cells #[.bool false, .slice none 0 0, .bool false, .slice none 0 0] 27) = W from HW.out.symm]
  clear HW
  obtain ⟨x0, x1, x2, x3, x4, x5⟩ := frac_box HB1.out
  go_wp2_with fail
  with_reducible refine CK1.out.mono ?_
  rintro e w1 ⟨rfl, hb1⟩
  have GB := Lib.hid hb1
  clear hb1 x0 x1 x2 x3 x4 x5 CK1
  have M3 := Lib.hid (HB3.out.below GB.out HB3.out.lt)
  have hG := KG.out.trans (GB.out.mono KG.out.size)
  have hlt := HWS.out
  obtain ⟨z0, z1, z2, z3, zf, zl⟩ := frac_box M3.out
  go_wp2_with fail
  exact bodyPost_ret (results_ct rfl _ _ _ _ _ _ _ rfl ((((M3.out.put 0 _).put 1 _).put 2 _).put 3 _) Tryz.underlying27 rfl (by kernel_rfl)) rfl ⟨rfl, (((hG.setCell (by dsimp only; omega) _).setCell (by dsimp only; omega) _).setCell (by dsimp only; omega) _).setCell (by dsimp only; omega) _⟩
open Classical in
set_option maxRecDepth 100000 in
set_option maxHeartbeats 4000000 in
theorem fdiv_2 (s1 : Bool) (a1 : Option Addr) (n1 c1 : Nat) (o1 : Nat → Int) (s2 : Bool) (a2 : Option Addr) (n2 c2 : Nat) (o2 : Nat → Int) (s3 : Bool) (a3 : Option Addr) (n3 c3 : Nat) (o3 : Nat → Int) (s4 : Bool) (a4 : Option Addr) (n4 c4 : Nat) (o4 : Nat → Int) (w : World)
    (h1 : Rd w a1 n1 o1) (hn1 : n1 ≤ 900000) (hc1 : n1 ≤ c1) (h2 : Rd w a2 n2 o2) (hn2 : n2 ≤ 900000) (hc2 : n2 ≤ c2) (h3 : Rd w a3 n3 o3) (hn3 : n3 ≤ 900000) (hc3 : n3 ≤ c3) (h4 : Rd w a4 n4 o4) (hn4 : n4 ≤ 900000) (hc4 : n4 ≤ c4) (hk1 : okF s1 n1 o1 s2 n2 o2) (hk : ¬ okF s3 n3 o3 s4 n4 o4) :
    Calls Tryz.prog 20 #[fracV s1 a1 n1 c1 s2 a2 n2 c2, fracV s3 a3 n3 c3 s4 a4 n4 c4] w fun e w' => e = .returned (.tuple #[fracV false none 0 0 false none 0 0, .int .i64 1]) ∧ Below w.heap.size w w' := by
  have HB1 := Lib.hid (((Bxs.new w 27 [.bool s1, .slice a1 n1 c1, .bool s2, .slice a2 n2 c2]).alloc (.cells #[.bool s3, .slice a3 n3 c3, .bool s4, .slice a4 n4 c4] 27)).alloc (.cells #[.bool false, .slice none 0 0, .bool false, .slice none 0 0] 27))
  have HB2 := Lib.hid ((Bxs.new (w.alloc (.cells #[.bool s1, .slice a1 n1 c1, .bool s2, .slice a2 n2 c2] 27)) 27 [.bool s3, .slice a3 n3 c3, .bool s4, .slice a4 n4 c4]).alloc (.cells #[.bool false, .slice none 0 0, .bool false, .slice none 0 0] 27))
  have HB3 := Lib.hid (Bxs.new ((w.alloc (.cells #[.bool s1, .slice a1 n1 c1, .bool s2, .slice a2 n2 c2] 27)).alloc (.cells #[.bool s3, .slice a3 n3 c3, .bool s4, .slice a4 n4 c4] 27)) 27 [.bool false, .slice none 0 0, .bool false, .slice none 0 0])
  obtain ⟨W, hW⟩ : ∃ W, W = ((w.alloc (.cells #[.bool s1, .slice a1 n1 c1, .bool s2, .slice a2 n2 c2] 27)).alloc (.cells #[.bool s3, .slice a3 n3 c3, .bool s4, .slice a4 n4 c4] 27)).alloc (.cells #[.bool false, .slice none 0 0, .bool false, .slice none 0 0] 27) := ⟨_, rfl⟩
  have KG := Lib.hid (show Below w.heap.size w W by rw [hW]; exact (((Below.refl _ _).alloc (Nat.le_refl _) _).alloc (by go_size) _).alloc (by go_size) _)
  have hWs : w.heap.size + 3 = W.heap.size := by rw [hW]; simp
  have HB1 := Lib.hid (show Bxs W w.heap.size 27 [.bool s1, .slice a1 n1 c1, .bool s2, .slice a2 n2 c2] by rw [hW]; exact HB1.out)
  have HB2 := Lib.hid (show Bxs W (w.heap.size + 1) 27 [.bool s3, .slice a3 n3 c3, .bool s4, .slice a4 n4 c4] by have h := HB2.out; simp only [World.size_alloc] at h; rw [hW]; exact h)
  have HB3 := Lib.hid (show Bxs W (w.heap.size + 1 + 1) 27 [.bool false, .slice none 0 0, .bool false, .slice none 0 0] by have h := HB3.out; simp only [World.size_alloc] at h; rw [hW]; exact h)
  have HW := Lib.hid hW
  have HWS := Lib.hid hWs
  have CK1 := Lib.hid (fcheck_any s1 a1 n1 c1 o1 s2 a2 n2 c2 o2 W (h1.below KG.out) (by omega) hc1 (h2.below KG.out) (by omega) hc2)
  have CK2 := Lib.hid (fun (w' : World) (hb : Below W.heap.size W w') => fcheck_any s3 a3 n3 c3 o3 s4 a4 n4 c4 o4 w' (h3.below (KG.out.trans (hb.mono KG.out.size))) (by omega) hc3 (h4.below (KG.out.trans (hb.mono KG.out.size))) (by omega) hc4)
  rw [decide_eq_true hk1] at CK1
  rw [decide_eq_false hk] at CK2
  clear hk hk1 h1 h2 h3 h4 hW hWs
  go_enter Tryz.func20, Tryz.ntmps20
  go_upto_region 1 with (fail)
  rw [show ((w.alloc (.cells #[.bool s1, .slice a1 n1 c1, .bool s2, .slice a2 n2 c2] 27)).alloc (.cells #[.bool s3, .slice a3 n3 c3, .bool s4, .slice a4 n4 c4] 27)).alloc (.cells #[.bool false, .slice none 0 0, .bool false, .slice none 0 0] 27) = W from HW.out.symm]
  clear HW
  obtain ⟨x0, x1, x2, x3, x4, x5⟩ := frac_box HB1.out
  go_wp2_with fail
  with_reducible refine CK1.out.mono ?_
  rintro e w1 ⟨rfl, hb1⟩
  clear CK1 x0 x1 x2 x3 x4 x5
  obtain ⟨y0, y1, y2, y3, y4, y5⟩ := frac_box (HB2.out.below hb1 HB2.out.lt)
  go_wp2_with fail
  with_reducible refine (CK2.out w1 hb1).mono ?_
  rintro e w2 ⟨rfl, hb2⟩
  have GB := Lib.hid (hb1.trans (hb2.mono hb1.size))
  clear hb1 hb2 CK2 y0 y1 y2 y3 y4 y5
  have M3 := Lib.hid (HB3.out.below GB.out HB3.out.lt)
  have hG := KG.out.trans (GB.out.mono KG.out.size)
  have hlt := HWS.out
  obtain ⟨z0, z1, z2, z3, zf, zl⟩ := frac_box M3.out
  go_wp2_with fail
  exact bodyPost_ret (results_ct rfl _ _ _ _ _ _ _ rfl ((((M3.out.put 0 _).put 1 _).put 2 _).put 3 _) Tryz.underlying27 rfl (by kernel_rfl)) rfl ⟨rfl, (((hG.setCell (by dsimp only; omega) _).setCell (by dsimp only; omega) _).setCell (by dsimp only; omega) _).setCell (by dsimp only; omega) _⟩
open Classical in
set_option maxRecDepth 100000 in
set_option maxHeartbeats 4000000 in
theorem fdiv_ok (s1 : Bool) (a1 : Option Addr) (n1 c1 : Nat) (o1 : Nat → Int) (s2 : Bool) (a2 : Option Addr) (n2 c2 : Nat) (o2 : Nat → Int) (s3 : Bool) (a3 : Option Addr) (n3 c3 : Nat) (o3 : Nat → Int) (s4 : Bool) (a4 : Option Addr) (n4 c4 : Nat) (o4 : Nat → Int) (w : World)
    (h1 : Rd w a1 n1 o1) (hn1 : n1 ≤ 900000) (hc1 : n1 ≤ c1) (h2 : Rd w a2 n2 o2) (hn2 : n2 ≤ 900000) (hc2 : n2 ≤ c2) (h3 : Rd w a3 n3 o3) (hn3 : n3 ≤ 900000) (hc3 : n3 ≤ c3) (h4 : Rd w a4 n4 o4) (hn4 : n4 ≤ 900000) (hc4 : n4 ≤ c4) (hk1 : okF s1 n1 o1 s2 n2 o2) (hk : okF s3 n3 o3 s4 n4 o4) (x y : Rat) (hx : x = valF s1 n1 o1 s2 n2 o2) (hy : y = valF s3 n3 o3 s4 n4 o4) :
    Calls Tryz.prog 20 #[fracV s1 a1 n1 c1 s2 a2 n2 c2, fracV s3 a3 n3 c3 s4 a4 n4 c4] w (MakeP w (if y = 0 then 6 else 0) (x / y).num (if y = 0 then 0 else ((x / y).den : Int))) := by
  have l1 := valF_len (s1 := s1) (s2 := s2) h1.rng h2.rng
  have l2 := valF_len (s1 := s3) (s2 := s4) h3.rng h4.rng
  rw [← hx] at l1
  rw [← hy] at l2
  have hl1 := lenB_mul_le x.num.natAbs (y.den : Int).natAbs
  have hl2 := lenB_mul_le y.num.natAbs (x.den : Int).natAbs
  rw [← Int.natAbs_mul] at hl1 hl2
  have HL := Lib.hid (show lenB (x.num * (y.den : Int)).natAbs ≤ 4000000 ∧ lenB (y.num * (x.den : Int)).natAbs ≤ 4000000 by omega)
  have hz : (y.num * (x.den : Int) = 0) ↔ y = 0 := by
    have := rat_pos x
    rw [Int.mul_eq_zero, Rat.num_eq_zero]
    exact ⟨fun h => h.elim id (fun h => by omega), Or.inl⟩
  clear hl1 hl2 l1 l2
  have HB1 := Lib.hid (((Bxs.new w 27 [.bool s1, .slice a1 n1 c1, .bool s2, .slice a2 n2 c2]).alloc (.cells #[.bool s3, .slice a3 n3 c3, .bool s4, .slice a4 n4 c4] 27)).alloc (.cells #[.bool false, .slice none 0 0, .bool false, .slice none 0 0] 27))
  have HB2 := Lib.hid ((Bxs.new (w.alloc (.cells #[.bool s1, .slice a1 n1 c1, .bool s2, .slice a2 n2 c2] 27)) 27 [.bool s3, .slice a3 n3 c3, .bool s4, .slice a4 n4 c4]).alloc (.cells #[.bool false, .slice none 0 0, .bool false, .slice none 0 0] 27))
  have HB3 := Lib.hid (Bxs.new ((w.alloc (.cells #[.bool s1, .slice a1 n1 c1, .bool s2, .slice a2 n2 c2] 27)).alloc (.cells #[.bool s3, .slice a3 n3 c3, .bool s4, .slice a4 n4 c4] 27)) 27 [.bool false, .slice none 0 0, .bool false, .slice none 0 0])
  obtain ⟨W, hW⟩ : ∃ W, W = ((w.alloc (.cells #[.bool s1, .slice a1 n1 c1, .bool s2, .slice a2 n2 c2] 27)).alloc (.cells #[.bool s3, .slice a3 n3 c3, .bool s4, .slice a4 n4 c4] 27)).alloc (.cells #[.bool false, .slice none 0 0, .bool false, .slice none 0 0] 27) := ⟨_, rfl⟩
  have KG := Lib.hid (show Below w.heap.size w W by rw [hW]; exact (((Below.refl _ _).alloc (Nat.le_refl _) _).alloc (by go_size) _).alloc (by go_size) _)
  have hWs : w.heap.size + 3 = W.heap.size := by rw [hW]; simp
  have HB1 := Lib.hid (show Bxs W w.heap.size 27 [.bool s1, .slice a1 n1 c1, .bool s2, .slice a2 n2 c2] by rw [hW]; exact HB1.out)
  have HB2 := Lib.hid (show Bxs W (w.heap.size + 1) 27 [.bool s3, .slice a3 n3 c3, .bool s4, .slice a4 n4 c4] by have h := HB2.out; simp only [World.size_alloc] at h; rw [hW]; exact h)
  have HB3 := Lib.hid (show Bxs W (w.heap.size + 1 + 1) 27 [.bool false, .slice none 0 0, .bool false, .slice none 0 0] by have h := HB3.out; simp only [World.size_alloc] at h; rw [hW]; exact h)
  have HW := Lib.hid hW
  have HWS := Lib.hid hWs
  have CK1 := Lib.hid (fcheck_any s1 a1 n1 c1 o1 s2 a2 n2 c2 o2 W (h1.below KG.out) (by omega) hc1 (h2.below KG.out) (by omega) hc2)
  have CK2 := Lib.hid (fun (w' : World) (hb : Below W.heap.size W w') => fcheck_any s3 a3 n3 c3 o3 s4 a4 n4 c4 o4 w' (h3.below (KG.out.trans (hb.mono KG.out.size))) (by omega) hc3 (h4.below (KG.out.trans (hb.mono KG.out.size))) (by omega) hc4)
  rw [decide_eq_true hk1] at CK1
  rw [decide_eq_true hk] at CK2
  have BR := Lib.hid (fun (w' : World) (hb : Below W.heap.size W w') => brought_any s1 a1 n1 c1 o1 s2 a2 n2 c2 o2 s3 a3 n3 c3 o3 s4 a4 n4 c4 o4 w' x y hx hy (h1.below (KG.out.trans (hb.mono KG.out.size))) (by omega) hc1 (h2.below (KG.out.trans (hb.mono KG.out.size))) (by omega) hc2 (h3.below (KG.out.trans (hb.mono KG.out.size))) (by omega) hc3 (h4.below (KG.out.trans (hb.mono KG.out.size))) (by omega) hc4)
  have MK := Lib.hid (fun (m1 m2 : Option Addr) (w' : World) => make_canon (x.num * (y.den : Int)) (y.num * (x.den : Int)) m1 m2 (lenB (x.num * (y.den : Int)).natAbs) (lenB (y.num * (x.den : Int)).natAbs) w')
  rw [rat_div] at MK
  simp only [hz] at MK
  obtain ⟨T1, hT1⟩ : ∃ T1, T1 = x.num * (y.den : Int) := ⟨_, rfl⟩
  obtain ⟨T2, hT2⟩ : ∃ T2, T2 = y.num * (x.den : Int) := ⟨_, rfl⟩
  obtain ⟨Lw, hLw⟩ : ∃ Lw, Lw = (x.den : Int) * (y.den : Int) := ⟨_, rfl⟩
  obtain ⟨ce, hce⟩ : ∃ ce : Int, ce = if y = 0 then 6 else 0 := ⟨_, rfl⟩
  obtain ⟨p, hp⟩ : ∃ p : Int, p = (x / y).num := ⟨_, rfl⟩
  obtain ⟨q, hq⟩ : ∃ q : Int, q = if y = 0 then 0 else ((x / y).den : Int) := ⟨_, rfl⟩
  rw [← hT1, ← hT2, ← hLw] at BR
  rw [← hT1, ← hT2] at HL MK
  rw [← hce, ← hp, ← hq] at MK ⊢
  clear hk hk1 hx hy h1 h2 h3 h4 hW hWs hz hT1 hT2 hLw hce hp hq
  go_enter Tryz.func20, Tryz.ntmps20
  go_upto_region 1 with (fail)
  rw [show ((w.alloc (.cells #[.bool s1, .slice a1 n1 c1, .bool s2, .slice a2 n2 c2] 27)).alloc (.cells #[.bool s3, .slice a3 n3 c3, .bool s4, .slice a4 n4 c4] 27)).alloc (.cells #[.bool false, .slice none 0 0, .bool false, .slice none 0 0] 27) = W from HW.out.symm]
  clear HW
  obtain ⟨x0, x1, x2, x3, x4, x5⟩ := frac_box HB1.out
  go_wp2_with fail
  with_reducible refine CK1.out.mono ?_
  rintro e w1 ⟨rfl, hb1⟩
  clear CK1 x0 x1 x2 x3 x4 x5
  obtain ⟨y0, y1, y2, y3, y4, y5⟩ := frac_box (HB2.out.below hb1 HB2.out.lt)
  go_wp2_with fail
  with_reducible refine (CK2.out w1 hb1).mono ?_
  rintro e w2 ⟨rfl, hb2⟩
  have GB := Lib.hid (hb1.trans (hb2.mono hb1.size))
  clear hb1 hb2 CK2 y0 y1 y2 y3 y4 y5
  go_upto_region 3 with (fail)
  obtain ⟨x0, x1, x2, x3, x4, x5⟩ := frac_box (HB1.out.below GB.out HB1.out.lt)
  obtain ⟨y0, y1, y2, y3, y4, y5⟩ := frac_box (HB2.out.below GB.out HB2.out.lt)
  go_wp2_with fail
  with_reducible refine (BR.out w2 GB.out).mono ?_
  rintro e w3 ⟨m1, m2, m3, rfl, O1, O2, -, hb⟩
  go_upto_region 4 with (fail)
  obtain ⟨V, hV⟩ : ∃ V, V = (w3.alloc (.cells #[.bool (decide (T1 < 0)), .slice m1 (lenB T1.natAbs) (lenB T1.natAbs), .bool (decide (T2 < 0)), .slice m2 (lenB T2.natAbs) (lenB T2.natAbs)] 70)).alloc (.cells #[.bool (decide (Lw < 0)), .slice m3 (lenB Lw.natAbs) (lenB Lw.natAbs)] 24) := ⟨_, rfl⟩
  have M4 := Lib.hid (show Bxs V w3.heap.size 70 [.bool (decide (T1 < 0)), .slice m1 (lenB T1.natAbs) (lenB T1.natAbs), .bool (decide (T2 < 0)), .slice m2 (lenB T2.natAbs) (lenB T2.natAbs)] by rw [hV]; exact (Bxs.new w3 70 [.bool (decide (T1 < 0)), .slice m1 (lenB T1.natAbs) (lenB T1.natAbs), .bool (decide (T2 < 0)), .slice m2 (lenB T2.natAbs) (lenB T2.natAbs)]).alloc _)
  have hbV : Below w2.heap.size w2 V := by rw [hV]; exact (hb.alloc hb.size _).alloc (by have := hb.size; go_size) _
  have GB := Lib.hid (GB.out.trans (hbV.mono GB.out.size))
  have O1 := Lib.hid (show Own 74 V w2.heap.size m1 (lenB T1.natAbs) (lenB T1.natAbs) (dgi T1.natAbs) by rw [hV]; exact (O1.allocd _).allocd _)
  have O2 := Lib.hid (show Own 74 V w2.heap.size m2 (lenB T2.natAbs) (lenB T2.natAbs) (dgi T2.natAbs) by rw [hV]; exact (O2.allocd _).allocd _)
  obtain ⟨b4, hb4⟩ : ∃ b, b = w3.heap.size := ⟨_, rfl⟩
  rw [show (w3.alloc (.cells #[.bool (decide (T1 < 0)), .slice m1 (lenB T1.natAbs) (lenB T1.natAbs), .bool (decide (T2 < 0)), .slice m2 (lenB T2.natAbs) (lenB T2.natAbs)] 70)).alloc (.cells #[.bool (decide (Lw < 0)), .slice m3 (lenB Lw.natAbs) (lenB Lw.natAbs)] 24) = V from hV.symm]
  rw [← hb4] at M4 ⊢
  have MK := Lib.hid (MK.out m1 m2 V O1.out.rd HL.out.1 (Nat.le_refl _) O2.out.rd HL.out.2 (Nat.le_refl _))
  have M3 := Lib.hid (HB3.out.below GB.out HB3.out.lt)
  have KG := Lib.hid (KG.out.trans (GB.out.mono KG.out.size))
  have HVS := Lib.hid (Nat.le_trans (Nat.le_of_eq HWS.out) GB.out.size)
  clear hV hbV hb hb4 x0 x1 x2 x3 x4 x5 y0 y1 y2 y3 y4 y5 HB1 HB2 HB3 BR O1 O2 GB HWS HL
  have x0 := M4.out.cell (i := 0) rfl
  have x1 := M4.out.cell (i := 1) rfl
  have x2 := M4.out.cell (i := 2) rfl
  have x3 := M4.out.cell (i := 3) rfl
  have x4 := M4.out.fz
  have x5 := M4.out.lt
  go_wp2_with fail
  with_reducible refine MK.out.mono ?_
  rintro e w4 ⟨r1, r2, rfl, Q1, Q2, hap, hb⟩
  have M3 := Lib.hid (M3.out.below hb M3.out.lt)
  have KG := Lib.hid (KG.out.trans (hb.mono KG.out.size))
  have hvs := HVS.out
  clear x0 x1 x2 x3 x4 x5 M4 MK hb
  obtain ⟨z0, z1, z2, z3, zf, zl⟩ := frac_box M3.out
  go_wp2_with fail
  refine bodyPost_ret (results_ct rfl _ _ _ _ _ _ _ rfl ((((M3.out.put 0 _).put 1 _).put 2 _).put 3 _) Tryz.underlying27 rfl (by kernel_rfl)) rfl ⟨r1, r2, rfl, ?_, ?_, hap, ?_⟩
  · exact ((((Q1.other (by dsimp only; omega) _).other (by dsimp only; omega) _).other (by dsimp only; omega) _).other (by dsimp only; omega) _).mono (by omega)
  · exact ((((Q2.other (by dsimp only; omega) _).other (by dsimp only; omega) _).other (by dsimp only; omega) _).other (by dsimp only; omega) _).mono (by omega)
  · exact (((KG.out.setCell (by dsimp only; omega) _).setCell (by dsimp only; omega) _).setCell (by dsimp only; omega) _).setCell (by dsimp only; omega) _
end Go.Proofs.YtaagegcidbgjmaaGreatDoor.Limb
namespace Go.Proofs.YtaagegcidbgjmaaGreatDoor.Limb
open Go.RowKit Go.Sort Go.Fresh

theorem one_iff (s : Bool) (n : Nat) (o : Nat → Int) (h : okN s n o) (h0 : ∀ i, i < n → 0 ≤ o i ∧ o i ≤ 4294967295) : valN s n o = 1 ↔ s = false ∧ n = 1 ∧ o 0 = 1 := by
  obtain ⟨f1, f2, f3⟩ := of_facts s n o h h0
  constructor
  · intro e
    rw [e] at f1 f2 f3
    have hl : lenB (Int.natAbs 1) = 1 := by rw [show Int.natAbs 1 = 1 from rfl, lenB_pos (by decide), show 1 / 1000000000 = 0 from rfl, lenB_zero]
    have hn : n = 1 := by omega
    subst hn
    refine ⟨by rw [← f1]; rfl, rfl, ?_⟩
    rw [f3 0 (by omega)]
    show ((dg 1 0 : Nat) : Int) = 1
    rw [dg_zero]; rfl
  · rintro ⟨rfl, rfl, e⟩
    unfold valN
    rw [if_pos h, if_neg (by simp)]
    show (0 : Int) + o 0 * ((pw 0 : Nat) : Int) = 1
    rw [e, pw_zero]; rfl
/-- A fraction comes back, in two lists of the call's own, of any capacity. -/
def FracF (w : World) (p q : Int) (e : Ending) (w' : World) : Prop :=
  ∃ a1 c1 a2 c2, e = .returned (fracV (decide (p < 0)) a1 (lenB p.natAbs) c1 (decide (q < 0)) a2 (lenB q.natAbs) c2) ∧ Own 74 w' w.heap.size a1 (lenB p.natAbs) c1 (dgi p.natAbs) ∧
    Own 74 w' w.heap.size a2 (lenB q.natAbs) c2 (dgi q.natAbs) ∧ Below w.heap.size w w'

open Classical in
set_option maxRecDepth 100000 in
set_option maxHeartbeats 2000000 in
theorem rone_any (s1 : Bool) (a1 : Option Addr) (n1 c1 : Nat) (o1 : Nat → Int) (w : World) (h1 : Rd w a1 n1 o1) (hn1 : n1 ≤ 100000000) (hc1 : n1 ≤ c1) (hk : okN s1 n1 o1) :
    Calls Tryz.prog 102 #[numV s1 a1 n1 c1] w fun e w' => e = .returned (.bool (decide (valN s1 n1 o1 = 1))) ∧ Below w.heap.size w w' := by
  have RES := Lib.hid (one_iff s1 n1 o1 hk h1.rng)
  have HB1 := Lib.hid (Bxs.new (w) 24 [.bool s1, .slice a1 n1 c1])
  obtain ⟨W, hW⟩ : ∃ W, W = w.alloc (.cells #[.bool s1, .slice a1 n1 c1] 24) := ⟨_, rfl⟩
  have KG := Lib.hid (show Below w.heap.size w W by rw [hW]; exact (Below.refl _ _).alloc (Nat.le_refl _) _)
  have HWS := Lib.hid (show w.heap.size + 1 ≤ W.heap.size by rw [hW]; simp only [World.size_alloc]; omega)
  have HB1 := Lib.hid (show Bxs W (w.heap.size) 24 [.bool s1, .slice a1 n1 c1] by have h := HB1.out; rw [hW]; exact h)
  have HW := Lib.hid hW
  clear hW
  have HR := Lib.hid (h1.below KG.out)
  clear h1 hk
  cases s1 with
  | true =>
    rw [decide_eq_false (fun h => by cases (RES.out.1 h).1)]
    clear RES
    go_enter Tryz.func102, Tryz.ntmps102
    go_upto_region 1 with (fail)
    rw [show w.alloc (.cells #[.bool true, .slice a1 n1 c1] 24) = W from HW.out.symm]
    clear HW
    have b1c0 := HB1.out.cell (i := 0) rfl
    have b1c1 := HB1.out.cell (i := 1) rfl
    have b1f := HB1.out.fz
    have b1l := HB1.out.lt
    go_wp2_with fail
    clear b1c0 b1c1 b1f b1l
    go_ret
    exact ⟨rfl, KG.out⟩
  | false =>
    by_cases hn : n1 = 1
    · subst hn
      obtain ⟨b, off, rfl, hc⟩ := HR.out.cells (by omega)
      have hc := hc 0 (by omega)
      rw [show decide (valN false 1 o1 = 1) = decide (o1 0 = 1) from decide_eq_decide.2 ⟨fun h => (RES.out.1 h).2.2, fun h => RES.out.2 ⟨rfl, rfl, h⟩⟩]
      clear RES
      change _ = some (Value.int .u32 (o1 0)) at hc
      obtain ⟨t, ht⟩ : ∃ t, t = o1 0 := ⟨_, rfl⟩
      rw [← ht] at hc ⊢
      clear ht
      simp only [Nat.add_zero] at hc
      go_enter Tryz.func102, Tryz.ntmps102
      go_upto_region 1 with (fail)
      rw [show w.alloc (.cells #[.bool false, .slice (some ⟨b, off, none⟩) 1 c1] 24) = W from HW.out.symm]
      clear HW
      have b1c0 := HB1.out.cell (i := 0) rfl
      have b1c1 := HB1.out.cell (i := 1) rfl
      have b1f := HB1.out.fz
      have b1l := HB1.out.lt
      go_wp2_with fail
      clear b1c0 b1c1 b1f b1l
      go_ret
      exact ⟨by first | rfl | (congr 1; simp), KG.out⟩
    · rw [decide_eq_false (fun h => hn (RES.out.1 h).2.1)]
      clear RES
      have hn' : ¬ (n1 : Int) = 1 := by omega
      clear hn
      go_enter Tryz.func102, Tryz.ntmps102
      go_upto_region 1 with (fail)
      rw [show w.alloc (.cells #[.bool false, .slice a1 n1 c1] 24) = W from HW.out.symm]
      clear HW
      have b1c0 := HB1.out.cell (i := 0) rfl
      have b1c1 := HB1.out.cell (i := 1) rfl
      have b1f := HB1.out.fz
      have b1l := HB1.out.lt
      go_wp2_with fail
      clear b1c0 b1c1 b1f b1l
      go_ret
      exact ⟨rfl, KG.out⟩

open Classical in
set_option maxRecDepth 100000 in
set_option maxHeartbeats 2000000 in
theorem rfcheck_any (s1 : Bool) (a1 : Option Addr) (n1 c1 : Nat) (o1 : Nat → Int) (s2 : Bool) (a2 : Option Addr) (n2 c2 : Nat) (o2 : Nat → Int) (w : World)
    (h1 : Rd w a1 n1 o1) (hn1 : n1 ≤ 5000000) (hc1 : n1 ≤ c1) (h2 : Rd w a2 n2 o2) (hn2 : n2 ≤ 5000000) (hc2 : n2 ≤ c2) :
    Calls Tryz.prog 88 #[fracV s1 a1 n1 c1 s2 a2 n2 c2] w fun e w' => e = .returned (.bool (decide (okF s1 n1 o1 s2 n2 o2))) ∧ Below w.heap.size w w' := by
  have HB := Lib.hid (Bxs.new w 27 [.bool s1, .slice a1 n1 c1, .bool s2, .slice a2 n2 c2])
  obtain ⟨W, hW⟩ : ∃ W, W = w.alloc (.cells #[.bool s1, .slice a1 n1 c1, .bool s2, .slice a2 n2 c2] 27) := ⟨_, rfl⟩
  have HBW := Lib.hid (show Below w.heap.size w W by rw [hW]; exact (Below.refl _ _).alloc (Nat.le_refl _) _)
  rw [show w.alloc (.cells (List.toArray [.bool s1, .slice a1 n1 c1, .bool s2, .slice a2 n2 c2]) 27) = W from hW.symm] at HB
  have HW := Lib.hid hW
  have GB := Lib.hid (Below.refl W.heap.size W)
  have CK1 := Lib.hid (fun (w' : World) (hb : Below W.heap.size W w') => rcheck_any s1 a1 n1 c1 o1 w' (h1.below (HBW.out.trans (hb.mono HBW.out.size))) (by omega))
  have CK2 := Lib.hid (fun (w' : World) (hb : Below W.heap.size W w') => rcheck_any s2 a2 n2 c2 o2 w' (h2.below (HBW.out.trans (hb.mono HBW.out.size))) (by omega))
  have SG := Lib.hid (fun (w' : World) (hb : Below W.heap.size W w') => rsign_any s2 a2 n2 c2 o2 w' (h2.below (HBW.out.trans (hb.mono HBW.out.size))) (by omega) hc2)
  have GC := Lib.hid (fun (w' : World) (hb : Below W.heap.size W w') => rgcd_any s1 a1 n1 c1 o1 s2 a2 n2 c2 o2 w' (h1.below (HBW.out.trans (hb.mono HBW.out.size))) (by omega) hc1 (h2.below (HBW.out.trans (hb.mono HBW.out.size))) (by omega) hc2)
  have HGL := Lib.hid (show lenB (Int.gcd (valN s1 n1 o1) (valN s2 n2 o2)) ≤ 10000000 from by
    obtain ⟨_, _, _, l1, _⟩ := fit_any s1 a1 n1 c1 o1 w h1 (by omega) hc1
    obtain ⟨_, _, _, l2, _⟩ := fit_any s2 a2 n2 c2 o2 w h2 (by omega) hc2
    have := gcd_len (valN s1 n1 o1) (valN s2 n2 o2)
    omega)
  have HRD := Lib.hid (fun (w' : World) (hb : Below W.heap.size W w') => h2.below (HBW.out.trans (hb.mono HBW.out.size)))
  clear h1 h2 hW
  by_cases k1 : okN s1 n1 o1
  · rw [decide_eq_true k1] at CK1
    by_cases k2 : okN s2 n2 o2
    · rw [decide_eq_true k2] at CK2
      obtain ⟨cs, hcs⟩ : ∃ cs, cs = cmpZ (valN s2 n2 o2) 0 := ⟨_, rfl⟩
      rw [← hcs] at SG
      by_cases k3 : 0 < valN s2 n2 o2
      · have hc3 : decide (0 < cs) = true := by rw [hcs, cmpZ_gt k3]; rfl
        obtain ⟨G, hG⟩ : ∃ G : Int, G = ((Int.gcd (valN s1 n1 o1) (valN s2 n2 o2) : Nat) : Int) := ⟨_, rfl⟩
        rw [← hG] at GC
        have HGN := Lib.hid (show lenB G.natAbs ≤ 10000000 by rw [hG, Int.natAbs_natCast]; exact HGL.out)
        have RES := Lib.hid (okF_dec s1 n1 o1 s2 n2 o2 k1 k2 k3)
        rw [← hG] at RES
        have RO := Lib.hid (fun (w' : World) (hb : Below W.heap.size W w') => rone_any s2 a2 n2 c2 o2 w' (HRD.out w' hb) (by omega) hc2 k2)
        have HD := Lib.hid (show (decide (valN s2 n2 o2 = 1) = true ∧ decide (okF s1 n1 o1 s2 n2 o2) = true) ∨ decide (valN s2 n2 o2 = 1) = false by
          by_cases h1 : valN s2 n2 o2 = 1
          · exact Or.inl ⟨decide_eq_true h1, by rw [RES.out, hG, h1]; exact decide_eq_true (by rw [Int.gcd_one_right]; rfl)⟩
          · exact Or.inr (decide_eq_false h1))
        obtain ⟨dv, hdv⟩ : ∃ dv, dv = decide (valN s2 n2 o2 = 1) := ⟨_, rfl⟩
        rw [← hdv] at RO HD
        clear hdv hG hcs k1 k2 k3 HRD
        go_enter Tryz.func88, Tryz.ntmps88
        go_upto_region 1 with (fail)
        rw [show w.alloc (.cells #[.bool s1, .slice a1 n1 c1, .bool s2, .slice a2 n2 c2] 27) = W from HW.out.symm]
        obtain ⟨x0, x1, x2, x3, x4, x5⟩ := frac_box HB.out
        go_wp2_with fail
        refine (CK1.out _ GB.out).mono ?_
        rintro e w' ⟨rfl, hb⟩
        have GB := Lib.hid (GB.out.trans (hb.mono GB.out.size))
        clear hb x0 x1 x2 x3 x4 x5
        obtain ⟨x0, x1, x2, x3, x4, x5⟩ := frac_box (HB.out.below GB.out HB.out.lt)
        obtain ⟨w1, rfl⟩ : ∃ w1, w1 = w' := ⟨_, rfl⟩
        go_wp2_with fail
        refine (CK2.out _ GB.out).mono ?_
        rintro e w' ⟨rfl, hb⟩
        have GB := Lib.hid (GB.out.trans (hb.mono GB.out.size))
        clear hb x0 x1 x2 x3 x4 x5
        obtain ⟨x0, x1, x2, x3, x4, x5⟩ := frac_box (HB.out.below GB.out HB.out.lt)
        obtain ⟨w1, rfl⟩ : ∃ w1, w1 = w' := ⟨_, rfl⟩
        go_wp2_with fail
        refine (SG.out _ GB.out).mono ?_
        rintro e w' ⟨rfl, hb⟩
        have GB := Lib.hid (GB.out.trans (hb.mono GB.out.size))
        clear hb x0 x1 x2 x3 x4 x5
        obtain ⟨x0, x1, x2, x3, x4, x5⟩ := frac_box (HB.out.below GB.out HB.out.lt)
        obtain ⟨w1, rfl⟩ : ∃ w1, w1 = w' := ⟨_, rfl⟩
        go_wp2_with fail
        refine (RO.out _ GB.out).mono ?_
        rintro e w' ⟨rfl, hb⟩
        have GB := Lib.hid (GB.out.trans (hb.mono GB.out.size))
        clear hb RO x0 x1 x2 x3 x4 x5
        rcases HD.out with ⟨h1, hr⟩ | h1
        · subst h1
          have RES := Lib.hid hr
          clear hr HD
          go_wp2_with fail
          go_ret
          exact ⟨by rw [RES.out]; rfl, HBW.out.trans (GB.out.mono HBW.out.size)⟩
        · subst h1
          clear HD
          obtain ⟨x0, x1, x2, x3, x4, x5⟩ := frac_box (HB.out.below GB.out HB.out.lt)
          go_wp2_with fail
          refine (GC.out _ GB.out).mono ?_
          rintro e w2 ⟨x, xc, rfl, ho, hb⟩
          have UN := Lib.hid (rone_any (decide (G < 0)) x (lenB G.natAbs) xc (dgi G.natAbs) w2 ho.rd (by have := HGN.out; omega) ho.le (canon_ok G))
          rw [canon_val] at UN
          have GB := Lib.hid (GB.out.trans (hb.mono GB.out.size))
          clear hb ho x0 x1 x2 x3 x4 x5
          go_wp2_with fail
          refine UN.out.mono ?_
          rintro e w3 ⟨rfl, hb⟩
          have GB := Lib.hid (GB.out.trans (hb.mono GB.out.size))
          clear hb UN
          go_wp2_with fail
          go_ret
          exact ⟨by rw [RES.out]; first | rfl | (congr 1; simp), HBW.out.trans (GB.out.mono HBW.out.size)⟩
      · have hc3 : decide (0 < cs) = false := by
          rw [hcs]
          refine decide_eq_false ?_
          rcases Int.lt_trichotomy (valN s2 n2 o2) 0 with h | h | h
          · rw [cmpZ_lt h]; omega
          · rw [cmpZ_eq h]; omega
          · exact absurd h k3
        have RES := Lib.hid (show decide (okF s1 n1 o1 s2 n2 o2) = false from decide_eq_false fun h => k3 h.2.2.1)
        clear hcs k1 k2 k3
        go_enter Tryz.func88, Tryz.ntmps88
        go_upto_region 1 with (fail)
        rw [show w.alloc (.cells #[.bool s1, .slice a1 n1 c1, .bool s2, .slice a2 n2 c2] 27) = W from HW.out.symm]
        obtain ⟨x0, x1, x2, x3, x4, x5⟩ := frac_box HB.out
        go_wp2_with fail
        refine (CK1.out _ GB.out).mono ?_
        rintro e w' ⟨rfl, hb⟩
        have GB := Lib.hid (GB.out.trans (hb.mono GB.out.size))
        clear hb x0 x1 x2 x3 x4 x5
        obtain ⟨x0, x1, x2, x3, x4, x5⟩ := frac_box (HB.out.below GB.out HB.out.lt)
        obtain ⟨w1, rfl⟩ : ∃ w1, w1 = w' := ⟨_, rfl⟩
        go_wp2_with fail
        refine (CK2.out _ GB.out).mono ?_
        rintro e w' ⟨rfl, hb⟩
        have GB := Lib.hid (GB.out.trans (hb.mono GB.out.size))
        clear hb x0 x1 x2 x3 x4 x5
        obtain ⟨x0, x1, x2, x3, x4, x5⟩ := frac_box (HB.out.below GB.out HB.out.lt)
        obtain ⟨w1, rfl⟩ : ∃ w1, w1 = w' := ⟨_, rfl⟩
        go_wp2_with fail
        refine (SG.out _ GB.out).mono ?_
        rintro e w' ⟨rfl, hb⟩
        have GB := Lib.hid (GB.out.trans (hb.mono GB.out.size))
        clear hb x0 x1 x2 x3 x4 x5
        obtain ⟨x0, x1, x2, x3, x4, x5⟩ := frac_box (HB.out.below GB.out HB.out.lt)
        obtain ⟨w1, rfl⟩ : ∃ w1, w1 = w' := ⟨_, rfl⟩
        go_wp2_with fail
        go_ret
        exact ⟨by rw [RES.out]; rfl, HBW.out.trans (GB.out.mono HBW.out.size)⟩
    · rw [decide_eq_false k2] at CK2
      have RES := Lib.hid (show decide (okF s1 n1 o1 s2 n2 o2) = false from decide_eq_false fun h => k2 h.2.1)
      clear k1 k2
      go_enter Tryz.func88, Tryz.ntmps88
      go_upto_region 1 with (fail)
      rw [show w.alloc (.cells #[.bool s1, .slice a1 n1 c1, .bool s2, .slice a2 n2 c2] 27) = W from HW.out.symm]
      obtain ⟨x0, x1, x2, x3, x4, x5⟩ := frac_box HB.out
      go_wp2_with fail
      refine (CK1.out _ GB.out).mono ?_
      rintro e w' ⟨rfl, hb⟩
      have GB := Lib.hid (GB.out.trans (hb.mono GB.out.size))
      clear hb x0 x1 x2 x3 x4 x5
      obtain ⟨x0, x1, x2, x3, x4, x5⟩ := frac_box (HB.out.below GB.out HB.out.lt)
      obtain ⟨w1, rfl⟩ : ∃ w1, w1 = w' := ⟨_, rfl⟩
      go_wp2_with fail
      refine (CK2.out _ GB.out).mono ?_
      rintro e w' ⟨rfl, hb⟩
      have GB := Lib.hid (GB.out.trans (hb.mono GB.out.size))
      clear hb x0 x1 x2 x3 x4 x5
      obtain ⟨x0, x1, x2, x3, x4, x5⟩ := frac_box (HB.out.below GB.out HB.out.lt)
      obtain ⟨w1, rfl⟩ : ∃ w1, w1 = w' := ⟨_, rfl⟩
      go_wp2_with fail
      go_ret
      exact ⟨by rw [RES.out]; rfl, HBW.out.trans (GB.out.mono HBW.out.size)⟩
  · rw [decide_eq_false k1] at CK1
    have RES := Lib.hid (show decide (okF s1 n1 o1 s2 n2 o2) = false from decide_eq_false fun h => k1 h.1)
    clear k1
    go_enter Tryz.func88, Tryz.ntmps88
    go_upto_region 1 with (fail)
    rw [show w.alloc (.cells #[.bool s1, .slice a1 n1 c1, .bool s2, .slice a2 n2 c2] 27) = W from HW.out.symm]
    obtain ⟨x0, x1, x2, x3, x4, x5⟩ := frac_box HB.out
    go_wp2_with fail
    refine (CK1.out _ GB.out).mono ?_
    rintro e w' ⟨rfl, hb⟩
    have GB := Lib.hid (GB.out.trans (hb.mono GB.out.size))
    clear hb x0 x1 x2 x3 x4 x5
    obtain ⟨x0, x1, x2, x3, x4, x5⟩ := frac_box (HB.out.below GB.out HB.out.lt)
    obtain ⟨w1, rfl⟩ : ∃ w1, w1 = w' := ⟨_, rfl⟩
    go_wp2_with fail
    go_ret
    exact ⟨by rw [RES.out]; rfl, HBW.out.trans (GB.out.mono HBW.out.size)⟩
open Classical in
set_option maxRecDepth 100000 in
set_option maxHeartbeats 1000000 in
theorem rfof_any (n : Int) (w : World) (h1 : -9223372036854775808 ≤ n) (h2 : n ≤ 9223372036854775807) :
    Calls Tryz.prog 10 #[.int .i64 n] w (FracF w n 1) := by
  obtain ⟨one, hone⟩ : ∃ one : Int, one = 1 := ⟨_, rfl⟩
  have OF1 := Lib.hid (fun (w' : World) => rof64_any n w' h1 h2)
  have OF2 := Lib.hid (show ∀ w', Calls Tryz.prog 39 #[.int .i64 1] w' (ResF w' one) from fun w' => by rw [hone]; exact rof64_any 1 w' (by omega) (by omega))
  rw [← hone]
  have HB := Lib.hid (Bxs.new w 27 [.bool false, .slice none 0 0, .bool false, .slice none 0 0])
  have HBW := Lib.hid (show Below w.heap.size w (w.alloc (.cells #[.bool false, .slice none 0 0, .bool false, .slice none 0 0] 27)) from (Below.refl _ _).alloc (Nat.le_refl _) _)
  obtain ⟨W, hW⟩ : ∃ W, W = w.alloc (.cells #[.bool false, .slice none 0 0, .bool false, .slice none 0 0] 27) := ⟨_, rfl⟩
  rw [show w.alloc (.cells (List.toArray [.bool false, .slice none 0 0, .bool false, .slice none 0 0]) 27) = W from hW.symm] at HB
  rw [← hW] at HBW
  have HW := Lib.hid hW
  clear h1 h2 hone hW
  go_enter Tryz.func10, Tryz.ntmps10
  go_upto_region 1 with (fail)
  rw [show w.alloc (.cells #[.bool false, .slice none 0 0, .bool false, .slice none 0 0] 27) = W from HW.out.symm]
  go_wp2_with fail
  refine (OF1.out _).mono ?_
  rintro e w1 ⟨a1, d1, rfl, ho1, hb1⟩
  have HO1 := Lib.hid ho1
  have GB := Lib.hid hb1
  clear ho1 hb1
  go_wp2_with fail
  refine (OF2.out _).mono ?_
  rintro e w2 ⟨a2, d2, rfl, ho2, hb2⟩
  have HO1 := Lib.hid (HO1.out.below hb2)
  have HO2 := Lib.hid (ho2.mono GB.out.size)
  have GB := Lib.hid (GB.out.trans (hb2.mono GB.out.size))
  have HB2 := Lib.hid (HB.out.below GB.out HB.out.lt)
  clear ho2 hb2
  obtain ⟨x0, x1, x2, x3, x4, x5⟩ := frac_box HB2.out
  go_wp2_with fail
  have hlt := HB.out.lt
  have hG := HBW.out.trans (GB.out.mono HBW.out.size)
  refine bodyPost_ret (results_cell rfl _ _ _ _ _ _ _ rfl ((((HB2.out.put 0 _).put 1 _).put 2 _).put 3 _) Tryz.underlying27 rfl (by kernel_rfl)) rfl ⟨a1, d1, a2, d2, rfl, ?_, ?_, ?_⟩
  · exact ((((HO1.out.other (by dsimp only; omega) _).other (by dsimp only; omega) _).other (by dsimp only; omega) _).other (by dsimp only; omega) _).mono (by omega)
  · exact ((((HO2.out.other (by dsimp only; omega) _).other (by dsimp only; omega) _).other (by dsimp only; omega) _).other (by dsimp only; omega) _).mono (by omega)
  · exact (((hG.setCell (by dsimp only; omega) _).setCell (by dsimp only; omega) _).setCell (by dsimp only; omega) _).setCell (by dsimp only; omega) _
open Classical in
set_option maxRecDepth 100000 in
set_option maxHeartbeats 2000000 in
theorem rfit_ok (s1 : Bool) (a1 : Option Addr) (n1 c1 : Nat) (o1 : Nat → Int) (s2 : Bool) (a2 : Option Addr) (n2 c2 : Nat) (o2 : Nat → Int) (w : World) (B0 : Nat) (hB0 : B0 ≤ w.heap.size)
    (h1 : Rd w a1 n1 o1) (hn1 : n1 ≤ 5000000) (hc1 : n1 ≤ c1) (f1 : 0 < n1 → ∀ p, a1 = some p → p.block < B0) (h2 : Rd w a2 n2 o2) (hn2 : n2 ≤ 5000000) (hc2 : n2 ≤ c2) (f2 : 0 < n2 → ∀ p, a2 = some p → p.block < B0) (hk : okF s1 n1 o1 s2 n2 o2) :
    Calls Tryz.prog 91 #[fracV s1 a1 n1 c1 s2 a2 n2 c2] w (FracS w B0 (valN s1 n1 o1) (valN s2 n2 o2)) := by
  have CK := Lib.hid (fun (w' : World) (hb : Below w.heap.size w w') => rfcheck_any s1 a1 n1 c1 o1 s2 a2 n2 c2 o2 w' (h1.below hb) hn1 hc1 (h2.below hb) hn2 hc2)
  rw [decide_eq_true hk] at CK
  obtain ⟨t1, t2, t3⟩ := of_facts s1 n1 o1 hk.1 h1.rng
  obtain ⟨u1, u2, u3⟩ := of_facts s2 n2 o2 hk.2.1 h2.rng
  generalize valN s1 n1 o1 = z1 at t1 t2 t3 ⊢
  generalize valN s2 n2 o2 = z2 at u1 u2 u3 ⊢
  have HR := Lib.hid (And.intro (And.intro h1 f1) (And.intro h2 f2))
  have HT := Lib.hid (And.intro (And.intro t1 (And.intro t2 t3)) (And.intro u1 (And.intro u2 u3)))
  clear hk h1 h2 f1 f2 t1 t2 t3 u1 u2 u3
  have HB := Lib.hid ((Bxs.new w 27 [.bool s1, .slice a1 n1 c1, .bool s2, .slice a2 n2 c2]).alloc (.cells #[.bool false, .slice none 0 0, .bool false, .slice none 0 0] 27))
  have HBR := Lib.hid (Bxs.new (w.alloc (.cells #[.bool s1, .slice a1 n1 c1, .bool s2, .slice a2 n2 c2] 27)) 27 [.bool false, .slice none 0 0, .bool false, .slice none 0 0])
  obtain ⟨W, hW⟩ : ∃ W, W = (w.alloc (.cells #[.bool s1, .slice a1 n1 c1, .bool s2, .slice a2 n2 c2] 27)).alloc (.cells #[.bool false, .slice none 0 0, .bool false, .slice none 0 0] 27) := ⟨_, rfl⟩
  have HBW := Lib.hid (show Below w.heap.size w W by rw [hW]; exact ((Below.refl _ _).alloc (Nat.le_refl _) _).alloc (by simp) _)
  rw [show (w.alloc (.cells (List.toArray [.bool s1, .slice a1 n1 c1, .bool s2, .slice a2 n2 c2]) 27)).alloc (.cells #[.bool false, .slice none 0 0, .bool false, .slice none 0 0] 27) = W from hW.symm] at HB
  rw [show (w.alloc (.cells #[.bool s1, .slice a1 n1 c1, .bool s2, .slice a2 n2 c2] 27)).alloc (.cells (List.toArray [.bool false, .slice none 0 0, .bool false, .slice none 0 0]) 27) = W from hW.symm, World.size_alloc] at HBR
  have HW := Lib.hid hW
  clear hW
  go_enter Tryz.func91, Tryz.ntmps91
  go_upto_region 1 with (fail)
  rw [show (w.alloc (.cells #[.bool s1, .slice a1 n1 c1, .bool s2, .slice a2 n2 c2] 27)).alloc (.cells #[.bool false, .slice none 0 0, .bool false, .slice none 0 0] 27) = W from HW.out.symm]
  obtain ⟨x0, x1, x2, x3, x4, x5⟩ := frac_box HB.out
  go_wp2_with fail
  refine (CK.out _ HBW.out).mono ?_
  rintro e w1 ⟨rfl, hb1⟩
  have GB := Lib.hid hb1
  have HB1 := Lib.hid (HB.out.below hb1 HB.out.lt)
  have HR1 := Lib.hid (HBR.out.below hb1 HBR.out.lt)
  clear hb1 CK x0 x1 x2 x3 x4 x5
  obtain ⟨x0, x1, x2, x3, x4, x5⟩ := frac_box HB1.out
  obtain ⟨y0, y1, y2, y3, y4, y5⟩ := frac_box HR1.out
  go_wp2_with fail
  have hlt := HB.out.lt
  have hlt2 := HBR.out.lt
  have hG := HBW.out.trans (GB.out.mono HBW.out.size)
  refine bodyPost_ret (results_cell rfl _ _ _ _ _ _ _ rfl ((((HR1.out.put 0 _).put 1 _).put 2 _).put 3 _) Tryz.underlying27 rfl (by kernel_rfl)) rfl ⟨a1, c1, a2, c2, ?_, ?_, ?_, ?_, ?_, ?_⟩
  · rw [HT.out.1.1, HT.out.1.2.1, HT.out.2.1, HT.out.2.2.1]; rfl
  · rw [HT.out.1.2.1]
    have r : RdS w1 B0 (w.heap.size + 2) a1 n1 (dgi z1.natAbs) := ⟨(HR.out.1.1.congr HT.out.1.2.2).below hG, fun h0 p hp => Or.inl (HR.out.1.2 h0 p hp)⟩
    exact ((((r.set (by dsimp only; omega) (by dsimp only; omega) _).set (by dsimp only; omega) (by dsimp only; omega) _).set (by dsimp only; omega) (by dsimp only; omega) _).set (by dsimp only; omega) (by dsimp only; omega) _).up (by omega)
  · rw [HT.out.1.2.1]; exact hc1
  · rw [HT.out.2.2.1]
    have r : RdS w1 B0 (w.heap.size + 2) a2 n2 (dgi z2.natAbs) := ⟨(HR.out.2.1.congr HT.out.2.2.2).below hG, fun h0 p hp => Or.inl (HR.out.2.2 h0 p hp)⟩
    exact ((((r.set (by dsimp only; omega) (by dsimp only; omega) _).set (by dsimp only; omega) (by dsimp only; omega) _).set (by dsimp only; omega) (by dsimp only; omega) _).set (by dsimp only; omega) (by dsimp only; omega) _).up (by omega)
  · rw [HT.out.2.2.1]; exact hc2
  · exact (((hG.setCell (by dsimp only; omega) _).setCell (by dsimp only; omega) _).setCell (by dsimp only; omega) _).setCell (by dsimp only; omega) _

open Classical in
set_option maxRecDepth 100000 in
set_option maxHeartbeats 2000000 in
theorem rfit_not (s1 : Bool) (a1 : Option Addr) (n1 c1 : Nat) (o1 : Nat → Int) (s2 : Bool) (a2 : Option Addr) (n2 c2 : Nat) (o2 : Nat → Int) (w : World) (B0 : Nat)
    (h1 : Rd w a1 n1 o1) (hn1 : n1 ≤ 5000000) (hc1 : n1 ≤ c1) (h2 : Rd w a2 n2 o2) (hn2 : n2 ≤ 5000000) (hc2 : n2 ≤ c2) (hk : ¬ okF s1 n1 o1 s2 n2 o2) :
    Calls Tryz.prog 91 #[fracV s1 a1 n1 c1 s2 a2 n2 c2] w (FracS w B0 0 1) := by
  have CK := Lib.hid (fun (w' : World) (hb : Below w.heap.size w w') => rfcheck_any s1 a1 n1 c1 o1 s2 a2 n2 c2 o2 w' (h1.below hb) hn1 hc1 (h2.below hb) hn2 hc2)
  rw [decide_eq_false hk] at CK
  obtain ⟨one, hone⟩ : ∃ one : Int, one = 1 := ⟨_, rfl⟩
  obtain ⟨zer, hzer⟩ : ∃ zer : Int, zer = 0 := ⟨_, rfl⟩
  have OF := Lib.hid (fun (w' : World) => rfof_any 0 w' (by omega) (by omega))
  rw [← hone, ← hzer]
  have OF := Lib.hid (show ∀ w', Calls Tryz.prog 10 #[.int .i64 0] w' (FracF w' zer one) from fun w' => by rw [hone, hzer]; exact OF.out w')
  clear hk h1 h2 hone hzer
  have HB := Lib.hid ((Bxs.new w 27 [.bool s1, .slice a1 n1 c1, .bool s2, .slice a2 n2 c2]).alloc (.cells #[.bool false, .slice none 0 0, .bool false, .slice none 0 0] 27))
  have HBR := Lib.hid (Bxs.new (w.alloc (.cells #[.bool s1, .slice a1 n1 c1, .bool s2, .slice a2 n2 c2] 27)) 27 [.bool false, .slice none 0 0, .bool false, .slice none 0 0])
  obtain ⟨W, hW⟩ : ∃ W, W = (w.alloc (.cells #[.bool s1, .slice a1 n1 c1, .bool s2, .slice a2 n2 c2] 27)).alloc (.cells #[.bool false, .slice none 0 0, .bool false, .slice none 0 0] 27) := ⟨_, rfl⟩
  have HBW := Lib.hid (show Below w.heap.size w W by rw [hW]; exact ((Below.refl _ _).alloc (Nat.le_refl _) _).alloc (by simp) _)
  rw [show (w.alloc (.cells (List.toArray [.bool s1, .slice a1 n1 c1, .bool s2, .slice a2 n2 c2]) 27)).alloc (.cells #[.bool false, .slice none 0 0, .bool false, .slice none 0 0] 27) = W from hW.symm] at HB
  rw [show (w.alloc (.cells #[.bool s1, .slice a1 n1 c1, .bool s2, .slice a2 n2 c2] 27)).alloc (.cells (List.toArray [.bool false, .slice none 0 0, .bool false, .slice none 0 0]) 27) = W from hW.symm, World.size_alloc] at HBR
  have HW := Lib.hid hW
  clear hW
  go_enter Tryz.func91, Tryz.ntmps91
  go_upto_region 1 with (fail)
  rw [show (w.alloc (.cells #[.bool s1, .slice a1 n1 c1, .bool s2, .slice a2 n2 c2] 27)).alloc (.cells #[.bool false, .slice none 0 0, .bool false, .slice none 0 0] 27) = W from HW.out.symm]
  obtain ⟨x0, x1, x2, x3, x4, x5⟩ := frac_box HB.out
  go_wp2_with fail
  refine (CK.out _ HBW.out).mono ?_
  rintro e w1 ⟨rfl, hb1⟩
  have GB := Lib.hid hb1
  clear hb1 CK x0 x1 x2 x3 x4 x5
  go_wp2_with fail
  refine (OF.out w1).mono ?_
  rintro e w2 ⟨t1, d1, t2, d2, rfl, ho1, ho2, hb2⟩
  have HO := Lib.hid (And.intro ho1 ho2)
  have hs1 := GB.out.size
  have GB := Lib.hid (GB.out.trans (hb2.mono GB.out.size))
  have HR1 := Lib.hid (HBR.out.below GB.out HBR.out.lt)
  have HS1 := Lib.hid hs1
  clear ho1 ho2 hb2 hs1
  obtain ⟨y0, y1, y2, y3, y4, y5⟩ := frac_box HR1.out
  go_wp2_with fail
  have hlt := HB.out.lt
  have hlt2 := HBR.out.lt
  have hs1 := HS1.out
  have hG := HBW.out.trans (GB.out.mono HBW.out.size)
  refine bodyPost_ret (results_cell rfl _ _ _ _ _ _ _ rfl ((((HR1.out.put 0 _).put 1 _).put 2 _).put 3 _) Tryz.underlying27 rfl (by kernel_rfl)) rfl ⟨t1, d1, t2, d2, rfl, ?_, HO.out.1.le, ?_, HO.out.2.le, ?_⟩
  · exact (((((HO.out.1.other (by dsimp only; omega) _).other (by dsimp only; omega) _).other (by dsimp only; omega) _).other (by dsimp only; omega) _).rdS B0 w.heap.size (by omega))
  · exact (((((HO.out.2.other (by dsimp only; omega) _).other (by dsimp only; omega) _).other (by dsimp only; omega) _).other (by dsimp only; omega) _).rdS B0 w.heap.size (by omega))
  · exact (((hG.setCell (by dsimp only; omega) _).setCell (by dsimp only; omega) _).setCell (by dsimp only; omega) _).setCell (by dsimp only; omega) _

theorem rfit_any (s1 : Bool) (a1 : Option Addr) (n1 c1 : Nat) (o1 : Nat → Int) (s2 : Bool) (a2 : Option Addr) (n2 c2 : Nat) (o2 : Nat → Int) (w : World) (B0 : Nat) (hB0 : B0 ≤ w.heap.size)
    (h1 : Rd w a1 n1 o1) (hn1 : n1 ≤ 5000000) (hc1 : n1 ≤ c1) (f1 : 0 < n1 → ∀ p, a1 = some p → p.block < B0) (h2 : Rd w a2 n2 o2) (hn2 : n2 ≤ 5000000) (hc2 : n2 ≤ c2) (f2 : 0 < n2 → ∀ p, a2 = some p → p.block < B0) :
    Calls Tryz.prog 91 #[fracV s1 a1 n1 c1 s2 a2 n2 c2] w (FracS w B0 (valF s1 n1 o1 s2 n2 o2).num ((valF s1 n1 o1 s2 n2 o2).den : Int)) := by
  by_cases hk : okF s1 n1 o1 s2 n2 o2
  · obtain ⟨e1, e2⟩ := valF_ok hk
    rw [e1, e2]
    exact rfit_ok s1 a1 n1 c1 o1 s2 a2 n2 c2 o2 w B0 hB0 h1 hn1 hc1 f1 h2 hn2 hc2 f2 hk
  · rw [valF_not hk]
    exact rfit_not s1 a1 n1 c1 o1 s2 a2 n2 c2 o2 w B0 h1 hn1 hc1 h2 hn2 hc2 hk
end Go.Proofs.YtaagegcidbgjmaaGreatDoor.Limb
