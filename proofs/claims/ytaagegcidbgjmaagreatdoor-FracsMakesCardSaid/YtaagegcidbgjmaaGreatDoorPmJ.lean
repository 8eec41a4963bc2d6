/-
  The walk of lowest of fracs: lowest terms.
  The walk of Make of fracs.
  The walk of brought of fracs: two fractions' numbers above, brought to one number below.
  The walk of brought of fracs.
  The walk of make2 of fracs.
  The closures of fracs' Add and Sub; Add and Sub.
-/
import Derived.Test.YtaagegcidbgjmaaGreatDoorPmI
namespace Go.Proofs.YtaagegcidbgjmaaGreatDoor.Limb
open Go.RowKit Go.Sort Go.Fresh


set_option maxRecDepth 100000 in
set_option maxHeartbeats 4000000 in
theorem lowest_any (z1 z2 : Int) (a1 a2 : Option Addr) (c1 c2 : Nat) (w : World) (h1 : Rd w a1 (lenB z1.natAbs) (dgi z1.natAbs)) (hn1 : lenB z1.natAbs ≤ 4000000) (hc1 : lenB z1.natAbs ≤ c1) (h2 : Rd w a2 (lenB z2.natAbs) (dgi z2.natAbs)) (hn2 : lenB z2.natAbs ≤ 4000000) (hc2 : lenB z2.natAbs ≤ c2) (hz : z2 ≠ 0) :
    Calls Tryz.prog 33 #[numV (decide (z1 < 0)) a1 (lenB z1.natAbs) c1, numV (decide (z2 < 0)) a2 (lenB z2.natAbs) c2] w (FracR w (Rat.divInt z1 z2).num ((Rat.divInt z1 z2).den : Int)) := by
  obtain ⟨G, hG⟩ : ∃ G : Int, G = ((Int.gcd z1 z2 : Nat) : Int) := ⟨_, rfl⟩
  have HR := Lib.hid (And.intro h1 h2)
  have HLL := Lib.hid (And.intro hn1 hn2)
  obtain ⟨g, hg⟩ : ∃ g : Int, g = if z2 < 0 then -G else G := ⟨_, rfl⟩
  have HRES := Lib.hid (And.intro (low_num z1 z2 hz) (low_den z1 z2 hz))
  have HG0 := Lib.hid (low_gcd z1 z2 hz)
  rw [← hG, ← hg] at HRES HG0
  have hGL : lenB G.natAbs ≤ 8000000 := by rw [hG, Int.natAbs_natCast]; have := gcd_len z1 z2; omega
  have HGL := Lib.hid (show lenB g.natAbs ≤ 8000000 by rw [hg]; split; rw [Int.natAbs_neg]; exact hGL; exact hGL)
  have GC := Lib.hid (fun (w' : World) (hb : Below w.heap.size w w') => gcd_any (decide (z1 < 0)) a1 (lenB z1.natAbs) c1 (dgi z1.natAbs) (decide (z2 < 0)) a2 (lenB z2.natAbs) c2 (dgi z2.natAbs) w' (h1.below hb) (by omega) hc1 (h2.below hb) (by omega) hc2)
  rw [canon_val, canon_val, ← hG] at GC
  have SG := Lib.hid (fun (w' : World) (hb : Below w.heap.size w w') => sign_any (decide (z2 < 0)) a2 (lenB z2.natAbs) c2 (dgi z2.natAbs) w' (h2.below hb) (by omega) hc2)
  rw [canon_val] at SG
  obtain ⟨cs, hcs⟩ : ∃ cs, cs = cmpZ z2 0 := ⟨_, rfl⟩
  rw [← hcs] at SG
  have HGE := Lib.hid hG
  have HGG := Lib.hid hGL
  have KB1 := Lib.hid (((Bx.new w 24 (.bool (decide (z1 < 0))) (.slice a1 (lenB z1.natAbs) c1)).alloc (.cells #[.bool (decide (z2 < 0)), .slice a2 (lenB z2.natAbs) c2] 24)).alloc (.cells #[.bool false, .slice none 0 0, .bool false, .slice none 0 0] 27))
  have KB2 := Lib.hid ((Bx.new2 w (.cells #[.bool (decide (z1 < 0)), .slice a1 (lenB z1.natAbs) c1] 24) 24 (.bool (decide (z2 < 0))) (.slice a2 (lenB z2.natAbs) c2)).alloc (.cells #[.bool false, .slice none 0 0, .bool false, .slice none 0 0] 27))
  have KB4 := Lib.hid (Bxs.new ((w.alloc (.cells #[.bool (decide (z1 < 0)), .slice a1 (lenB z1.natAbs) c1] 24)).alloc (.cells #[.bool (decide (z2 < 0)), .slice a2 (lenB z2.natAbs) c2] 24)) 27 [.bool false, .slice none 0 0, .bool false, .slice none 0 0])
  obtain ⟨W, hW⟩ : ∃ W, W = (((w.alloc (.cells #[.bool (decide (z1 < 0)), .slice a1 (lenB z1.natAbs) c1] 24)).alloc (.cells #[.bool (decide (z2 < 0)), .slice a2 (lenB z2.natAbs) c2] 24)).alloc (.cells #[.bool false, .slice none 0 0, .bool false, .slice none 0 0] 27)) := ⟨_, rfl⟩
  have KG := Lib.hid (show Below w.heap.size w W by rw [hW]; exact (((Below.refl _ _).alloc (Nat.le_refl _) _).alloc (by go_size) _).alloc (by go_size) _)
  have hWs : w.heap.size + 3 = W.heap.size := by rw [hW]; simp
  rw [← hW] at KB1 KB2
  rw [show (((w.alloc (.cells #[.bool (decide (z1 < 0)), .slice a1 (lenB z1.natAbs) c1] 24)).alloc (.cells #[.bool (decide (z2 < 0)), .slice a2 (lenB z2.natAbs) c2] 24)).alloc (.cells (List.toArray [.bool false, .slice none 0 0, .bool false, .slice none 0 0]) 27)) = W from hW.symm, World.size_alloc, World.size_alloc] at KB4
  have HW := Lib.hid hW
  have HWS := Lib.hid hWs
  clear h1 h2 hn1 hn2 hz hG hGL hW hWs
  go_enter Tryz.func33, Tryz.ntmps33
  go_upto_region 1 with (fail)
  rw [show (((w.alloc (.cells #[.bool (decide (z1 < 0)), .slice a1 (lenB z1.natAbs) c1] 24)).alloc (.cells #[.bool (decide (z2 < 0)), .slice a2 (lenB z2.natAbs) c2] 24)).alloc (.cells #[.bool false, .slice none 0 0, .bool false, .slice none 0 0] 27)) = W from HW.out.symm]
  clear HW
  obtain ⟨x0, x1, x2, x3⟩ := KB1.out.all
  obtain ⟨y0, y1, y2, y3⟩ := KB2.out.all
  go_wp2_with fail
  refine (GC.out _ KG.out).mono ?_
  rintro e w1 ⟨aG, rfl, hO, -, hb⟩
  go_upto_region 2 with (fail)
  obtain ⟨V, hV⟩ : ∃ V, V = w1.alloc (.cells #[.bool (decide (G < 0)), .slice aG (lenB G.natAbs) (lenB G.natAbs)] 24) := ⟨_, rfl⟩
  have hbV : Below W.heap.size W V := by rw [hV]; exact hb.alloc hb.size _
  have KB5 := Lib.hid (show Bx V w1.heap.size 24 (.bool (decide (G < 0))) (.slice aG (lenB G.natAbs) (lenB G.natAbs)) by rw [hV]; exact Bx.new w1 _ _ _)
  have KO := Lib.hid (show Own 74 V (w.heap.size + 3) aG (lenB G.natAbs) (lenB G.natAbs) (dgi G.natAbs) by rw [hV, HWS.out]; exact hO.allocd _)
  rw [show w1.alloc (.cells #[.bool (decide (G < 0)), .slice aG (lenB G.natAbs) (lenB G.natAbs)] 24) = V from hV.symm]
  obtain ⟨b5, hb5⟩ : ∃ b5, b5 = w1.heap.size := ⟨_, rfl⟩
  have HLT := Lib.hid (show w.heap.size + 2 < b5 by have := hb.size; have := HWS.out; omega)
  have HVS := Lib.hid (show w.heap.size + 3 ≤ V.heap.size by rw [HWS.out]; exact hbV.size)
  have KX := Lib.hid (show ∀ p, aG = some p → p.block < b5 from fun p hp => by rw [hb5]; exact (hO.blk hp).2.2)
  rw [← hb5] at KB5 ⊢
  have KB1 := Lib.hid (KB1.out.below hbV KB1.out.lt)
  have KB2 := Lib.hid (KB2.out.below hbV KB2.out.lt)
  have KB4 := Lib.hid (KB4.out.below hbV KB4.out.lt)
  have KG := Lib.hid (KG.out.trans (hbV.mono KG.out.size))
  clear hO hb hV hbV hb5 x0 x1 x2 x3 y0 y1 y2 y3 GC
  obtain ⟨x0, x1, x2, x3⟩ := KB1.out.all
  obtain ⟨y0, y1, y2, y3⟩ := KB2.out.all
  obtain ⟨u0, u1, u2, u3, u4, u5⟩ := frac_box KB4.out
  obtain ⟨g0, g1, g2, g3⟩ := KB5.out.all
  go_wp2_with fail
  refine (SG.out _ KG.out).mono ?_
  rintro e v ⟨rfl, hb⟩
  clear x0 x1 x2 x3 y0 y1 y2 y3 u0 u1 u2 u3 u4 u5 g0 g1 g2 g3
  have KB1 := Lib.hid (KB1.out.below hb KB1.out.lt)
  have KB2 := Lib.hid (KB2.out.below hb KB2.out.lt)
  have KB4 := Lib.hid (KB4.out.below hb KB4.out.lt)
  have KB5 := Lib.hid (KB5.out.below hb KB5.out.lt)
  have KG := Lib.hid (KG.out.trans (Below.mono hb KG.out.size))
  have KO := Lib.hid (KO.out.below hb)
  have HVS := Lib.hid (Nat.le_trans HVS.out hb.size)
  clear hb SG
  by_cases hneg : z2 < 0
  · have hc : cs < 0 := by rw [hcs, cmpZ_lt hneg]; omega
    have hgG : g = -G := by rw [hg, if_pos hneg]
    clear hg hcs hneg
    have NG := Lib.hid (neg_any (decide (G < 0)) aG (lenB G.natAbs) (lenB G.natAbs) (dgi G.natAbs) v KO.out.rd (by have := HGG.out; omega) (Nat.le_refl _))
    rw [canon_val, ← hgG] at NG
    clear hgG
    obtain ⟨x0, x1, x2, x3⟩ := KB1.out.all
    obtain ⟨y0, y1, y2, y3⟩ := KB2.out.all
    obtain ⟨u0, u1, u2, u3, u4, u5⟩ := frac_box KB4.out
    obtain ⟨g0, g1, g2, g3⟩ := KB5.out.all
    go_wp2_with fail
    refine NG.out.mono ?_
    rintro e w3 ⟨ag, rfl, hO, -, hb⟩
    have hb5v := KB5.out.lt
    clear x0 x1 x2 x3 y0 y1 y2 y3 u0 u1 u2 u3 u4 u5 g0 g1 g2 g3
    have KB1 := Lib.hid (KB1.out.below hb KB1.out.lt)
    have KB2 := Lib.hid (KB2.out.below hb KB2.out.lt)
    have KB4 := Lib.hid (KB4.out.below hb KB4.out.lt)
    have KB5 := Lib.hid (KB5.out.below hb KB5.out.lt)
    have KG := Lib.hid (KG.out.trans (Below.mono hb KG.out.size))
    have KO := Lib.hid (hO.mono (show b5 + 1 ≤ v.heap.size from hb5v))
    have HVS := Lib.hid (Nat.le_trans HVS.out hb.size)
    clear hO hb NG hb5v
    obtain ⟨cg, hcg⟩ : ∃ cg, cg = lenB g.natAbs := ⟨_, rfl⟩
    have HB5O := Lib.hid (show b5 < w3.heap.size from KB5.out.lt)
    obtain ⟨x0, x1, x2, x3⟩ := KB1.out.all
    obtain ⟨y0, y1, y2, y3⟩ := KB2.out.all
    obtain ⟨u0, u1, u2, u3, u4, u5⟩ := frac_box KB4.out
    obtain ⟨g0, g1, g2, g3⟩ := KB5.out.all
    go_upto_region 4 with (fail)
    obtain ⟨v, hv⟩ : ∃ v, v = (w3.setCell ⟨b5, 0, none⟩ (.bool (decide (g < 0)))).setCell ⟨b5, 1, none⟩ (.slice ag (lenB g.natAbs) (lenB g.natAbs)) := ⟨_, rfl⟩
    have hlt := HLT.out
    have KB1 := Lib.hid (show Bx v w.heap.size 24 (.bool (decide (z1 < 0))) (.slice a1 (lenB z1.natAbs) c1) by rw [hv]; exact (KB1.out.other (by dsimp only; omega) _).other (by dsimp only; omega) _)
    have KB2 := Lib.hid (show Bx v (w.heap.size + 1) 24 (.bool (decide (z2 < 0))) (.slice a2 (lenB z2.natAbs) c2) by rw [hv]; exact (KB2.out.other (by dsimp only; omega) _).other (by dsimp only; omega) _)
    have KB4 := Lib.hid (show Bxs v (w.heap.size + 1 + 1) 27 [.bool false, .slice none 0 0, .bool false, .slice none 0 0] by rw [hv]; exact (KB4.out.other (by dsimp only; omega) _).other (by dsimp only; omega) _)
    have KB5 := Lib.hid (show Bx v b5 24 (.bool (decide (g < 0))) (.slice ag (lenB g.natAbs) cg) by rw [hv, hcg]; exact KB5.out.set _ _)
    have KO := Lib.hid (show Own 74 v (w.heap.size + 3) ag (lenB g.natAbs) cg (dgi g.natAbs) by rw [hv, hcg]; exact ((KO.out.other (by dsimp only; omega) _).other (by dsimp only; omega) _).mono (by omega))
    have KG := Lib.hid (show Below w.heap.size w v by rw [hv]; exact (KG.out.setCell (by dsimp only; omega) _).setCell (by dsimp only; omega) _)
    have HVS := Lib.hid (show w.heap.size + 3 ≤ v.heap.size by rw [hv]; simp only [World.size_setCell]; exact HVS.out)
    rw [show (w3.setCell ⟨b5, 0, none⟩ (.bool (decide (g < 0)))).setCell ⟨b5, 1, none⟩ (.slice ag (lenB g.natAbs) (lenB g.natAbs)) = v from hv.symm]
    clear hv hlt hcg
    clear x0 x1 x2 x3 y0 y1 y2 y3 u0 u1 u2 u3 u4 u5 g0 g1 g2 g3
    obtain ⟨x0, x1, x2, x3⟩ := KB1.out.all
    obtain ⟨y0, y1, y2, y3⟩ := KB2.out.all
    obtain ⟨u0, u1, u2, u3, u4, u5⟩ := frac_box KB4.out
    obtain ⟨g0, g1, g2, g3⟩ := KB5.out.all
    have DV := Lib.hid (div_ok z1 g a1 ag c1 cg v (HR.out.1.below KG.out) (by have := HLL.out; omega) hc1 KO.out.rd (by have := HGL.out; omega) KO.out.le HG0.out)
    go_wp2_with fail
    with_reducible refine DV.out.mono ?_
    rintro e w4 ⟨aq, ar, rfl, hq, -, -, -, -, hb⟩
    clear x0 x1 x2 x3 y0 y1 y2 y3 u0 u1 u2 u3 u4 u5 g0 g1 g2 g3
    have KB1 := Lib.hid (KB1.out.below hb KB1.out.lt)
    have KB2 := Lib.hid (KB2.out.below hb KB2.out.lt)
    have KB4 := Lib.hid (KB4.out.below hb KB4.out.lt)
    have KB5 := Lib.hid (KB5.out.below hb KB5.out.lt)
    have KG := Lib.hid (KG.out.trans (Below.mono hb KG.out.size))
    have KO := Lib.hid (KO.out.below hb)
    have HQ := Lib.hid (hq.mono HVS.out)
    have HVS := Lib.hid (Nat.le_trans HVS.out hb.size)
    clear hq hb DV
    obtain ⟨Q, hQ⟩ : ∃ Q, Q = z1 / g := ⟨_, rfl⟩
    rw [← hQ] at HQ ⊢
    have HQE := Lib.hid hQ
    clear hQ
    obtain ⟨x0, x1, x2, x3⟩ := KB1.out.all
    obtain ⟨y0, y1, y2, y3⟩ := KB2.out.all
    obtain ⟨u0, u1, u2, u3, u4, u5⟩ := frac_box KB4.out
    obtain ⟨g0, g1, g2, g3⟩ := KB5.out.all
    obtain ⟨R, hR⟩ : ∃ R, R = z1 % g := ⟨_, rfl⟩
    rw [← hR]
    clear hR
    go_upto_region 5 with (fail)
    obtain ⟨V, hV⟩ : ∃ V, V = (w4.setCell ⟨w.heap.size + 1 + 1, 0, none⟩ (.bool (decide (Q < 0)))).setCell ⟨w.heap.size + 1 + 1, 1, none⟩ (.slice aq (lenB Q.natAbs) (lenB Q.natAbs)) := ⟨_, rfl⟩
    have hlt := HLT.out
    have KB1 := Lib.hid (show Bx V w.heap.size 24 (.bool (decide (z1 < 0))) (.slice a1 (lenB z1.natAbs) c1) by rw [hV]; exact (KB1.out.other (by dsimp only; omega) _).other (by dsimp only; omega) _)
    have KB2 := Lib.hid (show Bx V (w.heap.size + 1) 24 (.bool (decide (z2 < 0))) (.slice a2 (lenB z2.natAbs) c2) by rw [hV]; exact (KB2.out.other (by dsimp only; omega) _).other (by dsimp only; omega) _)
    have KB4 := Lib.hid (show Bxs V (w.heap.size + 1 + 1) 27 [.bool (decide (Q < 0)), .slice aq (lenB Q.natAbs) (lenB Q.natAbs), .bool false, .slice none 0 0] by rw [hV]; exact (KB4.out.put 0 _).put 1 _)
    have KB5 := Lib.hid (show Bx V b5 24 (.bool (decide (g < 0))) (.slice ag (lenB g.natAbs) cg) by rw [hV]; exact (KB5.out.other (by dsimp only; omega) _).other (by dsimp only; omega) _)
    have KO := Lib.hid (show Own 74 V (w.heap.size + 3) ag (lenB g.natAbs) cg (dgi g.natAbs) by rw [hV]; exact (KO.out.other (by dsimp only; omega) _).other (by dsimp only; omega) _)
    have HQ := Lib.hid (show Own 74 V (w.heap.size + 3) aq (lenB Q.natAbs) (lenB Q.natAbs) (dgi Q.natAbs) by rw [hV]; exact (HQ.out.other (by dsimp only; omega) _).other (by dsimp only; omega) _)
    have KG := Lib.hid (show Below w.heap.size w V by rw [hV]; exact (KG.out.setCell (by dsimp only; omega) _).setCell (by dsimp only; omega) _)
    have HVS := Lib.hid (show w.heap.size + 3 ≤ V.heap.size by rw [hV]; simp only [World.size_setCell]; exact HVS.out)
    rw [show (w4.setCell ⟨w.heap.size + 1 + 1, 0, none⟩ (.bool (decide (Q < 0)))).setCell ⟨w.heap.size + 1 + 1, 1, none⟩ (.slice aq (lenB Q.natAbs) (lenB Q.natAbs)) = V from hV.symm]
    clear hV hlt
    clear x0 x1 x2 x3 y0 y1 y2 y3 u0 u1 u2 u3 u4 u5 g0 g1 g2 g3
    obtain ⟨x0, x1, x2, x3⟩ := KB1.out.all
    obtain ⟨y0, y1, y2, y3⟩ := KB2.out.all
    obtain ⟨u0, u1, u2, u3, u4, u5⟩ := frac_box KB4.out
    obtain ⟨g0, g1, g2, g3⟩ := KB5.out.all
    have DV := Lib.hid (div_ok z2 g a2 ag c2 cg V (HR.out.2.below KG.out) (by have := HLL.out; omega) hc2 KO.out.rd (by have := HGL.out; omega) KO.out.le HG0.out)
    go_wp2_with fail
    with_reducible refine DV.out.mono ?_
    rintro e w5 ⟨ap, ar2, rfl, hp, -, -, -, -, hb⟩
    clear x0 x1 x2 x3 y0 y1 y2 y3 u0 u1 u2 u3 u4 u5 g0 g1 g2 g3
    have KB1 := Lib.hid (KB1.out.below hb KB1.out.lt)
    have KB2 := Lib.hid (KB2.out.below hb KB2.out.lt)
    have KB4 := Lib.hid (KB4.out.below hb KB4.out.lt)
    have KB5 := Lib.hid (KB5.out.below hb KB5.out.lt)
    have KG := Lib.hid (KG.out.trans (Below.mono hb KG.out.size))
    have HAP := Lib.hid (show Apart2 aq ap from fun p q h1 h2 e => by
      have h3 := (HQ.out.blk h1).2.2
      have h4 := (hp.blk h2).2.1
      omega)
    have HQ := Lib.hid (HQ.out.below hb)
    have HP := Lib.hid (hp.mono HVS.out)
    clear hp hb DV
    obtain ⟨P, hP⟩ : ∃ P, P = z2 / g := ⟨_, rfl⟩
    rw [← hP] at HP ⊢
    have HPE := Lib.hid hP
    clear hP
    obtain ⟨R2, hR2⟩ : ∃ R2, R2 = z2 % g := ⟨_, rfl⟩
    rw [← hR2]
    clear hR2
    obtain ⟨x0, x1, x2, x3⟩ := KB1.out.all
    obtain ⟨y0, y1, y2, y3⟩ := KB2.out.all
    obtain ⟨u0, u1, u2, u3, u4, u5⟩ := frac_box KB4.out
    obtain ⟨g0, g1, g2, g3⟩ := KB5.out.all
    go_wp2_with fail
    have hlt := HLT.out
    refine bodyPost_ret (results_cell rfl _ _ _ _ _ _ _ rfl ((((((KB4.out.put 2 _).put 3 _).put 0 _).put 1 _).put 2 _).put 3 _) Tryz.underlying27 rfl (by kernel_rfl)) rfl ?_
    unfold FracR
    rw [← HRES.out.1, ← HRES.out.2, ← HQE.out, ← HPE.out]
    refine ⟨aq, ap, rfl, ?_, ?_, HAP.out, ?_⟩
    · exact ((((((HQ.out.other (by dsimp only; omega) _).other (by dsimp only; omega) _).other (by dsimp only; omega) _).other (by dsimp only; omega) _).other (by dsimp only; omega) _).other (by dsimp only; omega) _).mono (by omega)
    · exact ((((((HP.out.other (by dsimp only; omega) _).other (by dsimp only; omega) _).other (by dsimp only; omega) _).other (by dsimp only; omega) _).other (by dsimp only; omega) _).other (by dsimp only; omega) _).mono (by omega)
    · exact (((((KG.out.setCell (by dsimp only; omega) _).setCell (by dsimp only; omega) _).setCell (by dsimp only; omega) _).setCell (by dsimp only; omega) _).setCell (by dsimp only; omega) _).setCell (by dsimp only; omega) _
  · have hc : ¬ cs < 0 := by rw [hcs]; unfold cmpZ; rw [if_neg hneg]; split <;> omega
    have hgG : g = G := by rw [hg, if_neg hneg]
    subst hgG
    clear hg hcs hneg
    obtain ⟨ag, rfl⟩ : ∃ ag, ag = aG := ⟨_, rfl⟩
    obtain ⟨cg, hcg⟩ : ∃ cg, cg = lenB g.natAbs := ⟨_, rfl⟩
    have KB5 := Lib.hid (show Bx v b5 24 (.bool (decide (g < 0))) (.slice ag (lenB g.natAbs) cg) by rw [hcg]; exact KB5.out)
    have KO := Lib.hid (show Own 74 v (w.heap.size + 3) ag (lenB g.natAbs) cg (dgi g.natAbs) by rw [hcg]; exact KO.out)
    clear hcg
    obtain ⟨x0, x1, x2, x3⟩ := KB1.out.all
    obtain ⟨y0, y1, y2, y3⟩ := KB2.out.all
    obtain ⟨u0, u1, u2, u3, u4, u5⟩ := frac_box KB4.out
    obtain ⟨g0, g1, g2, g3⟩ := KB5.out.all
    have DV := Lib.hid (div_ok z1 g a1 ag c1 cg v (HR.out.1.below KG.out) (by have := HLL.out; omega) hc1 KO.out.rd (by have := HGL.out; omega) KO.out.le HG0.out)
    go_wp2_with fail
    with_reducible refine DV.out.mono ?_
    rintro e w4 ⟨aq, ar, rfl, hq, -, -, -, -, hb⟩
    clear x0 x1 x2 x3 y0 y1 y2 y3 u0 u1 u2 u3 u4 u5 g0 g1 g2 g3
    have KB1 := Lib.hid (KB1.out.below hb KB1.out.lt)
    have KB2 := Lib.hid (KB2.out.below hb KB2.out.lt)
    have KB4 := Lib.hid (KB4.out.below hb KB4.out.lt)
    have KB5 := Lib.hid (KB5.out.below hb KB5.out.lt)
    have KG := Lib.hid (KG.out.trans (Below.mono hb KG.out.size))
    have KO := Lib.hid (KO.out.below hb)
    have HQ := Lib.hid (hq.mono HVS.out)
    have HVS := Lib.hid (Nat.le_trans HVS.out hb.size)
    clear hq hb DV
    obtain ⟨Q, hQ⟩ : ∃ Q, Q = z1 / g := ⟨_, rfl⟩
    rw [← hQ] at HQ ⊢
    have HQE := Lib.hid hQ
    clear hQ
    obtain ⟨x0, x1, x2, x3⟩ := KB1.out.all
    obtain ⟨y0, y1, y2, y3⟩ := KB2.out.all
    obtain ⟨u0, u1, u2, u3, u4, u5⟩ := frac_box KB4.out
    obtain ⟨g0, g1, g2, g3⟩ := KB5.out.all
    obtain ⟨R, hR⟩ : ∃ R, R = z1 % g := ⟨_, rfl⟩
    rw [← hR]
    clear hR
    go_upto_region 5 with (fail)
    obtain ⟨V, hV⟩ : ∃ V, V = (w4.setCell ⟨w.heap.size + 1 + 1, 0, none⟩ (.bool (decide (Q < 0)))).setCell ⟨w.heap.size + 1 + 1, 1, none⟩ (.slice aq (lenB Q.natAbs) (lenB Q.natAbs)) := ⟨_, rfl⟩
    have hlt := HLT.out
    have KB1 := Lib.hid (show Bx V w.heap.size 24 (.bool (decide (z1 < 0))) (.slice a1 (lenB z1.natAbs) c1) by rw [hV]; exact (KB1.out.other (by dsimp only; omega) _).other (by dsimp only; omega) _)
    have KB2 := Lib.hid (show Bx V (w.heap.size + 1) 24 (.bool (decide (z2 < 0))) (.slice a2 (lenB z2.natAbs) c2) by rw [hV]; exact (KB2.out.other (by dsimp only; omega) _).other (by dsimp only; omega) _)
    have KB4 := Lib.hid (show Bxs V (w.heap.size + 1 + 1) 27 [.bool (decide (Q < 0)), .slice aq (lenB Q.natAbs) (lenB Q.natAbs), .bool false, .slice none 0 0] by rw [hV]; exact (KB4.out.put 0 _).put 1 _)
    have KB5 := Lib.hid (show Bx V b5 24 (.bool (decide (g < 0))) (.slice ag (lenB g.natAbs) cg) by rw [hV]; exact (KB5.out.other (by dsimp only; omega) _).other (by dsimp only; omega) _)
    have KO := Lib.hid (show Own 74 V (w.heap.size + 3) ag (lenB g.natAbs) cg (dgi g.natAbs) by rw [hV]; exact (KO.out.other (by dsimp only; omega) _).other (by dsimp only; omega) _)
    have HQ := Lib.hid (show Own 74 V (w.heap.size + 3) aq (lenB Q.natAbs) (lenB Q.natAbs) (dgi Q.natAbs) by rw [hV]; exact (HQ.out.other (by dsimp only; omega) _).other (by dsimp only; omega) _)
    have KG := Lib.hid (show Below w.heap.size w V by rw [hV]; exact (KG.out.setCell (by dsimp only; omega) _).setCell (by dsimp only; omega) _)
    have HVS := Lib.hid (show w.heap.size + 3 ≤ V.heap.size by rw [hV]; simp only [World.size_setCell]; exact HVS.out)
    rw [show (w4.setCell ⟨w.heap.size + 1 + 1, 0, none⟩ (.bool (decide (Q < 0)))).setCell ⟨w.heap.size + 1 + 1, 1, none⟩ (.slice aq (lenB Q.natAbs) (lenB Q.natAbs)) = V from hV.symm]
    clear hV hlt
    clear x0 x1 x2 x3 y0 y1 y2 y3 u0 u1 u2 u3 u4 u5 g0 g1 g2 g3
    obtain ⟨x0, x1, x2, x3⟩ := KB1.out.all
    obtain ⟨y0, y1, y2, y3⟩ := KB2.out.all
    obtain ⟨u0, u1, u2, u3, u4, u5⟩ := frac_box KB4.out
    obtain ⟨g0, g1, g2, g3⟩ := KB5.out.all
    have DV := Lib.hid (div_ok z2 g a2 ag c2 cg V (HR.out.2.below KG.out) (by have := HLL.out; omega) hc2 KO.out.rd (by have := HGL.out; omega) KO.out.le HG0.out)
    go_wp2_with fail
    with_reducible refine DV.out.mono ?_
    rintro e w5 ⟨ap, ar2, rfl, hp, -, -, -, -, hb⟩
    clear x0 x1 x2 x3 y0 y1 y2 y3 u0 u1 u2 u3 u4 u5 g0 g1 g2 g3
    have KB1 := Lib.hid (KB1.out.below hb KB1.out.lt)
    have KB2 := Lib.hid (KB2.out.below hb KB2.out.lt)
    have KB4 := Lib.hid (KB4.out.below hb KB4.out.lt)
    have KB5 := Lib.hid (KB5.out.below hb KB5.out.lt)
    have KG := Lib.hid (KG.out.trans (Below.mono hb KG.out.size))
    have HAP := Lib.hid (show Apart2 aq ap from fun p q h1 h2 e => by
      have h3 := (HQ.out.blk h1).2.2
      have h4 := (hp.blk h2).2.1
      omega)
    have HQ := Lib.hid (HQ.out.below hb)
    have HP := Lib.hid (hp.mono HVS.out)
    clear hp hb DV
    obtain ⟨P, hP⟩ : ∃ P, P = z2 / g := ⟨_, rfl⟩
    rw [← hP] at HP ⊢
    have HPE := Lib.hid hP
    clear hP
    obtain ⟨R2, hR2⟩ : ∃ R2, R2 = z2 % g := ⟨_, rfl⟩
    rw [← hR2]
    clear hR2
    obtain ⟨x0, x1, x2, x3⟩ := KB1.out.all
    obtain ⟨y0, y1, y2, y3⟩ := KB2.out.all
    obtain ⟨u0, u1, u2, u3, u4, u5⟩ := frac_box KB4.out
    obtain ⟨g0, g1, g2, g3⟩ := KB5.out.all
    go_wp2_with fail
    have hlt := HLT.out
    refine bodyPost_ret (results_cell rfl _ _ _ _ _ _ _ rfl ((((((KB4.out.put 2 _).put 3 _).put 0 _).put 1 _).put 2 _).put 3 _) Tryz.underlying27 rfl (by kernel_rfl)) rfl ?_
    unfold FracR
    rw [← HRES.out.1, ← HRES.out.2, ← HQE.out, ← HPE.out]
    refine ⟨aq, ap, rfl, ?_, ?_, HAP.out, ?_⟩
    · exact ((((((HQ.out.other (by dsimp only; omega) _).other (by dsimp only; omega) _).other (by dsimp only; omega) _).other (by dsimp only; omega) _).other (by dsimp only; omega) _).other (by dsimp only; omega) _).mono (by omega)
    · exact ((((((HP.out.other (by dsimp only; omega) _).other (by dsimp only; omega) _).other (by dsimp only; omega) _).other (by dsimp only; omega) _).other (by dsimp only; omega) _).other (by dsimp only; omega) _).mono (by omega)
    · exact (((((KG.out.setCell (by dsimp only; omega) _).setCell (by dsimp only; omega) _).setCell (by dsimp only; omega) _).setCell (by dsimp only; omega) _).setCell (by dsimp only; omega) _).setCell (by dsimp only; omega) _
end Go.Proofs.YtaagegcidbgjmaaGreatDoor.Limb
namespace Go.Proofs.YtaagegcidbgjmaaGreatDoor.Limb
open Go.RowKit Go.Sort Go.Fresh

/-- One result in a variable, another one beside. -/
theorem results_ct {P : Program} {fn : Func} {p t : Tmp} {ty : TypeId} (h : fn.results = #[.cell p ty, .tmp t]) (tmps : Array Value) (w : World) (g : Nat) (ta : TypeId) (cs : Array Value) (fr : Nat × Nat) (d : TypeDesc)
    (hp : tmps.getD p undef = .pointer (some ⟨g, 0, none⟩)) (hg : w.heap[g]? = some (.cells cs ta fr))
    (hu : P.underlying ty = some d) (hd : (match d with | .struct _ | .array _ _ => true | _ => false) = true) (hi : (P.info? ty).map (·.size) = some cs.size) :
    (results fn tmps).run P w = .ok (.tuple #[.agg cs, tmps.getD t undef]) w := by
  have hp' : tmps[p]?.getD undef = .pointer (some ⟨g, 0, none⟩) := by simpa using hp
  simp [results, h, hp', asAddr, run_loadVar_row w g ta ty cs fr d hg hu hd hi]

/-- Make's answer: a fraction's numbers (both 0, if it is refused), the error. -/
def MakeP (w : World) (c p q : Int) (e : Ending) (w' : World) : Prop :=
  ∃ a1 a2, e = .returned (.tuple #[fracV (decide (p < 0)) a1 (lenB p.natAbs) (lenB p.natAbs) (decide (q < 0)) a2 (lenB q.natAbs) (lenB q.natAbs), .int .i64 c]) ∧ Own 74 w' w.heap.size a1 (lenB p.natAbs) (lenB p.natAbs) (dgi p.natAbs) ∧
    Own 74 w' w.heap.size a2 (lenB q.natAbs) (lenB q.natAbs) (dgi q.natAbs) ∧ Apart2 a1 a2 ∧ Below w.heap.size w w'
def MakeF (w : World) (c p q : Int) (e : Ending) (w' : World) : Prop :=
  ∃ a1 c1 a2 c2, e = .returned (.tuple #[fracV (decide (p < 0)) a1 (lenB p.natAbs) c1 (decide (q < 0)) a2 (lenB q.natAbs) c2, .int .i64 c]) ∧ Own 74 w' w.heap.size a1 (lenB p.natAbs) c1 (dgi p.natAbs) ∧
    Own 74 w' w.heap.size a2 (lenB q.natAbs) c2 (dgi q.natAbs) ∧ Below w.heap.size w w'
theorem makeP_err {w : World} {c : Int} {e : Ending} {w' : World} (h : e = .returned (.tuple #[fracV false none 0 0 false none 0 0, .int .i64 c]) ∧ Below w.heap.size w w') : MakeP w c 0 0 e w' ∧ MakeF w c 0 0 e w' := by
  obtain ⟨rfl, hb⟩ := h
  have hl : lenB (Int.natAbs 0) = 0 := by rw [show Int.natAbs 0 = 0 from rfl, lenB_zero]
  refine ⟨⟨none, none, ?_, ?_, ?_, fun p q h => (by cases h), hb⟩, ⟨none, 0, none, 0, ?_, own_zero _ _, own_zero _ _, hb⟩⟩
  · rw [hl]; rfl
  · have := own_zero w' w.heap.size; rw [hl] at this ⊢; exact this
  · have := own_zero w' w.heap.size; rw [hl] at this ⊢; exact this
  · rw [hl]; rfl
theorem sign_zero (z : Int) : (cmpZ z 0 = 0) ↔ z = 0 := by
  rcases Int.lt_trichotomy z 0 with h | h | h
  · rw [cmpZ_lt h]; omega
  · rw [cmpZ_eq h]; omega
  · rw [cmpZ_gt h]; omega

open Classical in
set_option maxRecDepth 100000 in
set_option maxHeartbeats 2000000 in
theorem make_1 (s1 : Bool) (a1 : Option Addr) (n1 c1 : Nat) (o1 : Nat → Int) (s2 : Bool) (a2 : Option Addr) (n2 c2 : Nat) (o2 : Nat → Int) (w : World)
    (h1 : Rd w a1 n1 o1) (hn1 : n1 ≤ 4000000) (hc1 : n1 ≤ c1) (h2 : Rd w a2 n2 o2) (hn2 : n2 ≤ 4000000) (hc2 : n2 ≤ c2) (hk : ¬ okN s1 n1 o1) :
    Calls Tryz.prog 6 #[numV s1 a1 n1 c1, numV s2 a2 n2 c2] w fun e w' => e = .returned (.tuple #[fracV false none 0 0 false none 0 0, .int .i64 1]) ∧ Below w.heap.size w w' := by
  have CK1 := Lib.hid (fun (w' : World) (hb : Below w.heap.size w w') => check_any s1 a1 n1 c1 o1 w' (h1.below hb) (by omega))
  have CK2 := Lib.hid (fun (w' : World) (hb : Below w.heap.size w w') => check_any s2 a2 n2 c2 o2 w' (h2.below hb) (by omega))
  rw [decide_eq_false hk] at CK1
  clear hk h1 h2
  have KB1 := Lib.hid (((Bx.new w 24 (.bool s1) (.slice a1 n1 c1)).alloc (.cells #[.bool s2, .slice a2 n2 c2] 24)).alloc (.cells #[.bool false, .slice none 0 0, .bool false, .slice none 0 0] 27))
  have KB2 := Lib.hid ((Bx.new2 w (.cells #[.bool s1, .slice a1 n1 c1] 24) 24 (.bool s2) (.slice a2 n2 c2)).alloc (.cells #[.bool false, .slice none 0 0, .bool false, .slice none 0 0] 27))
  have KB4 := Lib.hid (Bxs.new ((w.alloc (.cells #[.bool s1, .slice a1 n1 c1] 24)).alloc (.cells #[.bool s2, .slice a2 n2 c2] 24)) 27 [.bool false, .slice none 0 0, .bool false, .slice none 0 0])
  obtain ⟨W, hW⟩ : ∃ W, W = (((w.alloc (.cells #[.bool s1, .slice a1 n1 c1] 24)).alloc (.cells #[.bool s2, .slice a2 n2 c2] 24)).alloc (.cells #[.bool false, .slice none 0 0, .bool false, .slice none 0 0] 27)) := ⟨_, rfl⟩
  have KG := Lib.hid (show Below w.heap.size w W by rw [hW]; exact (((Below.refl _ _).alloc (Nat.le_refl _) _).alloc (by go_size) _).alloc (by go_size) _)
  rw [← hW] at KB1 KB2
  rw [show (((w.alloc (.cells #[.bool s1, .slice a1 n1 c1] 24)).alloc (.cells #[.bool s2, .slice a2 n2 c2] 24)).alloc (.cells (List.toArray [.bool false, .slice none 0 0, .bool false, .slice none 0 0]) 27)) = W from hW.symm, World.size_alloc, World.size_alloc] at KB4
  have HW := Lib.hid hW
  have GB := Lib.hid (Below.refl W.heap.size W)
  clear hW
  go_enter Tryz.func6, Tryz.ntmps6
  go_upto_region 1 with (fail)
  rw [show (((w.alloc (.cells #[.bool s1, .slice a1 n1 c1] 24)).alloc (.cells #[.bool s2, .slice a2 n2 c2] 24)).alloc (.cells #[.bool false, .slice none 0 0, .bool false, .slice none 0 0] 27)) = W from HW.out.symm]
  clear HW
  obtain ⟨x0, x1, x2, x3⟩ := KB1.out.all
  go_wp2_with fail
  with_reducible refine (CK1.out _ (KG.out.trans (GB.out.mono KG.out.size))).mono ?_
  rintro e w1 ⟨rfl, hb⟩
  have GB := Lib.hid (GB.out.trans (hb.mono GB.out.size))
  obtain ⟨v, rfl⟩ : ∃ v, v = w1 := ⟨_, rfl⟩
  clear hb x0 x1 x2 x3
  obtain ⟨x0, x1, x2, x3⟩ := (KB2.out.below GB.out KB2.out.lt).all
  obtain ⟨y0, y1, y2, y3, y4, y5⟩ := frac_box (KB4.out.below GB.out KB4.out.lt)
  go_wp2_with fail
  have hG := KG.out.trans (GB.out.mono KG.out.size)
  have hlt := KB4.out.lt
  exact bodyPost_ret (results_ct rfl _ _ _ _ _ _ _ rfl (((((KB4.out.below GB.out KB4.out.lt).put 0 _).put 1 _).put 2 _).put 3 _) Tryz.underlying27 rfl (by kernel_rfl)) rfl ⟨rfl, (((hG.setCell (by dsimp only; omega) _).setCell (by dsimp only; omega) _).setCell (by dsimp only; omega) _).setCell (by dsimp only; omega) _⟩
open Classical in
set_option maxRecDepth 100000 in
set_option maxHeartbeats 2000000 in
theorem make_2 (s1 : Bool) (a1 : Option Addr) (n1 c1 : Nat) (o1 : Nat → Int) (s2 : Bool) (a2 : Option Addr) (n2 c2 : Nat) (o2 : Nat → Int) (w : World)
    (h1 : Rd w a1 n1 o1) (hn1 : n1 ≤ 4000000) (hc1 : n1 ≤ c1) (h2 : Rd w a2 n2 o2) (hn2 : n2 ≤ 4000000) (hc2 : n2 ≤ c2) (hk1 : okN s1 n1 o1) (hk : ¬ okN s2 n2 o2) :
    Calls Tryz.prog 6 #[numV s1 a1 n1 c1, numV s2 a2 n2 c2] w fun e w' => e = .returned (.tuple #[fracV false none 0 0 false none 0 0, .int .i64 1]) ∧ Below w.heap.size w w' := by
  have CK1 := Lib.hid (fun (w' : World) (hb : Below w.heap.size w w') => check_any s1 a1 n1 c1 o1 w' (h1.below hb) (by omega))
  have CK2 := Lib.hid (fun (w' : World) (hb : Below w.heap.size w w') => check_any s2 a2 n2 c2 o2 w' (h2.below hb) (by omega))
  rw [decide_eq_true hk1] at CK1
  rw [decide_eq_false hk] at CK2
  clear hk hk1 h1 h2
  have KB1 := Lib.hid (((Bx.new w 24 (.bool s1) (.slice a1 n1 c1)).alloc (.cells #[.bool s2, .slice a2 n2 c2] 24)).alloc (.cells #[.bool false, .slice none 0 0, .bool false, .slice none 0 0] 27))
  have KB2 := Lib.hid ((Bx.new2 w (.cells #[.bool s1, .slice a1 n1 c1] 24) 24 (.bool s2) (.slice a2 n2 c2)).alloc (.cells #[.bool false, .slice none 0 0, .bool false, .slice none 0 0] 27))
  have KB4 := Lib.hid (Bxs.new ((w.alloc (.cells #[.bool s1, .slice a1 n1 c1] 24)).alloc (.cells #[.bool s2, .slice a2 n2 c2] 24)) 27 [.bool false, .slice none 0 0, .bool false, .slice none 0 0])
  obtain ⟨W, hW⟩ : ∃ W, W = (((w.alloc (.cells #[.bool s1, .slice a1 n1 c1] 24)).alloc (.cells #[.bool s2, .slice a2 n2 c2] 24)).alloc (.cells #[.bool false, .slice none 0 0, .bool false, .slice none 0 0] 27)) := ⟨_, rfl⟩
  have KG := Lib.hid (show Below w.heap.size w W by rw [hW]; exact (((Below.refl _ _).alloc (Nat.le_refl _) _).alloc (by go_size) _).alloc (by go_size) _)
  rw [← hW] at KB1 KB2
  rw [show (((w.alloc (.cells #[.bool s1, .slice a1 n1 c1] 24)).alloc (.cells #[.bool s2, .slice a2 n2 c2] 24)).alloc (.cells (List.toArray [.bool false, .slice none 0 0, .bool false, .slice none 0 0]) 27)) = W from hW.symm, World.size_alloc, World.size_alloc] at KB4
  have HW := Lib.hid hW
  have GB := Lib.hid (Below.refl W.heap.size W)
  clear hW
  go_enter Tryz.func6, Tryz.ntmps6
  go_upto_region 1 with (fail)
  rw [show (((w.alloc (.cells #[.bool s1, .slice a1 n1 c1] 24)).alloc (.cells #[.bool s2, .slice a2 n2 c2] 24)).alloc (.cells #[.bool false, .slice none 0 0, .bool false, .slice none 0 0] 27)) = W from HW.out.symm]
  clear HW
  obtain ⟨x0, x1, x2, x3⟩ := KB1.out.all
  go_wp2_with fail
  with_reducible refine (CK1.out _ (KG.out.trans (GB.out.mono KG.out.size))).mono ?_
  rintro e w1 ⟨rfl, hb⟩
  have GB := Lib.hid (GB.out.trans (hb.mono GB.out.size))
  obtain ⟨v, rfl⟩ : ∃ v, v = w1 := ⟨_, rfl⟩
  clear hb x0 x1 x2 x3
  obtain ⟨x0, x1, x2, x3⟩ := (KB2.out.below GB.out KB2.out.lt).all
  go_wp2_with fail
  with_reducible refine (CK2.out _ (KG.out.trans (GB.out.mono KG.out.size))).mono ?_
  rintro e w1 ⟨rfl, hb⟩
  have GB := Lib.hid (GB.out.trans (hb.mono GB.out.size))
  obtain ⟨v, rfl⟩ : ∃ v, v = w1 := ⟨_, rfl⟩
  clear hb x0 x1 x2 x3
  obtain ⟨x0, x1, x2, x3⟩ := (KB2.out.below GB.out KB2.out.lt).all
  obtain ⟨y0, y1, y2, y3, y4, y5⟩ := frac_box (KB4.out.below GB.out KB4.out.lt)
  go_wp2_with fail
  have hG := KG.out.trans (GB.out.mono KG.out.size)
  have hlt := KB4.out.lt
  exact bodyPost_ret (results_ct rfl _ _ _ _ _ _ _ rfl (((((KB4.out.below GB.out KB4.out.lt).put 0 _).put 1 _).put 2 _).put 3 _) Tryz.underlying27 rfl (by kernel_rfl)) rfl ⟨rfl, (((hG.setCell (by dsimp only; omega) _).setCell (by dsimp only; omega) _).setCell (by dsimp only; omega) _).setCell (by dsimp only; omega) _⟩
open Classical in
set_option maxRecDepth 100000 in
set_option maxHeartbeats 2000000 in
theorem make_3 (s1 : Bool) (a1 : Option Addr) (n1 c1 : Nat) (o1 : Nat → Int) (s2 : Bool) (a2 : Option Addr) (n2 c2 : Nat) (o2 : Nat → Int) (w : World)
    (h1 : Rd w a1 n1 o1) (hn1 : n1 ≤ 4000000) (hc1 : n1 ≤ c1) (h2 : Rd w a2 n2 o2) (hn2 : n2 ≤ 4000000) (hc2 : n2 ≤ c2) (hk1 : okN s1 n1 o1) (hk2 : okN s2 n2 o2) (hz : valN s2 n2 o2 = 0) :
    Calls Tryz.prog 6 #[numV s1 a1 n1 c1, numV s2 a2 n2 c2] w fun e w' => e = .returned (.tuple #[fracV false none 0 0 false none 0 0, .int .i64 6]) ∧ Below w.heap.size w w' := by
  have CK1 := Lib.hid (fun (w' : World) (hb : Below w.heap.size w w') => check_any s1 a1 n1 c1 o1 w' (h1.below hb) (by omega))
  have CK2 := Lib.hid (fun (w' : World) (hb : Below w.heap.size w w') => check_any s2 a2 n2 c2 o2 w' (h2.below hb) (by omega))
  have SG := Lib.hid (fun (w' : World) (hb : Below w.heap.size w w') => sign_any s2 a2 n2 c2 o2 w' (h2.below hb) (by omega) hc2)
  obtain ⟨cs, hcs⟩ : ∃ cs, cs = cmpZ (valN s2 n2 o2) 0 := ⟨_, rfl⟩
  rw [← hcs] at SG
  have hc0 : cs = 0 := by rw [hcs]; exact (sign_zero _).2 hz
  subst hc0
  rw [decide_eq_true hk1] at CK1
  rw [decide_eq_true hk2] at CK2
  clear hk1 hk2 hcs hz h1 h2
  have KB1 := Lib.hid (((Bx.new w 24 (.bool s1) (.slice a1 n1 c1)).alloc (.cells #[.bool s2, .slice a2 n2 c2] 24)).alloc (.cells #[.bool false, .slice none 0 0, .bool false, .slice none 0 0] 27))
  have KB2 := Lib.hid ((Bx.new2 w (.cells #[.bool s1, .slice a1 n1 c1] 24) 24 (.bool s2) (.slice a2 n2 c2)).alloc (.cells #[.bool false, .slice none 0 0, .bool false, .slice none 0 0] 27))
  have KB4 := Lib.hid (Bxs.new ((w.alloc (.cells #[.bool s1, .slice a1 n1 c1] 24)).alloc (.cells #[.bool s2, .slice a2 n2 c2] 24)) 27 [.bool false, .slice none 0 0, .bool false, .slice none 0 0])
  obtain ⟨W, hW⟩ : ∃ W, W = (((w.alloc (.cells #[.bool s1, .slice a1 n1 c1] 24)).alloc (.cells #[.bool s2, .slice a2 n2 c2] 24)).alloc (.cells #[.bool false, .slice none 0 0, .bool false, .slice none 0 0] 27)) := ⟨_, rfl⟩
  have KG := Lib.hid (show Below w.heap.size w W by rw [hW]; exact (((Below.refl _ _).alloc (Nat.le_refl _) _).alloc (by go_size) _).alloc (by go_size) _)
  rw [← hW] at KB1 KB2
  rw [show (((w.alloc (.cells #[.bool s1, .slice a1 n1 c1] 24)).alloc (.cells #[.bool s2, .slice a2 n2 c2] 24)).alloc (.cells (List.toArray [.bool false, .slice none 0 0, .bool false, .slice none 0 0]) 27)) = W from hW.symm, World.size_alloc, World.size_alloc] at KB4
  have HW := Lib.hid hW
  have GB := Lib.hid (Below.refl W.heap.size W)
  clear hW
  go_enter Tryz.func6, Tryz.ntmps6
  go_upto_region 1 with (fail)
  rw [show (((w.alloc (.cells #[.bool s1, .slice a1 n1 c1] 24)).alloc (.cells #[.bool s2, .slice a2 n2 c2] 24)).alloc (.cells #[.bool false, .slice none 0 0, .bool false, .slice none 0 0] 27)) = W from HW.out.symm]
  clear HW
  obtain ⟨x0, x1, x2, x3⟩ := KB1.out.all
  go_wp2_with fail
  with_reducible refine (CK1.out _ (KG.out.trans (GB.out.mono KG.out.size))).mono ?_
  rintro e w1 ⟨rfl, hb⟩
  have GB := Lib.hid (GB.out.trans (hb.mono GB.out.size))
  obtain ⟨v, rfl⟩ : ∃ v, v = w1 := ⟨_, rfl⟩
  clear hb x0 x1 x2 x3
  obtain ⟨x0, x1, x2, x3⟩ := (KB2.out.below GB.out KB2.out.lt).all
  go_wp2_with fail
  with_reducible refine (CK2.out _ (KG.out.trans (GB.out.mono KG.out.size))).mono ?_
  rintro e w1 ⟨rfl, hb⟩
  have GB := Lib.hid (GB.out.trans (hb.mono GB.out.size))
  obtain ⟨v, rfl⟩ : ∃ v, v = w1 := ⟨_, rfl⟩
  clear hb x0 x1 x2 x3
  obtain ⟨x0, x1, x2, x3⟩ := (KB2.out.below GB.out KB2.out.lt).all
  go_wp2_with fail
  with_reducible refine (SG.out _ (KG.out.trans (GB.out.mono KG.out.size))).mono ?_
  rintro e w1 ⟨rfl, hb⟩
  have GB := Lib.hid (GB.out.trans (hb.mono GB.out.size))
  obtain ⟨v, rfl⟩ : ∃ v, v = w1 := ⟨_, rfl⟩
  clear hb x0 x1 x2 x3
  obtain ⟨x0, x1, x2, x3⟩ := (KB2.out.below GB.out KB2.out.lt).all
  obtain ⟨y0, y1, y2, y3, y4, y5⟩ := frac_box (KB4.out.below GB.out KB4.out.lt)
  go_wp2_with fail
  have hG := KG.out.trans (GB.out.mono KG.out.size)
  have hlt := KB4.out.lt
  exact bodyPost_ret (results_ct rfl _ _ _ _ _ _ _ rfl (((((KB4.out.below GB.out KB4.out.lt).put 0 _).put 1 _).put 2 _).put 3 _) Tryz.underlying27 rfl (by kernel_rfl)) rfl ⟨rfl, (((hG.setCell (by dsimp only; omega) _).setCell (by dsimp only; omega) _).setCell (by dsimp only; omega) _).setCell (by dsimp only; omega) _⟩
open Classical in
set_option maxRecDepth 100000 in
set_option maxHeartbeats 2000000 in
theorem make_ok (s1 : Bool) (a1 : Option Addr) (n1 c1 : Nat) (o1 : Nat → Int) (s2 : Bool) (a2 : Option Addr) (n2 c2 : Nat) (o2 : Nat → Int) (w : World)
    (h1 : Rd w a1 n1 o1) (hn1 : n1 ≤ 4000000) (hc1 : n1 ≤ c1) (h2 : Rd w a2 n2 o2) (hn2 : n2 ≤ 4000000) (hc2 : n2 ≤ c2) (hk1 : okN s1 n1 o1) (hk2 : okN s2 n2 o2) (hz : valN s2 n2 o2 ≠ 0) :
    Calls Tryz.prog 6 #[numV s1 a1 n1 c1, numV s2 a2 n2 c2] w (MakeP w 0 (Rat.divInt (valN s1 n1 o1) (valN s2 n2 o2)).num ((Rat.divInt (valN s1 n1 o1) (valN s2 n2 o2)).den : Int)) := by
  have CK1 := Lib.hid (fun (w' : World) (hb : Below w.heap.size w w') => check_any s1 a1 n1 c1 o1 w' (h1.below hb) (by omega))
  have CK2 := Lib.hid (fun (w' : World) (hb : Below w.heap.size w w') => check_any s2 a2 n2 c2 o2 w' (h2.below hb) (by omega))
  have SG := Lib.hid (fun (w' : World) (hb : Below w.heap.size w w') => sign_any s2 a2 n2 c2 o2 w' (h2.below hb) (by omega) hc2)
  obtain ⟨cs, hcs⟩ : ∃ cs, cs = cmpZ (valN s2 n2 o2) 0 := ⟨_, rfl⟩
  rw [← hcs] at SG
  have hc0 : (cs == 0) = false := by rw [hcs]; simpa using fun h => hz ((sign_zero _).1 h)
  have hc0' : decide (cs = 0) = false := by simpa using hc0
  rw [decide_eq_true hk1] at CK1
  rw [decide_eq_true hk2] at CK2
  obtain ⟨t1, t2, t3⟩ := of_facts s1 n1 o1 hk1 h1.rng
  obtain ⟨u1, u2, u3⟩ := of_facts s2 n2 o2 hk2 h2.rng
  have LW := Lib.hid (fun (w' : World) (hb : Below w.heap.size w w') => lowest_any (valN s1 n1 o1) (valN s2 n2 o2) a1 a2 c1 c2 w' (by rw [t2]; exact (h1.congr t3).below hb) (by omega) (by omega) (by rw [u2]; exact (h2.congr u3).below hb) (by omega) (by omega) hz)
  rw [t1, t2, u1, u2] at LW
  obtain ⟨p, hp⟩ : ∃ p, p = (Rat.divInt (valN s1 n1 o1) (valN s2 n2 o2)).num := ⟨_, rfl⟩
  obtain ⟨q, hq⟩ : ∃ q : Int, q = ((Rat.divInt (valN s1 n1 o1) (valN s2 n2 o2)).den : Int) := ⟨_, rfl⟩
  rw [← hp, ← hq] at LW
  rw [← hp, ← hq]
  clear hk1 hk2 hcs hz h1 h2 t1 t2 t3 u1 u2 u3 hp hq
  have KB1 := Lib.hid (((Bx.new w 24 (.bool s1) (.slice a1 n1 c1)).alloc (.cells #[.bool s2, .slice a2 n2 c2] 24)).alloc (.cells #[.bool false, .slice none 0 0, .bool false, .slice none 0 0] 27))
  have KB2 := Lib.hid ((Bx.new2 w (.cells #[.bool s1, .slice a1 n1 c1] 24) 24 (.bool s2) (.slice a2 n2 c2)).alloc (.cells #[.bool false, .slice none 0 0, .bool false, .slice none 0 0] 27))
  have KB4 := Lib.hid (Bxs.new ((w.alloc (.cells #[.bool s1, .slice a1 n1 c1] 24)).alloc (.cells #[.bool s2, .slice a2 n2 c2] 24)) 27 [.bool false, .slice none 0 0, .bool false, .slice none 0 0])
  obtain ⟨W, hW⟩ : ∃ W, W = (((w.alloc (.cells #[.bool s1, .slice a1 n1 c1] 24)).alloc (.cells #[.bool s2, .slice a2 n2 c2] 24)).alloc (.cells #[.bool false, .slice none 0 0, .bool false, .slice none 0 0] 27)) := ⟨_, rfl⟩
  have KG := Lib.hid (show Below w.heap.size w W by rw [hW]; exact (((Below.refl _ _).alloc (Nat.le_refl _) _).alloc (by go_size) _).alloc (by go_size) _)
  rw [← hW] at KB1 KB2
  rw [show (((w.alloc (.cells #[.bool s1, .slice a1 n1 c1] 24)).alloc (.cells #[.bool s2, .slice a2 n2 c2] 24)).alloc (.cells (List.toArray [.bool false, .slice none 0 0, .bool false, .slice none 0 0]) 27)) = W from hW.symm, World.size_alloc, World.size_alloc] at KB4
  have HW := Lib.hid hW
  have GB := Lib.hid (Below.refl W.heap.size W)
  clear hW
  go_enter Tryz.func6, Tryz.ntmps6
  go_upto_region 1 with (fail)
  rw [show (((w.alloc (.cells #[.bool s1, .slice a1 n1 c1] 24)).alloc (.cells #[.bool s2, .slice a2 n2 c2] 24)).alloc (.cells #[.bool false, .slice none 0 0, .bool false, .slice none 0 0] 27)) = W from HW.out.symm]
  clear HW
  obtain ⟨x0, x1, x2, x3⟩ := KB1.out.all
  go_wp2_with fail
  with_reducible refine (CK1.out _ (KG.out.trans (GB.out.mono KG.out.size))).mono ?_
  rintro e w1 ⟨rfl, hb⟩
  have GB := Lib.hid (GB.out.trans (hb.mono GB.out.size))
  obtain ⟨v, rfl⟩ : ∃ v, v = w1 := ⟨_, rfl⟩
  clear hb x0 x1 x2 x3
  obtain ⟨x0, x1, x2, x3⟩ := (KB2.out.below GB.out KB2.out.lt).all
  go_wp2_with fail
  with_reducible refine (CK2.out _ (KG.out.trans (GB.out.mono KG.out.size))).mono ?_
  rintro e w1 ⟨rfl, hb⟩
  have GB := Lib.hid (GB.out.trans (hb.mono GB.out.size))
  obtain ⟨v, rfl⟩ : ∃ v, v = w1 := ⟨_, rfl⟩
  clear hb x0 x1 x2 x3
  obtain ⟨x0, x1, x2, x3⟩ := (KB2.out.below GB.out KB2.out.lt).all
  go_wp2_with fail
  with_reducible refine (SG.out _ (KG.out.trans (GB.out.mono KG.out.size))).mono ?_
  rintro e w1 ⟨rfl, hb⟩
  have GB := Lib.hid (GB.out.trans (hb.mono GB.out.size))
  obtain ⟨v, rfl⟩ : ∃ v, v = w1 := ⟨_, rfl⟩
  clear hb x0 x1 x2 x3
  obtain ⟨x0, x1, x2, x3⟩ := (KB2.out.below GB.out KB2.out.lt).all
  obtain ⟨z0, z1, z2, z3⟩ := (KB1.out.below GB.out KB1.out.lt).all
  go_wp2_with fail
  with_reducible refine (LW.out _ (KG.out.trans (GB.out.mono KG.out.size))).mono ?_
  rintro e w2 ⟨aq, ap, rfl, ho1, ho2, hap, hb⟩
  have hs1 := KG.out.size
  have hs2 := GB.out.size
  have HO := Lib.hid (And.intro ho1 (And.intro ho2 hap))
  have HSZ := Lib.hid (Nat.le_trans (show w.heap.size + 3 ≤ W.heap.size by have := KB4.out.lt; omega) hs2)
  have GB := Lib.hid (GB.out.trans (hb.mono GB.out.size))
  clear ho1 ho2 hap hb hs1 hs2 x0 x1 x2 x3 z0 z1 z2 z3
  obtain ⟨y0, y1, y2, y3, y4, y5⟩ := frac_box (KB4.out.below GB.out KB4.out.lt)
  go_wp2_with fail
  have hG := KG.out.trans (GB.out.mono KG.out.size)
  have hlt := KB4.out.lt
  have hsz := HSZ.out
  refine bodyPost_ret (results_ct rfl _ _ _ _ _ _ _ rfl (((((KB4.out.below GB.out KB4.out.lt).put 0 _).put 1 _).put 2 _).put 3 _) Tryz.underlying27 rfl (by kernel_rfl)) rfl ⟨aq, ap, rfl, ?_, ?_, HO.out.2.2, (((hG.setCell (by dsimp only; omega) _).setCell (by dsimp only; omega) _).setCell (by dsimp only; omega) _).setCell (by dsimp only; omega) _⟩
  · exact ((((HO.out.1.other (by dsimp only; omega) _).other (by dsimp only; omega) _).other (by dsimp only; omega) _).other (by dsimp only; omega) _).mono (by omega)
  · exact ((((HO.out.2.1.other (by dsimp only; omega) _).other (by dsimp only; omega) _).other (by dsimp only; omega) _).other (by dsimp only; omega) _).mono (by omega)
end Go.Proofs.YtaagegcidbgjmaaGreatDoor.Limb
namespace Go.Proofs.YtaagegcidbgjmaaGreatDoor.Limb
open Go.RowKit Go.Sort Go.Fresh

/-- A fraction in hand: both lists may be read, and lie outside some blocks. -/
structure FracI (w : World) (lo hi : Nat) (p q : Int) (x : Option Addr × Nat × Option Addr × Nat) : Prop where
  r1 : RdS w lo hi x.1 (lenB p.natAbs) (dgi p.natAbs)
  c1 : lenB p.natAbs ≤ x.2.1
  r2 : RdS w lo hi x.2.2.1 (lenB q.natAbs) (dgi q.natAbs)
  c2 : lenB q.natAbs ≤ x.2.2.2
theorem FracI.below {w w' : World} {lo hi : Nat} {p q : Int} {x : Option Addr × Nat × Option Addr × Nat} (h : FracI w lo hi p q x) (hb : Below w.heap.size w w') : FracI w' lo hi p q x := ⟨h.r1.below hb, h.c1, h.r2.below hb, h.c2⟩
theorem FracI.set {w : World} {lo hi : Nat} {p q : Int} {x : Option Addr × Nat × Option Addr × Nat} (h : FracI w lo hi p q x) {a : Addr} (h1 : lo ≤ a.block) (h2 : a.block < hi) (v : Value) : FracI (w.setCell a v) lo hi p q x := ⟨h.r1.set h1 h2 v, h.c1, h.r2.set h1 h2 v, h.c2⟩
theorem FracI.up {w : World} {lo hi hi' : Nat} {p q : Int} {x : Option Addr × Nat × Option Addr × Nat} (h : FracI w lo hi p q x) (hh : hi' ≤ hi) : FracI w lo hi' p q x := ⟨h.r1.up hh, h.c1, h.r2.up hh, h.c2⟩
/-- .. as a value. -/
abbrev fracX (p q : Int) (x : Option Addr × Nat × Option Addr × Nat) : Value := fracV (decide (p < 0)) x.1 (lenB p.natAbs) x.2.1 (decide (q < 0)) x.2.2.1 (lenB q.natAbs) x.2.2.2
theorem fracI_of {lo hi : Nat} {p q : Int} {x : Option Addr × Nat × Option Addr × Nat} {w : World} (h : ∃ y, fracX p q x = fracX p q y ∧ FracI w lo hi p q y) : FracI w lo hi p q x := by
  obtain ⟨y, e, h⟩ := h
  simp only [Value.agg.injEq, Array.mk.injEq, List.cons.injEq, Value.slice.injEq, true_and, and_true] at e
  obtain ⟨⟨e1, e2⟩, e3, e4⟩ := e
  obtain ⟨x1, x2, x3, x4⟩ := x
  obtain ⟨y1, y2, y3, y4⟩ := y
  dsimp only at e1 e2 e3 e4
  subst e1 e2 e3 e4
  exact h
theorem fracS_ex {w : World} {B0 : Nat} {p q : Int} {e : Ending} {w' : World} (h : FracS w B0 p q e w') : ∃ x, e = .returned (fracX p q x) ∧ FracI w' B0 w.heap.size p q x ∧ Below w.heap.size w w' := by
  obtain ⟨a1, c1, a2, c2, rfl, r1, l1, r2, l2, hb⟩ := h
  exact ⟨(a1, c1, a2, c2), rfl, ⟨r1, l1, r2, l2⟩, hb⟩

/-- Three numbers come back. -/
def Brought (w : World) (t1 t2 l : Int) (e : Ending) (w' : World) : Prop :=
  ∃ m1 m2 m3 : Option Addr, e = .returned (.tuple #[fracV (decide (t1 < 0)) m1 (lenB t1.natAbs) (lenB t1.natAbs) (decide (t2 < 0)) m2 (lenB t2.natAbs) (lenB t2.natAbs), numV (decide (l < 0)) m3 (lenB l.natAbs) (lenB l.natAbs)]) ∧
    Own 74 w' w.heap.size m1 (lenB t1.natAbs) (lenB t1.natAbs) (dgi t1.natAbs) ∧ Own 74 w' w.heap.size m2 (lenB t2.natAbs) (lenB t2.natAbs) (dgi t2.natAbs) ∧ Own 74 w' w.heap.size m3 (lenB l.natAbs) (lenB l.natAbs) (dgi l.natAbs) ∧ Below w.heap.size w w'
/-- How great a fraction's numbers are. -/
theorem valF_len {s1 : Bool} {n1 : Nat} {o1 : Nat → Int} {s2 : Bool} {n2 : Nat} {o2 : Nat → Int} (g1 : ∀ i, i < n1 → 0 ≤ o1 i ∧ o1 i ≤ 4294967295) (g2 : ∀ i, i < n2 → 0 ≤ o2 i ∧ o2 i ≤ 4294967295) :
    lenB (valF s1 n1 o1 s2 n2 o2).num.natAbs ≤ n1 + 1 ∧ lenB ((valF s1 n1 o1 s2 n2 o2).den : Int).natAbs ≤ n2 + 1 := by
  by_cases hk : okF s1 n1 o1 s2 n2 o2
  · obtain ⟨e1, e2⟩ := valF_ok hk
    rw [e1, e2]
    have h1 := (of_facts s1 n1 o1 hk.1 g1).2.1
    have h2 := (of_facts s2 n2 o2 hk.2.1 g2).2.1
    omega
  · rw [valF_not hk]
    have h1 : lenB (Rat.num 0).natAbs = 0 := lenB_zero
    have h2 : lenB (((Rat.den 0 : Nat) : Int)).natAbs ≤ 1 := lenB_le (by decide)
    omega
end Go.Proofs.YtaagegcidbgjmaaGreatDoor.Limb
namespace Go.Proofs.YtaagegcidbgjmaaGreatDoor.Limb
open Go.RowKit Go.Sort Go.Fresh

/-- Two results in variables of two types. -/
theorem results_cc {P : Program} {fn : Func} {p q : Tmp} {ty ty2 : TypeId} (h : fn.results = #[.cell p ty, .cell q ty2]) (tmps : Array Value) (w : World) (g g2 : Nat) (ta tb : TypeId) (cs cs2 : Array Value) (fr fr2 : Nat × Nat) (d d2 : TypeDesc)
    (hp : tmps.getD p undef = .pointer (some ⟨g, 0, none⟩)) (hg : w.heap[g]? = some (.cells cs ta fr)) (hq : tmps.getD q undef = .pointer (some ⟨g2, 0, none⟩)) (hg2 : w.heap[g2]? = some (.cells cs2 tb fr2))
    (hu : P.underlying ty = some d) (hd : (match d with | .struct _ | .array _ _ => true | _ => false) = true) (hi : (P.info? ty).map (·.size) = some cs.size)
    (hu2 : P.underlying ty2 = some d2) (hd2 : (match d2 with | .struct _ | .array _ _ => true | _ => false) = true) (hi2 : (P.info? ty2).map (·.size) = some cs2.size) :
    (results fn tmps).run P w = .ok (.tuple #[.agg cs, .agg cs2]) w := by
  have hp' : tmps[p]?.getD undef = .pointer (some ⟨g, 0, none⟩) := by simpa using hp
  have hq' : tmps[q]?.getD undef = .pointer (some ⟨g2, 0, none⟩) := by simpa using hq
  simp [results, h, hp', hq', asAddr, run_loadVar_row w g ta ty cs fr d hg hu hd hi, run_loadVar_row w g2 tb ty2 cs2 fr2 d2 hg2 hu2 hd2 hi2]
set_option maxRecDepth 100000 in
set_option maxHeartbeats 4000000 in
theorem brought_any (s1 : Bool) (a1 : Option Addr) (n1 c1 : Nat) (o1 : Nat → Int) (s2 : Bool) (a2 : Option Addr) (n2 c2 : Nat) (o2 : Nat → Int) (s3 : Bool) (a3 : Option Addr) (n3 c3 : Nat) (o3 : Nat → Int) (s4 : Bool) (a4 : Option Addr) (n4 c4 : Nat) (o4 : Nat → Int) (w : World) (x y : Rat)
    (hx : x = valF s1 n1 o1 s2 n2 o2) (hy : y = valF s3 n3 o3 s4 n4 o4)
    (h1 : Rd w a1 n1 o1) (hn1 : n1 ≤ 1000000) (hc1 : n1 ≤ c1) (h2 : Rd w a2 n2 o2) (hn2 : n2 ≤ 1000000) (hc2 : n2 ≤ c2) (h3 : Rd w a3 n3 o3) (hn3 : n3 ≤ 1000000) (hc3 : n3 ≤ c3) (h4 : Rd w a4 n4 o4) (hn4 : n4 ≤ 1000000) (hc4 : n4 ≤ c4) :
    Calls Tryz.prog 87 #[fracV s1 a1 n1 c1 s2 a2 n2 c2, fracV s3 a3 n3 c3 s4 a4 n4 c4] w (Brought w (x.num * (y.den : Int)) (y.num * (x.den : Int)) ((x.den : Int) * (y.den : Int))) := by
  have hfar : ∀ {a : Option Addr} {n : Nat} {o : Nat → Int}, Rd w a n o → 0 < n → ∀ p, a = some p → p.block < w.heap.size := fun h h0 p hp => by
    obtain ⟨b, off, e, hc⟩ := h.cells h0
    rw [e] at hp; cases hp
    exact block_lt_of_cell (hc 0 h0)
  have OX := Lib.hid (fun (w' : World) (hb : Below w.heap.size w w') => fof2_any s1 a1 n1 c1 o1 s2 a2 n2 c2 o2 w' w.heap.size hb.size (h1.below hb) (by omega) hc1 (hfar h1) (h2.below hb) (by omega) hc2 (hfar h2))
  have OY := Lib.hid (fun (w' : World) (hb : Below w.heap.size w w') => fof2_any s3 a3 n3 c3 o3 s4 a4 n4 c4 o4 w' w.heap.size hb.size (h3.below hb) (by omega) hc3 (hfar h3) (h4.below hb) (by omega) hc4 (hfar h4))
  have l1 := valF_len (s1 := s1) (s2 := s2) h1.rng h2.rng
  have l2 := valF_len (s1 := s3) (s2 := s4) h3.rng h4.rng
  rw [← hx] at OX l1
  rw [← hy] at OY l2
  obtain ⟨p, hp⟩ : ∃ p, p = x.num := ⟨_, rfl⟩
  obtain ⟨q, hq⟩ : ∃ q : Int, q = (x.den : Int) := ⟨_, rfl⟩
  obtain ⟨r, hr⟩ : ∃ r, r = y.num := ⟨_, rfl⟩
  obtain ⟨t, ht⟩ : ∃ t : Int, t = (y.den : Int) := ⟨_, rfl⟩
  rw [← hp, ← hq] at OX l1
  rw [← hr, ← ht] at OY l2
  rw [← hp, ← hq, ← hr, ← ht]
  have HL := Lib.hid (show (lenB p.natAbs ≤ 1000001 ∧ lenB q.natAbs ≤ 1000001) ∧ lenB r.natAbs ≤ 1000001 ∧ lenB t.natAbs ≤ 1000001 by omega)
  clear hp hq hr ht hx hy h1 h2 h3 h4 l1 l2 hfar
  have HB1 := Lib.hid ((((Bxs.new w 27 [.bool s1, .slice a1 n1 c1, .bool s2, .slice a2 n2 c2]).alloc (.cells #[.bool s3, .slice a3 n3 c3, .bool s4, .slice a4 n4 c4] 27)).alloc (.cells #[.bool false, .slice none 0 0, .bool false, .slice none 0 0] 70)).alloc (.cells #[.bool false, .slice none 0 0] 24))
  have HB2 := Lib.hid (((Bxs.new (w.alloc (.cells #[.bool s1, .slice a1 n1 c1, .bool s2, .slice a2 n2 c2] 27)) 27 [.bool s3, .slice a3 n3 c3, .bool s4, .slice a4 n4 c4]).alloc (.cells #[.bool false, .slice none 0 0, .bool false, .slice none 0 0] 70)).alloc (.cells #[.bool false, .slice none 0 0] 24))
  have HB4 := Lib.hid ((Bxs.new ((w.alloc (.cells #[.bool s1, .slice a1 n1 c1, .bool s2, .slice a2 n2 c2] 27)).alloc (.cells #[.bool s3, .slice a3 n3 c3, .bool s4, .slice a4 n4 c4] 27)) 70 [.bool false, .slice none 0 0, .bool false, .slice none 0 0]).alloc (.cells #[.bool false, .slice none 0 0] 24))
  have HB5 := Lib.hid (Bxs.new (((w.alloc (.cells #[.bool s1, .slice a1 n1 c1, .bool s2, .slice a2 n2 c2] 27)).alloc (.cells #[.bool s3, .slice a3 n3 c3, .bool s4, .slice a4 n4 c4] 27)).alloc (.cells #[.bool false, .slice none 0 0, .bool false, .slice none 0 0] 70)) 24 [.bool false, .slice none 0 0])
  obtain ⟨W, hW⟩ : ∃ W, W = (((w.alloc (.cells #[.bool s1, .slice a1 n1 c1, .bool s2, .slice a2 n2 c2] 27)).alloc (.cells #[.bool s3, .slice a3 n3 c3, .bool s4, .slice a4 n4 c4] 27)).alloc (.cells #[.bool false, .slice none 0 0, .bool false, .slice none 0 0] 70)).alloc (.cells #[.bool false, .slice none 0 0] 24) := ⟨_, rfl⟩
  have KG := Lib.hid (show Below w.heap.size w W by rw [hW]; exact ((((Below.refl _ _).alloc (Nat.le_refl _) _).alloc (by go_size) _).alloc (by go_size) _).alloc (by go_size) _)
  have hWs : w.heap.size + 4 = W.heap.size := by rw [hW]; simp
  have HB1 := Lib.hid (show Bxs W w.heap.size 27 [.bool s1, .slice a1 n1 c1, .bool s2, .slice a2 n2 c2] by rw [hW]; exact HB1.out)
  have HB2 := Lib.hid (show Bxs W (w.heap.size + 1) 27 [.bool s3, .slice a3 n3 c3, .bool s4, .slice a4 n4 c4] by have h := HB2.out; simp only [World.size_alloc] at h; rw [hW]; exact h)
  have HB4 := Lib.hid (show Bxs W (w.heap.size + 1 + 1) 70 [.bool false, .slice none 0 0, .bool false, .slice none 0 0] by have h := HB4.out; simp only [World.size_alloc] at h; rw [hW]; exact h)
  have HB5 := Lib.hid (show Bxs W (w.heap.size + 1 + 1 + 1) 24 [.bool false, .slice none 0 0] by have h := HB5.out; simp only [World.size_alloc] at h; rw [hW]; exact h)
  have HW := Lib.hid hW
  have HWS := Lib.hid hWs
  clear hW hWs
  go_enter Tryz.func87, Tryz.ntmps87
  go_upto_region 1 with (fail)
  rw [show (((w.alloc (.cells #[.bool s1, .slice a1 n1 c1, .bool s2, .slice a2 n2 c2] 27)).alloc (.cells #[.bool s3, .slice a3 n3 c3, .bool s4, .slice a4 n4 c4] 27)).alloc (.cells #[.bool false, .slice none 0 0, .bool false, .slice none 0 0] 70)).alloc (.cells #[.bool false, .slice none 0 0] 24) = W from HW.out.symm]
  clear HW
  have HS := Lib.hid (fun (w' : World) (hb : Below W.heap.size W w') => And.intro (frac_box (HB1.out.below hb HB1.out.lt)) (frac_box (HB2.out.below hb HB2.out.lt)))
  refine wp_region_fresh 3 (spOf [(1, Sp.made (fracX p q) (fun x w' => FracI w' w.heap.size (w.heap.size + 4) p q x))]) (fun w' => Below W.heap.size W w') (by kernel_rfl) (by kernel_rfl)
    (spOf_cons (Sp.made_keeps fun x w w' h hb => h.below hb) spOf_nil) (fun _ _ h hb => h.trans (hb.mono h.size)) ((Below.refl _ _).drew) ?_
  simp only [List.take_succ_cons, List.take_zero, List.drop_succ_cons, List.drop_zero]
  (refine wpF_reads rfl rfl ?_ (fun w' hw' => ?_) ?_; rotate_left; · (have hb' := Has.world hw'; (obtain ⟨x0, x1, x2, x3, x4, x5⟩ := (HS.out _ hb').1); clear hw'; go_simp; try rfl))
  conv => arg 9; simp only [Act.put, List.setIfInBounds_toArray, List.set_cons_succ, List.set_cons_zero]
  refine wpF_spec rfl rfl (fun w' hw' => ?_) ?_
  · have hb' := hw'.world
    go_simp
    refine (OX.out w' (KG.out.trans (hb'.mono KG.out.size))).mono ?_
    intro e w'' hh
    obtain ⟨z, rfl, hi, hb⟩ := fracS_ex hh
    exact ⟨_, rfl, ⟨⟨z.1, z.2.1, z.2.2.1, z.2.2.2, rfl⟩, ⟨z.1, z.2.1, z.2.2.1, z.2.2.2, rfl, hi.up (by have := hb'.size; have := HWS.out; omega)⟩⟩, hb⟩
  rintro _ ⟨xa, rfl⟩
  conv => arg 9; simp only [Act.put, List.setIfInBounds_toArray, List.set_cons_succ, List.set_cons_zero]
  (refine wpF_reads rfl rfl ?_ (fun w' hw' => ?_) ?_; rotate_left; · (have hb' := Has.world hw'; (obtain ⟨x0, x1, x2, x3, x4, x5⟩ := (HS.out _ hb').2); clear hw'; go_simp; try rfl))
  conv => arg 9; simp only [Act.put, List.setIfInBounds_toArray, List.set_cons_succ, List.set_cons_zero]
  refine wpF_nil (fun w1 hb1 hF => ?_)
  have HXA := Lib.hid (fracI_of (hF 1))
  have GB := Lib.hid hb1
  clear hF hb1
  go_wp2_with fail
  have OY1 := Lib.hid (OY.out w1 (KG.out.trans (GB.out.mono KG.out.size)))
  clear OX OY HS
  with_reducible refine OY1.out.mono ?_
  intro e w2 hh
  obtain ⟨yb, rfl, hi, hb⟩ := fracS_ex hh
  have HYB := Lib.hid (hi.up (show w.heap.size + 4 ≤ w1.heap.size by have := GB.out.size; have := HWS.out; omega))
  have HXA := Lib.hid (HXA.out.below hb)
  have GB := Lib.hid (GB.out.trans (hb.mono GB.out.size))
  clear hh hi hb OY1
  have M1 := Lib.hid (HB1.out.below GB.out HB1.out.lt)
  have M2 := Lib.hid (HB2.out.below GB.out HB2.out.lt)
  have M4 := Lib.hid (HB4.out.below GB.out HB4.out.lt)
  have M5 := Lib.hid (HB5.out.below GB.out HB5.out.lt)
  obtain ⟨x0, x1, x2, x3, x4, x5⟩ := frac_box M1.out
  obtain ⟨y0, y1, y2, y3, y4, y5⟩ := frac_box M2.out
  go_upto_region 2 with (fail)
  obtain ⟨V, hV⟩ : ∃ V, V = ((((((((w2.setCell ⟨w.heap.size, 0, none⟩ (.bool (decide (p < 0)))).setCell ⟨w.heap.size, 1, none⟩ (.slice xa.1 (lenB p.natAbs) xa.2.1)).setCell ⟨w.heap.size, 2, none⟩ (.bool (decide (q < 0)))).setCell ⟨w.heap.size, 3, none⟩ (.slice xa.2.2.1 (lenB q.natAbs) xa.2.2.2)).setCell ⟨w.heap.size + 1, 0, none⟩ (.bool (decide (r < 0)))).setCell ⟨w.heap.size + 1, 1, none⟩ (.slice yb.1 (lenB r.natAbs) yb.2.1)).setCell ⟨w.heap.size + 1, 2, none⟩ (.bool (decide (t < 0)))).setCell ⟨w.heap.size + 1, 3, none⟩ (.slice yb.2.2.1 (lenB t.natAbs) yb.2.2.2)) := ⟨_, rfl⟩
  have M1 := Lib.hid (show Bxs V w.heap.size 27 [.bool (decide (p < 0)), .slice xa.1 (lenB p.natAbs) xa.2.1, .bool (decide (q < 0)), .slice xa.2.2.1 (lenB q.natAbs) xa.2.2.2] by rw [hV]; exact ((((((((M1.out.put 0 _).put 1 _).put 2 _).put 3 _).other (by dsimp only; omega) _).other (by dsimp only; omega) _).other (by dsimp only; omega) _).other (by dsimp only; omega) _))
  have M2 := Lib.hid (show Bxs V (w.heap.size + 1) 27 [.bool (decide (r < 0)), .slice yb.1 (lenB r.natAbs) yb.2.1, .bool (decide (t < 0)), .slice yb.2.2.1 (lenB t.natAbs) yb.2.2.2] by rw [hV]; exact ((((((((M2.out.other (by dsimp only; omega) _).other (by dsimp only; omega) _).other (by dsimp only; omega) _).other (by dsimp only; omega) _).put 0 _).put 1 _).put 2 _).put 3 _))
  have M4 := Lib.hid (show Bxs V (w.heap.size + 1 + 1) 70 [.bool false, .slice none 0 0, .bool false, .slice none 0 0] by rw [hV]; exact ((((((((M4.out.other (by dsimp only; omega) _).other (by dsimp only; omega) _).other (by dsimp only; omega) _).other (by dsimp only; omega) _).other (by dsimp only; omega) _).other (by dsimp only; omega) _).other (by dsimp only; omega) _).other (by dsimp only; omega) _))
  have M5 := Lib.hid (show Bxs V (w.heap.size + 1 + 1 + 1) 24 [.bool false, .slice none 0 0] by rw [hV]; exact ((((((((M5.out.other (by dsimp only; omega) _).other (by dsimp only; omega) _).other (by dsimp only; omega) _).other (by dsimp only; omega) _).other (by dsimp only; omega) _).other (by dsimp only; omega) _).other (by dsimp only; omega) _).other (by dsimp only; omega) _))
  have HXA := Lib.hid (show FracI V w.heap.size (w.heap.size + 4) p q xa by rw [hV]; exact ((((((((HXA.out.set (by dsimp only; omega) (by dsimp only; omega) _).set (by dsimp only; omega) (by dsimp only; omega) _).set (by dsimp only; omega) (by dsimp only; omega) _).set (by dsimp only; omega) (by dsimp only; omega) _).set (by dsimp only; omega) (by dsimp only; omega) _).set (by dsimp only; omega) (by dsimp only; omega) _).set (by dsimp only; omega) (by dsimp only; omega) _).set (by dsimp only; omega) (by dsimp only; omega) _))
  have HYB := Lib.hid (show FracI V w.heap.size (w.heap.size + 4) r t yb by rw [hV]; exact ((((((((HYB.out.set (by dsimp only; omega) (by dsimp only; omega) _).set (by dsimp only; omega) (by dsimp only; omega) _).set (by dsimp only; omega) (by dsimp only; omega) _).set (by dsimp only; omega) (by dsimp only; omega) _).set (by dsimp only; omega) (by dsimp only; omega) _).set (by dsimp only; omega) (by dsimp only; omega) _).set (by dsimp only; omega) (by dsimp only; omega) _).set (by dsimp only; omega) (by dsimp only; omega) _))
  have hG := KG.out.trans (GB.out.mono KG.out.size)
  have KG := Lib.hid (show Below w.heap.size w V by rw [hV]; exact ((((((((hG.setCell (by dsimp only; omega) _).setCell (by dsimp only; omega) _).setCell (by dsimp only; omega) _).setCell (by dsimp only; omega) _).setCell (by dsimp only; omega) _).setCell (by dsimp only; omega) _).setCell (by dsimp only; omega) _).setCell (by dsimp only; omega) _))
  rw [show ((((((((w2.setCell ⟨w.heap.size, 0, none⟩ (.bool (decide (p < 0)))).setCell ⟨w.heap.size, 1, none⟩ (.slice xa.1 (lenB p.natAbs) xa.2.1)).setCell ⟨w.heap.size, 2, none⟩ (.bool (decide (q < 0)))).setCell ⟨w.heap.size, 3, none⟩ (.slice xa.2.2.1 (lenB q.natAbs) xa.2.2.2)).setCell ⟨w.heap.size + 1, 0, none⟩ (.bool (decide (r < 0)))).setCell ⟨w.heap.size + 1, 1, none⟩ (.slice yb.1 (lenB r.natAbs) yb.2.1)).setCell ⟨w.heap.size + 1, 2, none⟩ (.bool (decide (t < 0)))).setCell ⟨w.heap.size + 1, 3, none⟩ (.slice yb.2.2.1 (lenB t.natAbs) yb.2.2.2)) = V from hV.symm]
  clear hV hG x0 x1 x2 x3 x4 x5 y0 y1 y2 y3 y4 y5 HB1 HB2 HB4 HB5 GB
  obtain ⟨T1, hT1⟩ : ∃ T1, T1 = p * t := ⟨_, rfl⟩
  obtain ⟨T2, hT2⟩ : ∃ T2, T2 = r * q := ⟨_, rfl⟩
  obtain ⟨Lw, hLw⟩ : ∃ Lw, Lw = q * t := ⟨_, rfl⟩
  have HT := Lib.hid (And.intro hT1 (And.intro hT2 hLw))
  clear hT1 hT2 hLw
  have MA := Lib.hid (fun (w' : World) (hb : Below V.heap.size V w') => mul_any (decide (p < 0)) xa.1 (lenB p.natAbs) xa.2.1 (dgi p.natAbs) (decide (t < 0)) yb.2.2.1 (lenB t.natAbs) yb.2.2.2 (dgi t.natAbs) w' (HXA.out.r1.rd.below hb) (by have := HL.out; omega) HXA.out.c1 (HYB.out.r2.rd.below hb) (by have := HL.out; omega) HYB.out.c2)
  rw [canon_val, canon_val, ← HT.out.1] at MA
  have MB := Lib.hid (fun (w' : World) (hb : Below V.heap.size V w') => mul_any (decide (r < 0)) yb.1 (lenB r.natAbs) yb.2.1 (dgi r.natAbs) (decide (q < 0)) xa.2.2.1 (lenB q.natAbs) xa.2.2.2 (dgi q.natAbs) w' (HYB.out.r1.rd.below hb) (by have := HL.out; omega) HYB.out.c1 (HXA.out.r2.rd.below hb) (by have := HL.out; omega) HXA.out.c2)
  rw [canon_val, canon_val, ← HT.out.2.1] at MB
  have MC := Lib.hid (fun (w' : World) (hb : Below V.heap.size V w') => mul_any (decide (q < 0)) xa.2.2.1 (lenB q.natAbs) xa.2.2.2 (dgi q.natAbs) (decide (t < 0)) yb.2.2.1 (lenB t.natAbs) yb.2.2.2 (dgi t.natAbs) w' (HXA.out.r2.rd.below hb) (by have := HL.out; omega) HXA.out.c2 (HYB.out.r2.rd.below hb) (by have := HL.out; omega) HYB.out.c2)
  rw [canon_val, canon_val, ← HT.out.2.2] at MC
  have HS := Lib.hid (fun (w' : World) (hb : Below V.heap.size V w') => And.intro (frac_box (M1.out.below hb M1.out.lt)) (frac_box (M2.out.below hb M2.out.lt)))
  refine wp_region_fresh 16 (spOf [(4, Sp.made (fun x : Option Addr => numV (decide (T1 < 0)) x (lenB T1.natAbs) (lenB T1.natAbs)) (fun x w' => Own 74 w' V.heap.size x (lenB T1.natAbs) (lenB T1.natAbs) (dgi T1.natAbs))), (9, Sp.made (fun x : Option Addr => numV (decide (T2 < 0)) x (lenB T2.natAbs) (lenB T2.natAbs)) (fun x w' => Own 74 w' V.heap.size x (lenB T2.natAbs) (lenB T2.natAbs) (dgi T2.natAbs))), (15, Sp.made (fun x : Option Addr => numV (decide (Lw < 0)) x (lenB Lw.natAbs) (lenB Lw.natAbs)) (fun x w' => Own 74 w' V.heap.size x (lenB Lw.natAbs) (lenB Lw.natAbs) (dgi Lw.natAbs)))]) (fun w' => Below V.heap.size V w') (by kernel_rfl) (by kernel_rfl)
    (spOf_cons (Sp.made_keeps fun x w w' h hb => h.below hb) (spOf_cons (Sp.made_keeps fun x w w' h hb => h.below hb) (spOf_cons (Sp.made_keeps fun x w w' h hb => h.below hb) spOf_nil))) (fun _ _ h hb => h.trans (hb.mono h.size)) ((Below.refl _ _).drew) ?_
  simp only [List.take_succ_cons, List.take_zero, List.drop_succ_cons, List.drop_zero]
  (refine wpF_reads rfl rfl ?_ (fun w' hw' => ?_) ?_; rotate_left; · (have hb' := Has.world hw'; (skip); clear hw'; go_simp; try rfl))
  conv => arg 9; simp only [Act.put, List.setIfInBounds_toArray, List.set_cons_succ, List.set_cons_zero]
  (refine wpF_reads rfl rfl ?_ (fun w' hw' => ?_) ?_; rotate_left; · (have hb' := Has.world hw'; (obtain ⟨x0, x1, x2, x3, x4, x5⟩ := (HS.out _ hb').1); clear hw'; go_simp; try rfl))
  conv => arg 9; simp only [Act.put, List.setIfInBounds_toArray, List.set_cons_succ, List.set_cons_zero]
  (refine wpF_reads rfl rfl ?_ (fun w' hw' => ?_) ?_; rotate_left; · (have hb' := Has.world hw'; (skip); clear hw'; go_simp; try rfl))
  conv => arg 9; simp only [Act.put, List.setIfInBounds_toArray, List.set_cons_succ, List.set_cons_zero]
  (refine wpF_reads rfl rfl ?_ (fun w' hw' => ?_) ?_; rotate_left; · (have hb' := Has.world hw'; (obtain ⟨x0, x1, x2, x3, x4, x5⟩ := (HS.out _ hb').2); clear hw'; go_simp; try rfl))
  conv => arg 9; simp only [Act.put, List.setIfInBounds_toArray, List.set_cons_succ, List.set_cons_zero]
  (refine wpF_spec rfl rfl (fun w' hw' => ?_) ?_; · (have hb' := Has.world hw'; go_simp; ((refine (MA.out w' hb').mono ?_; rintro e w'' ⟨a, rfl, ho, -, hb⟩; exact ⟨_, rfl, ⟨⟨a, rfl⟩, ⟨a, rfl, ho.mono hb'.size⟩⟩, hb⟩))))
  rintro _ ⟨ma, rfl⟩
  conv => arg 9; simp only [Act.put, List.setIfInBounds_toArray, List.set_cons_succ, List.set_cons_zero]
  (refine wpF_reads rfl rfl ?_ (fun w' hw' => ?_) ?_; rotate_left; · (have hb' := Has.world hw'; (skip); clear hw'; go_simp; try rfl))
  conv => arg 9; simp only [Act.put, List.setIfInBounds_toArray, List.set_cons_succ, List.set_cons_zero]
  (refine wpF_reads rfl rfl ?_ (fun w' hw' => ?_) ?_; rotate_left; · (have hb' := Has.world hw'; (obtain ⟨x0, x1, x2, x3, x4, x5⟩ := (HS.out _ hb').2); clear hw'; go_simp; try rfl))
  conv => arg 9; simp only [Act.put, List.setIfInBounds_toArray, List.set_cons_succ, List.set_cons_zero]
  (refine wpF_reads rfl rfl ?_ (fun w' hw' => ?_) ?_; rotate_left; · (have hb' := Has.world hw'; (skip); clear hw'; go_simp; try rfl))
  conv => arg 9; simp only [Act.put, List.setIfInBounds_toArray, List.set_cons_succ, List.set_cons_zero]
  (refine wpF_reads rfl rfl ?_ (fun w' hw' => ?_) ?_; rotate_left; · (have hb' := Has.world hw'; (obtain ⟨x0, x1, x2, x3, x4, x5⟩ := (HS.out _ hb').1); clear hw'; go_simp; try rfl))
  conv => arg 9; simp only [Act.put, List.setIfInBounds_toArray, List.set_cons_succ, List.set_cons_zero]
  (refine wpF_spec rfl rfl (fun w' hw' => ?_) ?_; · (have hb' := Has.world hw'; go_simp; ((refine (MB.out w' hb').mono ?_; rintro e w'' ⟨a, rfl, ho, -, hb⟩; exact ⟨_, rfl, ⟨⟨a, rfl⟩, ⟨a, rfl, ho.mono hb'.size⟩⟩, hb⟩))))
  rintro _ ⟨mb, rfl⟩
  conv => arg 9; simp only [Act.put, List.setIfInBounds_toArray, List.set_cons_succ, List.set_cons_zero]
  (refine wpF_reads rfl rfl ?_ (fun w' hw' => ?_) ?_; rotate_left; · (have hb' := Has.world hw'; (skip); clear hw'; go_simp; try rfl))
  conv => arg 9; simp only [Act.put, List.setIfInBounds_toArray, List.set_cons_succ, List.set_cons_zero]
  (refine wpF_reads rfl rfl ?_ (fun w' hw' => ?_) ?_; rotate_left; · (have hb' := Has.world hw'; (skip); clear hw'; go_simp; try rfl))
  conv => arg 9; simp only [Act.put, List.setIfInBounds_toArray, List.set_cons_succ, List.set_cons_zero]
  (refine wpF_reads rfl rfl ?_ (fun w' hw' => ?_) ?_; rotate_left; · (have hb' := Has.world hw'; (obtain ⟨x0, x1, x2, x3, x4, x5⟩ := (HS.out _ hb').1); clear hw'; go_simp; try rfl))
  conv => arg 9; simp only [Act.put, List.setIfInBounds_toArray, List.set_cons_succ, List.set_cons_zero]
  (refine wpF_reads rfl rfl ?_ (fun w' hw' => ?_) ?_; rotate_left; · (have hb' := Has.world hw'; (skip); clear hw'; go_simp; try rfl))
  conv => arg 9; simp only [Act.put, List.setIfInBounds_toArray, List.set_cons_succ, List.set_cons_zero]
  (refine wpF_reads rfl rfl ?_ (fun w' hw' => ?_) ?_; rotate_left; · (have hb' := Has.world hw'; (obtain ⟨x0, x1, x2, x3, x4, x5⟩ := (HS.out _ hb').2); clear hw'; go_simp; try rfl))
  conv => arg 9; simp only [Act.put, List.setIfInBounds_toArray, List.set_cons_succ, List.set_cons_zero]
  (refine wpF_spec rfl rfl (fun w' hw' => ?_) ?_; · (have hb' := Has.world hw'; go_simp; ((refine (MC.out w' hb').mono ?_; rintro e w'' ⟨a, rfl, ho, -, hb⟩; exact ⟨_, rfl, ⟨⟨a, rfl⟩, ⟨a, rfl, ho.mono hb'.size⟩⟩, hb⟩))))
  rintro _ ⟨mc, rfl⟩
  conv => arg 9; simp only [Act.put, List.setIfInBounds_toArray, List.set_cons_succ, List.set_cons_zero]
  refine wpF_nil (fun w3 hb3 hF => ?_)
  have HO := Lib.hid (And.intro (own_num1 (T := 74) (b := V.heap.size) (s := decide (T1 < 0)) (L := lenB T1.natAbs) (o := dgi T1.natAbs) (a := ma) (hF 4)) (And.intro (own_num1 (T := 74) (b := V.heap.size) (s := decide (T2 < 0)) (L := lenB T2.natAbs) (o := dgi T2.natAbs) (a := mb) (hF 9)) (own_num1 (T := 74) (b := V.heap.size) (s := decide (Lw < 0)) (L := lenB Lw.natAbs) (o := dgi Lw.natAbs) (a := mc) (hF 15))))
  have N4 := Lib.hid (M4.out.below hb3 M4.out.lt)
  have N5 := Lib.hid (M5.out.below hb3 M5.out.lt)
  have KG3 := Lib.hid (KG.out.trans (hb3.mono KG.out.size))
  have HVS := Lib.hid (show w.heap.size + 4 ≤ V.heap.size by have := M5.out.lt; omega)
  clear hF hb3 HS MA MB MC
  have z0 := N4.out.cell (i := 0) rfl
  have z1 := N4.out.cell (i := 1) rfl
  have z2 := N4.out.cell (i := 2) rfl
  have z3 := N4.out.cell (i := 3) rfl
  have zf := N4.out.fz
  have zl := N4.out.lt
  obtain ⟨y0, y1, y2, y3⟩ := N5.out.bx.all
  go_wp2_with fail
  have hvs := HVS.out
  rw [← HT.out.1, ← HT.out.2.1, ← HT.out.2.2]
  have k4 := ((((((N4.out.put 0 (.bool (decide (T1 < 0)))).put 1 (.slice ma (lenB T1.natAbs) (lenB T1.natAbs))).put 2 (.bool (decide (T2 < 0)))).put 3 (.slice mb (lenB T2.natAbs) (lenB T2.natAbs))).other (a := ⟨w.heap.size + 1 + 1 + 1, 0, none⟩) (by dsimp only; omega) (.bool (decide (Lw < 0)))).other (a := ⟨w.heap.size + 1 + 1 + 1, 1, none⟩) (by dsimp only; omega) (.slice mc (lenB Lw.natAbs) (lenB Lw.natAbs)))
  have k5 := ((((((N5.out.other (a := ⟨w.heap.size + 1 + 1, 0, none⟩) (by dsimp only; omega) (.bool (decide (T1 < 0)))).other (a := ⟨w.heap.size + 1 + 1, 1, none⟩) (by dsimp only; omega) (.slice ma (lenB T1.natAbs) (lenB T1.natAbs))).other (a := ⟨w.heap.size + 1 + 1, 2, none⟩) (by dsimp only; omega) (.bool (decide (T2 < 0)))).other (a := ⟨w.heap.size + 1 + 1, 3, none⟩) (by dsimp only; omega) (.slice mb (lenB T2.natAbs) (lenB T2.natAbs))).put 0 (.bool (decide (Lw < 0)))).put 1 (.slice mc (lenB Lw.natAbs) (lenB Lw.natAbs)))
  refine bodyPost_ret (results_cc rfl _ _ _ _ _ _ _ _ _ _ _ _ rfl k4 rfl k5 Tryz.underlying70 rfl (by kernel_rfl) Tryz.underlying24 rfl (by kernel_rfl)) rfl ⟨ma, mb, mc, rfl, ?_, ?_, ?_, ?_⟩
  · exact ((((((HO.out.1.other (by dsimp only; omega) _).other (by dsimp only; omega) _).other (by dsimp only; omega) _).other (by dsimp only; omega) _).other (by dsimp only; omega) _).other (by dsimp only; omega) _).mono (by omega)
  · exact ((((((HO.out.2.1.other (by dsimp only; omega) _).other (by dsimp only; omega) _).other (by dsimp only; omega) _).other (by dsimp only; omega) _).other (by dsimp only; omega) _).other (by dsimp only; omega) _).mono (by omega)
  · exact ((((((HO.out.2.2.other (by dsimp only; omega) _).other (by dsimp only; omega) _).other (by dsimp only; omega) _).other (by dsimp only; omega) _).other (by dsimp only; omega) _).other (by dsimp only; omega) _).mono (by omega)
  · exact ((((((KG3.out.setCell (by dsimp only; omega) _).setCell (by dsimp only; omega) _).setCell (by dsimp only; omega) _).setCell (by dsimp only; omega) _).setCell (by dsimp only; omega) _).setCell (by dsimp only; omega) _)
end Go.Proofs.YtaagegcidbgjmaaGreatDoor.Limb
namespace Go.Proofs.YtaagegcidbgjmaaGreatDoor.Limb
open Go.RowKit Go.Sort Go.Fresh

theorem lenB_mul_le (a b : Nat) : lenB (a * b) ≤ lenB a + lenB b := by
  refine lenB_le ?_
  rw [pw_add]
  by_cases hb : b = 0
  · subst hb; have := lt_pw_lenB a; have h2 := lt_pw_lenB 0; exact Nat.mul_pos (by omega) h2
  · exact Nat.mul_lt_mul_of_lt_of_le (lt_pw_lenB a) (Nat.le_of_lt (lt_pw_lenB b)) (pw_pos _)
set_option maxRecDepth 100000 in
set_option maxHeartbeats 4000000 in
theorem make2_any (G : Nat) (cs : Array Value) (T : Int) (s1 : Bool) (a1 : Option Addr) (n1 c1 : Nat) (o1 : Nat → Int) (s2 : Bool) (a2 : Option Addr) (n2 c2 : Nat) (o2 : Nat → Int) (s3 : Bool) (a3 : Option Addr) (n3 c3 : Nat) (o3 : Nat → Int) (s4 : Bool) (a4 : Option Addr) (n4 c4 : Nat) (o4 : Nat → Int) (w : World) (x y : Rat)
    (hx : x = valF s1 n1 o1 s2 n2 o2) (hy : y = valF s3 n3 o3 s4 n4 o4)
    (h1 : Rd w a1 n1 o1) (hn1 : n1 ≤ 1000000) (hc1 : n1 ≤ c1) (h2 : Rd w a2 n2 o2) (hn2 : n2 ≤ 1000000) (hc2 : n2 ≤ c2) (h3 : Rd w a3 n3 o3) (hn3 : n3 ≤ 1000000) (hc3 : n3 ≤ c3) (h4 : Rd w a4 n4 o4) (hn4 : n4 ≤ 1000000) (hc4 : n4 ≤ c4)
    (hcf : ∀ (args : Array Value) (w : World), (callFunc G args).run Tryz.prog w = .ok (.enter G args) w)
    (hT : lenB T.natAbs ≤ 4000000)
    (hF : ∀ (m1 m2 : Option Addr) (w1 : World), Below w.heap.size w w1 → Rd w1 m1 (lenB (x.num * (y.den : Int)).natAbs) (dgi (x.num * (y.den : Int)).natAbs) → Rd w1 m2 (lenB (y.num * (x.den : Int)).natAbs) (dgi (y.num * (x.den : Int)).natAbs) →
      Calls Tryz.prog G (#[numV (decide (x.num * (y.den : Int) < 0)) m1 (lenB (x.num * (y.den : Int)).natAbs) (lenB (x.num * (y.den : Int)).natAbs), numV (decide (y.num * (x.den : Int) < 0)) m2 (lenB (y.num * (x.den : Int)).natAbs) (lenB (y.num * (x.den : Int)).natAbs)] ++ cs) w1 (ResN w1 T)) :
    Calls Tryz.prog 78 #[fracV s1 a1 n1 c1 s2 a2 n2 c2, fracV s3 a3 n3 c3 s4 a4 n4 c4, .func (.func G) #[] cs] w (FracR w (Rat.divInt T ((x.den : Int) * (y.den : Int))).num ((Rat.divInt T ((x.den : Int) * (y.den : Int))).den : Int)) := by
  have l1 := valF_len (s1 := s1) (s2 := s2) h1.rng h2.rng
  have l2 := valF_len (s1 := s3) (s2 := s4) h3.rng h4.rng
  rw [← hx] at l1
  rw [← hy] at l2
  have HL := Lib.hid (show lenB ((x.den : Int) * (y.den : Int)).natAbs ≤ 4000000 by
    have := lenB_mul_le (x.den : Int).natAbs (y.den : Int).natAbs
    rw [Int.natAbs_mul]
    omega)
  have HD := Lib.hid (show (x.den : Int) * (y.den : Int) ≠ 0 from Int.mul_ne_zero (by have := x.den_nz; omega) (by have := y.den_nz; omega))
  have HB1 := Lib.hid (((Bxs.new w 27 [.bool s1, .slice a1 n1 c1, .bool s2, .slice a2 n2 c2]).alloc (.cells #[.bool s3, .slice a3 n3 c3, .bool s4, .slice a4 n4 c4] 27)).alloc (.cells #[.bool false, .slice none 0 0, .bool false, .slice none 0 0] 27))
  have HB2 := Lib.hid ((Bxs.new (w.alloc (.cells #[.bool s1, .slice a1 n1 c1, .bool s2, .slice a2 n2 c2] 27)) 27 [.bool s3, .slice a3 n3 c3, .bool s4, .slice a4 n4 c4]).alloc (.cells #[.bool false, .slice none 0 0, .bool false, .slice none 0 0] 27))
  have HB3 := Lib.hid (Bxs.new ((w.alloc (.cells #[.bool s1, .slice a1 n1 c1, .bool s2, .slice a2 n2 c2] 27)).alloc (.cells #[.bool s3, .slice a3 n3 c3, .bool s4, .slice a4 n4 c4] 27)) 27 [.bool false, .slice none 0 0, .bool false, .slice none 0 0])
  obtain ⟨W, hW⟩ : ∃ W, W = ((w.alloc (.cells #[.bool s1, .slice a1 n1 c1, .bool s2, .slice a2 n2 c2] 27)).alloc (.cells #[.bool s3, .slice a3 n3 c3, .bool s4, .slice a4 n4 c4] 27)).alloc (.cells #[.bool false, .slice none 0 0, .bool false, .slice none 0 0] 27) := ⟨_, rfl⟩
  have KG := Lib.hid (show Below w.heap.size w W by rw [hW]; exact (((Below.refl _ _).alloc (Nat.le_refl _) _).alloc (by go_size) _).alloc (by go_size) _)
  have hWs : w.heap.size + 3 = W.heap.size := by rw [hW]; simp
  have HB1 := Lib.hid (show Bxs W w.heap.size 27 [.bool s1, .slice a1 n1 c1, .bool s2, .slice a2 n2 c2] by rw [hW]; exact HB1.out)
  have HB2 := Lib.hid (show Bxs W (w.heap.size + 1) 27 [.bool s3, .slice a3 n3 c3, .bool s4, .slice a4 n4 c4] by have h := HB2.out; simp only [World.size_alloc] at h; rw [hW]; exact h)
  have HB3 := Lib.hid (show Bxs W (w.heap.size + 1 + 1) 27 [.bool false, .slice none 0 0, .bool false, .slice none 0 0] by have h := HB3.out; simp only [World.size_alloc] at h; rw [hW]; exact h)
  have BR := Lib.hid (brought_any s1 a1 n1 c1 o1 s2 a2 n2 c2 o2 s3 a3 n3 c3 o3 s4 a4 n4 c4 o4 W x y hx hy (h1.below KG.out) hn1 hc1 (h2.below KG.out) hn2 hc2 (h3.below KG.out) hn3 hc3 (h4.below KG.out) hn4 hc4)
  obtain ⟨T1, hT1⟩ : ∃ T1, T1 = x.num * (y.den : Int) := ⟨_, rfl⟩
  obtain ⟨T2, hT2⟩ : ∃ T2, T2 = y.num * (x.den : Int) := ⟨_, rfl⟩
  obtain ⟨Lw, hLw⟩ : ∃ Lw, Lw = (x.den : Int) * (y.den : Int) := ⟨_, rfl⟩
  rw [← hT1, ← hT2] at hF
  rw [← hT1, ← hT2, ← hLw] at BR
  rw [← hLw] at HL HD ⊢
  have HF := Lib.hid hF
  have HT := Lib.hid hT
  have HW := Lib.hid hW
  have HWS := Lib.hid hWs
  clear hF hW hWs hT1 hT2 hLw hx hy h1 h2 h3 h4 l1 l2 hT
  go_enter Tryz.func78, Tryz.ntmps78
  go_upto_region 1 with (fail)
  rw [show ((w.alloc (.cells #[.bool s1, .slice a1 n1 c1, .bool s2, .slice a2 n2 c2] 27)).alloc (.cells #[.bool s3, .slice a3 n3 c3, .bool s4, .slice a4 n4 c4] 27)).alloc (.cells #[.bool false, .slice none 0 0, .bool false, .slice none 0 0] 27) = W from HW.out.symm]
  clear HW
  obtain ⟨x0, x1, x2, x3, x4, x5⟩ := frac_box HB1.out
  obtain ⟨y0, y1, y2, y3, y4, y5⟩ := frac_box HB2.out
  go_wp2_with fail
  with_reducible refine BR.out.mono ?_
  rintro e w2 ⟨m1, m2, m3, rfl, O1, O2, O3, hb⟩
  go_upto_region 2 with (fail)
  obtain ⟨V, hV⟩ : ∃ V, V = (w2.alloc (.cells #[.bool (decide (T1 < 0)), .slice m1 (lenB T1.natAbs) (lenB T1.natAbs), .bool (decide (T2 < 0)), .slice m2 (lenB T2.natAbs) (lenB T2.natAbs)] 70)).alloc (.cells #[.bool (decide (Lw < 0)), .slice m3 (lenB Lw.natAbs) (lenB Lw.natAbs)] 24) := ⟨_, rfl⟩
  have M4 := Lib.hid (show Bxs V w2.heap.size 70 [.bool (decide (T1 < 0)), .slice m1 (lenB T1.natAbs) (lenB T1.natAbs), .bool (decide (T2 < 0)), .slice m2 (lenB T2.natAbs) (lenB T2.natAbs)] by rw [hV]; exact (Bxs.new w2 70 [.bool (decide (T1 < 0)), .slice m1 (lenB T1.natAbs) (lenB T1.natAbs), .bool (decide (T2 < 0)), .slice m2 (lenB T2.natAbs) (lenB T2.natAbs)]).alloc _)
  have M5 := Lib.hid (show Bxs V (w2.heap.size + 1) 24 [.bool (decide (Lw < 0)), .slice m3 (lenB Lw.natAbs) (lenB Lw.natAbs)] by have h := Bxs.new (w2.alloc (.cells #[.bool (decide (T1 < 0)), .slice m1 (lenB T1.natAbs) (lenB T1.natAbs), .bool (decide (T2 < 0)), .slice m2 (lenB T2.natAbs) (lenB T2.natAbs)] 70)) 24 [.bool (decide (Lw < 0)), .slice m3 (lenB Lw.natAbs) (lenB Lw.natAbs)]; simp only [World.size_alloc] at h; rw [hV]; exact h)
  have hbV : Below W.heap.size W V := by rw [hV]; exact (hb.alloc hb.size _).alloc (by have := hb.size; go_size) _
  have M3 := Lib.hid (HB3.out.below hbV HB3.out.lt)
  have O1 := Lib.hid (show Own 74 V W.heap.size m1 (lenB T1.natAbs) (lenB T1.natAbs) (dgi T1.natAbs) by rw [hV]; exact (O1.allocd _).allocd _)
  have O2 := Lib.hid (show Own 74 V W.heap.size m2 (lenB T2.natAbs) (lenB T2.natAbs) (dgi T2.natAbs) by rw [hV]; exact (O2.allocd _).allocd _)
  have O3 := Lib.hid (show Own 74 V W.heap.size m3 (lenB Lw.natAbs) (lenB Lw.natAbs) (dgi Lw.natAbs) by rw [hV]; exact (O3.allocd _).allocd _)
  have KG := Lib.hid (KG.out.trans (hbV.mono KG.out.size))
  have KW := Lib.hid hbV.size
  obtain ⟨b4, hb4⟩ : ∃ b, b = w2.heap.size := ⟨_, rfl⟩
  rw [show (w2.alloc (.cells #[.bool (decide (T1 < 0)), .slice m1 (lenB T1.natAbs) (lenB T1.natAbs), .bool (decide (T2 < 0)), .slice m2 (lenB T2.natAbs) (lenB T2.natAbs)] 70)).alloc (.cells #[.bool (decide (Lw < 0)), .slice m3 (lenB Lw.natAbs) (lenB Lw.natAbs)] 24) = V from hV.symm]
  rw [← hb4] at M4 M5 ⊢
  clear hV hbV hb hb4 x0 x1 x2 x3 x4 x5 y0 y1 y2 y3 y4 y5 HB1 HB2 HB3 BR
  have HS := Lib.hid (fun (w' : World) (hb : Below V.heap.size V w') => And.intro (M4.out.below hb M4.out.lt) (M5.out.below hb M5.out.lt).bx.all)
  have HC := Lib.hid (fun (w' : World) (hb : Below V.heap.size V w') => HF.out m1 m2 w' (KG.out.trans (hb.mono KG.out.size)) (O1.out.rd.below hb) (O2.out.rd.below hb))
  refine wp_region_fresh 7 (spOf [(5, Sp.made (fun x : Option Addr => numV (decide (T < 0)) x (lenB T.natAbs) (lenB T.natAbs)) (fun x w' => Own 74 w' V.heap.size x (lenB T.natAbs) (lenB T.natAbs) (dgi T.natAbs)))]) (fun w' => Below V.heap.size V w') (by kernel_rfl) (by kernel_rfl)
    (spOf_cons (Sp.made_keeps fun x w w' h hb => h.below hb) spOf_nil) (fun _ _ h hb => h.trans (hb.mono h.size)) ((Below.refl _ _).drew) ?_
  simp only [List.take_succ_cons, List.take_zero, List.drop_succ_cons, List.drop_zero]
  (refine wpF_reads rfl rfl ?_ (fun w' hw' => ?_) ?_; rotate_left; · (have hb' := Has.world hw'; (skip); clear hw'; go_simp; try rfl))
  conv => arg 9; simp only [Act.put, List.setIfInBounds_toArray, List.set_cons_succ, List.set_cons_zero]
  (refine wpF_reads rfl rfl ?_ (fun w' hw' => ?_) ?_; rotate_left; · (have hb' := Has.world hw'; (skip); clear hw'; go_simp; try rfl))
  conv => arg 9; simp only [Act.put, List.setIfInBounds_toArray, List.set_cons_succ, List.set_cons_zero]
  (refine wpF_reads rfl rfl ?_ (fun w' hw' => ?_) ?_; rotate_left; · (have hb' := Has.world hw'; (have hs := (HS.out _ hb').1; have x0 := hs.cell (i := 0) rfl; have x1 := hs.cell (i := 1) rfl; have x2 := hs.cell (i := 2) rfl; have x3 := hs.cell (i := 3) rfl; have x4 := hs.fz; have x5 := hs.lt); clear hw'; go_simp; try rfl))
  conv => arg 9; simp only [Act.put, List.setIfInBounds_toArray, List.set_cons_succ, List.set_cons_zero]
  (refine wpF_reads rfl rfl ?_ (fun w' hw' => ?_) ?_; rotate_left; · (have hb' := Has.world hw'; (skip); clear hw'; go_simp; try rfl))
  conv => arg 9; simp only [Act.put, List.setIfInBounds_toArray, List.set_cons_succ, List.set_cons_zero]
  (refine wpF_reads rfl rfl ?_ (fun w' hw' => ?_) ?_; rotate_left; · (have hb' := Has.world hw'; (have hs := (HS.out _ hb').1; have x0 := hs.cell (i := 0) rfl; have x1 := hs.cell (i := 1) rfl; have x2 := hs.cell (i := 2) rfl; have x3 := hs.cell (i := 3) rfl; have x4 := hs.fz; have x5 := hs.lt); clear hw'; go_simp; try rfl))
  conv => arg 9; simp only [Act.put, List.setIfInBounds_toArray, List.set_cons_succ, List.set_cons_zero]
  (refine wpF_spec rfl rfl (fun w' hw' => ?_) ?_; · (have hb' := Has.world hw'; go_simp; ((refine (HC.out w' hb').mono ?_; rintro e w'' ⟨a, rfl, ho, -, hb⟩; exact ⟨_, rfl, ⟨⟨a, rfl⟩, ⟨a, rfl, ho.mono hb'.size⟩⟩, hb⟩))))
  rintro _ ⟨mt, rfl⟩
  conv => arg 9; simp only [Act.put, List.setIfInBounds_toArray, List.set_cons_succ, List.set_cons_zero]
  (refine wpF_reads rfl rfl ?_ (fun w' hw' => ?_) ?_; rotate_left; · (have hb' := Has.world hw'; (obtain ⟨x0, x1, x2, x3⟩ := (HS.out _ hb').2); clear hw'; go_simp; try rfl))
  conv => arg 9; simp only [Act.put, List.setIfInBounds_toArray, List.set_cons_succ, List.set_cons_zero]
  refine wpF_nil (fun w3 hb3 hF => ?_)
  have HO := Lib.hid (own_num1 (T := 74) (b := V.heap.size) (s := decide (T < 0)) (L := lenB T.natAbs) (o := dgi T.natAbs) (a := mt) (hF 5))
  have LO := Lib.hid (lowest_any T Lw mt m3 (lenB T.natAbs) (lenB Lw.natAbs) w3 HO.out.rd HT.out (Nat.le_refl _) (O3.out.rd.below hb3) HL.out (Nat.le_refl _) HD.out)
  have M3 := Lib.hid (M3.out.below hb3 M3.out.lt)
  have KG := Lib.hid (KG.out.trans (hb3.mono KG.out.size))
  have HWS := Lib.hid (show w.heap.size + 3 ≤ w3.heap.size by have := HWS.out; have := KW.out; have := hb3.size; omega)
  clear hF hb3 HS HC HF HO O1 O2 O3 M4 M5 hcf KW
  go_wp2_with fail
  with_reducible refine LO.out.mono ?_
  rintro e w4 ⟨r1, r2, rfl, Q1, Q2, hap, hb⟩
  have M3 := Lib.hid (M3.out.below hb M3.out.lt)
  have KG := Lib.hid (KG.out.trans (hb.mono KG.out.size))
  have hvs := HWS.out
  clear hb LO
  have z0 := M3.out.cell (i := 0) rfl
  have z1 := M3.out.cell (i := 1) rfl
  have z2 := M3.out.cell (i := 2) rfl
  have z3 := M3.out.cell (i := 3) rfl
  have zf := M3.out.fz
  have zl := M3.out.lt
  go_wp2_with fail
  refine bodyPost_ret (results_cell rfl _ _ _ _ _ _ _ rfl ((((M3.out.put 0 _).put 1 _).put 2 _).put 3 _) Tryz.underlying27 rfl (by kernel_rfl)) rfl ⟨r1, r2, rfl, ?_, ?_, hap, ?_⟩
  · exact ((((Q1.other (by dsimp only; omega) _).other (by dsimp only; omega) _).other (by dsimp only; omega) _).other (by dsimp only; omega) _).mono (by omega)
  · exact ((((Q2.other (by dsimp only; omega) _).other (by dsimp only; omega) _).other (by dsimp only; omega) _).other (by dsimp only; omega) _).mono (by omega)
  · exact (((KG.out.setCell (by dsimp only; omega) _).setCell (by dsimp only; omega) _).setCell (by dsimp only; omega) _).setCell (by dsimp only; omega) _
end Go.Proofs.YtaagegcidbgjmaaGreatDoor.Limb
namespace Go.Proofs.YtaagegcidbgjmaaGreatDoor.Limb
open Go.RowKit Go.Sort Go.Fresh

theorem rat_add (x y : Rat) : Rat.divInt (x.num * (y.den : Int) + y.num * (x.den : Int)) ((x.den : Int) * (y.den : Int)) = x + y := by
  rw [Rat.add_def']
  rw [← Rat.divInt_ofNat, Int.natCast_mul]
theorem rat_sub (x y : Rat) : Rat.divInt (x.num * (y.den : Int) - y.num * (x.den : Int)) ((x.den : Int) * (y.den : Int)) = x - y := by
  rw [Rat.sub_def']
  rw [← Rat.divInt_ofNat, Int.natCast_mul]
theorem lenB_succ (m n k : Nat) (hm : lenB m ≤ k) (hn : lenB n ≤ k) : lenB (m + n) ≤ k + 1 := by
  refine lenB_le ?_
  have h1 := Nat.lt_of_lt_of_le (lt_pw_lenB m) (pw_le hm)
  have h2 := Nat.lt_of_lt_of_le (lt_pw_lenB n) (pw_le hn)
  rw [pw_succ]; omega
theorem lenB_add (a b : Int) : lenB (a + b).natAbs ≤ max (lenB a.natAbs) (lenB b.natAbs) + 1 :=
  Nat.le_trans (lenB_mono (Int.natAbs_add_le a b)) (lenB_succ _ _ _ (by omega) (by omega))
theorem lenB_sub (a b : Int) : lenB (a - b).natAbs ≤ max (lenB a.natAbs) (lenB b.natAbs) + 1 :=
  Nat.le_trans (lenB_mono (Int.natAbs_sub_le a b)) (lenB_succ _ _ _ (by omega) (by omega))

set_option maxRecDepth 100000 in
set_option maxHeartbeats 2000000 in
theorem addc_any (s1 : Bool) (a1 : Option Addr) (n1 c1 : Nat) (o1 : Nat → Int) (s2 : Bool) (a2 : Option Addr) (n2 c2 : Nat) (o2 : Nat → Int) (w : World)
    (h1 : Rd w a1 n1 o1) (hn1 : n1 ≤ 100000000) (hc1 : n1 ≤ c1) (h2 : Rd w a2 n2 o2) (hn2 : n2 ≤ 100000000) (hc2 : n2 ≤ c2) :
    Calls Tryz.prog 79 #[numV s1 a1 n1 c1, numV s2 a2 n2 c2] w (ResN w (valN s1 n1 o1 + valN s2 n2 o2)) := by
  have HB1 := Lib.hid (((Bxs.new w 24 [.bool s1, .slice a1 n1 c1]).alloc (.cells #[.bool s2, .slice a2 n2 c2] 24)).alloc (.cells #[.bool false, .slice none 0 0] 24))
  have HB2 := Lib.hid ((Bxs.new (w.alloc (.cells #[.bool s1, .slice a1 n1 c1] 24)) 24 [.bool s2, .slice a2 n2 c2]).alloc (.cells #[.bool false, .slice none 0 0] 24))
  have HB3 := Lib.hid (Bxs.new ((w.alloc (.cells #[.bool s1, .slice a1 n1 c1] 24)).alloc (.cells #[.bool s2, .slice a2 n2 c2] 24)) 24 [.bool false, .slice none 0 0])
  obtain ⟨W, hW⟩ : ∃ W, W = ((w.alloc (.cells #[.bool s1, .slice a1 n1 c1] 24)).alloc (.cells #[.bool s2, .slice a2 n2 c2] 24)).alloc (.cells #[.bool false, .slice none 0 0] 24) := ⟨_, rfl⟩
  have KG := Lib.hid (show Below w.heap.size w W by rw [hW]; exact (((Below.refl _ _).alloc (Nat.le_refl _) _).alloc (by go_size) _).alloc (by go_size) _)
  have hWs : w.heap.size + 3 = W.heap.size := by rw [hW]; simp
  have HB1 := Lib.hid (show Bxs W w.heap.size 24 [.bool s1, .slice a1 n1 c1] by rw [hW]; exact HB1.out)
  have HB2 := Lib.hid (show Bxs W (w.heap.size + 1) 24 [.bool s2, .slice a2 n2 c2] by have h := HB2.out; simp only [World.size_alloc] at h; rw [hW]; exact h)
  have HB3 := Lib.hid (show Bxs W (w.heap.size + 1 + 1) 24 [.bool false, .slice none 0 0] by have h := HB3.out; simp only [World.size_alloc] at h; rw [hW]; exact h)
  have BR := Lib.hid (add_res s1 a1 n1 c1 o1 s2 a2 n2 c2 o2 W (h1.below KG.out) hn1 hc1 (h2.below KG.out) hn2 hc2)
  obtain ⟨T, hT⟩ : ∃ T, T = valN s1 n1 o1 + valN s2 n2 o2 := ⟨_, rfl⟩
  rw [← hT] at BR ⊢
  have HW := Lib.hid hW
  have HWS := Lib.hid hWs
  clear hW hWs h1 h2 hT
  go_enter Tryz.func79, Tryz.ntmps79
  go_upto_region 1 with (fail)
  rw [show ((w.alloc (.cells #[.bool s1, .slice a1 n1 c1] 24)).alloc (.cells #[.bool s2, .slice a2 n2 c2] 24)).alloc (.cells #[.bool false, .slice none 0 0] 24) = W from HW.out.symm]
  clear HW
  obtain ⟨x0, x1, x2, x3⟩ := HB1.out.bx.all
  obtain ⟨y0, y1, y2, y3⟩ := HB2.out.bx.all
  go_wp2_with fail
  with_reducible refine BR.out.mono ?_
  rintro e w2 ⟨m, rfl, O1, hm, hb⟩
  have M3 := Lib.hid (HB3.out.below hb HB3.out.lt)
  have KG := Lib.hid (KG.out.trans (hb.mono KG.out.size))
  have hvs := HWS.out
  have h2s := hb.size
  clear x0 x1 x2 x3 y0 y1 y2 y3 HB1 HB2 HB3 BR hb
  obtain ⟨z0, z1, z2, z3⟩ := M3.out.bx.all
  go_wp2_with fail
  refine bodyPost_ret (results_cell rfl _ _ _ _ _ _ _ rfl ((M3.out.put 0 _).put 1 _) Tryz.underlying24 rfl (by kernel_rfl)) rfl ⟨m, rfl, ?_, hm, ?_⟩
  · exact ((O1.other (by dsimp only; omega) _).other (by dsimp only; omega) _).mono (by omega)
  · exact (KG.out.setCell (by dsimp only; omega) _).setCell (by dsimp only; omega) _

set_option maxRecDepth 100000 in
set_option maxHeartbeats 2000000 in
theorem subc_any (s1 : Bool) (a1 : Option Addr) (n1 c1 : Nat) (o1 : Nat → Int) (s2 : Bool) (a2 : Option Addr) (n2 c2 : Nat) (o2 : Nat → Int) (w : World)
    (h1 : Rd w a1 n1 o1) (hn1 : n1 ≤ 100000000) (hc1 : n1 ≤ c1) (h2 : Rd w a2 n2 o2) (hn2 : n2 ≤ 100000000) (hc2 : n2 ≤ c2) :
    Calls Tryz.prog 81 #[numV s1 a1 n1 c1, numV s2 a2 n2 c2] w (ResN w (valN s1 n1 o1 - valN s2 n2 o2)) := by
  have HB1 := Lib.hid (((Bxs.new w 24 [.bool s1, .slice a1 n1 c1]).alloc (.cells #[.bool s2, .slice a2 n2 c2] 24)).alloc (.cells #[.bool false, .slice none 0 0] 24))
  have HB2 := Lib.hid ((Bxs.new (w.alloc (.cells #[.bool s1, .slice a1 n1 c1] 24)) 24 [.bool s2, .slice a2 n2 c2]).alloc (.cells #[.bool false, .slice none 0 0] 24))
  have HB3 := Lib.hid (Bxs.new ((w.alloc (.cells #[.bool s1, .slice a1 n1 c1] 24)).alloc (.cells #[.bool s2, .slice a2 n2 c2] 24)) 24 [.bool false, .slice none 0 0])
  obtain ⟨W, hW⟩ : ∃ W, W = ((w.alloc (.cells #[.bool s1, .slice a1 n1 c1] 24)).alloc (.cells #[.bool s2, .slice a2 n2 c2] 24)).alloc (.cells #[.bool false, .slice none 0 0] 24) := ⟨_, rfl⟩
  have KG := Lib.hid (show Below w.heap.size w W by rw [hW]; exact (((Below.refl _ _).alloc (Nat.le_refl _) _).alloc (by go_size) _).alloc (by go_size) _)
  have hWs : w.heap.size + 3 = W.heap.size := by rw [hW]; simp
  have HB1 := Lib.hid (show Bxs W w.heap.size 24 [.bool s1, .slice a1 n1 c1] by rw [hW]; exact HB1.out)
  have HB2 := Lib.hid (show Bxs W (w.heap.size + 1) 24 [.bool s2, .slice a2 n2 c2] by have h := HB2.out; simp only [World.size_alloc] at h; rw [hW]; exact h)
  have HB3 := Lib.hid (show Bxs W (w.heap.size + 1 + 1) 24 [.bool false, .slice none 0 0] by have h := HB3.out; simp only [World.size_alloc] at h; rw [hW]; exact h)
  have BR := Lib.hid (sub_any s1 a1 n1 c1 o1 s2 a2 n2 c2 o2 W (h1.below KG.out) hn1 hc1 (h2.below KG.out) hn2 hc2)
  obtain ⟨T, hT⟩ : ∃ T, T = valN s1 n1 o1 - valN s2 n2 o2 := ⟨_, rfl⟩
  rw [← hT] at BR ⊢
  have HW := Lib.hid hW
  have HWS := Lib.hid hWs
  clear hW hWs h1 h2 hT
  go_enter Tryz.func81, Tryz.ntmps81
  go_upto_region 1 with (fail)
  rw [show ((w.alloc (.cells #[.bool s1, .slice a1 n1 c1] 24)).alloc (.cells #[.bool s2, .slice a2 n2 c2] 24)).alloc (.cells #[.bool false, .slice none 0 0] 24) = W from HW.out.symm]
  clear HW
  obtain ⟨x0, x1, x2, x3⟩ := HB1.out.bx.all
  obtain ⟨y0, y1, y2, y3⟩ := HB2.out.bx.all
  go_wp2_with fail
  with_reducible refine BR.out.mono ?_
  rintro e w2 ⟨m, rfl, O1, hm, hb⟩
  have M3 := Lib.hid (HB3.out.below hb HB3.out.lt)
  have KG := Lib.hid (KG.out.trans (hb.mono KG.out.size))
  have hvs := HWS.out
  have h2s := hb.size
  clear x0 x1 x2 x3 y0 y1 y2 y3 HB1 HB2 HB3 BR hb
  obtain ⟨z0, z1, z2, z3⟩ := M3.out.bx.all
  go_wp2_with fail
  refine bodyPost_ret (results_cell rfl _ _ _ _ _ _ _ rfl ((M3.out.put 0 _).put 1 _) Tryz.underlying24 rfl (by kernel_rfl)) rfl ⟨m, rfl, ?_, hm, ?_⟩
  · exact ((O1.other (by dsimp only; omega) _).other (by dsimp only; omega) _).mono (by omega)
  · exact (KG.out.setCell (by dsimp only; omega) _).setCell (by dsimp only; omega) _

set_option maxRecDepth 100000 in
set_option maxHeartbeats 2000000 in
theorem fadd_any (s1 : Bool) (a1 : Option Addr) (n1 c1 : Nat) (o1 : Nat → Int) (s2 : Bool) (a2 : Option Addr) (n2 c2 : Nat) (o2 : Nat → Int) (s3 : Bool) (a3 : Option Addr) (n3 c3 : Nat) (o3 : Nat → Int) (s4 : Bool) (a4 : Option Addr) (n4 c4 : Nat) (o4 : Nat → Int) (w : World) (x y : Rat)
    (hx : x = valF s1 n1 o1 s2 n2 o2) (hy : y = valF s3 n3 o3 s4 n4 o4)
    (h1 : Rd w a1 n1 o1) (hn1 : n1 ≤ 1000000) (hc1 : n1 ≤ c1) (h2 : Rd w a2 n2 o2) (hn2 : n2 ≤ 1000000) (hc2 : n2 ≤ c2) (h3 : Rd w a3 n3 o3) (hn3 : n3 ≤ 1000000) (hc3 : n3 ≤ c3) (h4 : Rd w a4 n4 o4) (hn4 : n4 ≤ 1000000) (hc4 : n4 ≤ c4) :
    Calls Tryz.prog 17 #[fracV s1 a1 n1 c1 s2 a2 n2 c2, fracV s3 a3 n3 c3 s4 a4 n4 c4] w (FracR w (x + y).num ((x + y).den : Int)) := by
  have l1 := valF_len (s1 := s1) (s2 := s2) h1.rng h2.rng
  have l2 := valF_len (s1 := s3) (s2 := s4) h3.rng h4.rng
  rw [← hx] at l1
  rw [← hy] at l2
  have hl1 := lenB_mul_le x.num.natAbs (y.den : Int).natAbs
  have hl2 := lenB_mul_le y.num.natAbs (x.den : Int).natAbs
  rw [← Int.natAbs_mul] at hl1 hl2
  have HB1 := Lib.hid (((Bxs.new w 27 [.bool s1, .slice a1 n1 c1, .bool s2, .slice a2 n2 c2]).alloc (.cells #[.bool s3, .slice a3 n3 c3, .bool s4, .slice a4 n4 c4] 27)).alloc (.cells #[.bool false, .slice none 0 0, .bool false, .slice none 0 0] 27))
  have HB2 := Lib.hid ((Bxs.new (w.alloc (.cells #[.bool s1, .slice a1 n1 c1, .bool s2, .slice a2 n2 c2] 27)) 27 [.bool s3, .slice a3 n3 c3, .bool s4, .slice a4 n4 c4]).alloc (.cells #[.bool false, .slice none 0 0, .bool false, .slice none 0 0] 27))
  have HB3 := Lib.hid (Bxs.new ((w.alloc (.cells #[.bool s1, .slice a1 n1 c1, .bool s2, .slice a2 n2 c2] 27)).alloc (.cells #[.bool s3, .slice a3 n3 c3, .bool s4, .slice a4 n4 c4] 27)) 27 [.bool false, .slice none 0 0, .bool false, .slice none 0 0])
  obtain ⟨W, hW⟩ : ∃ W, W = ((w.alloc (.cells #[.bool s1, .slice a1 n1 c1, .bool s2, .slice a2 n2 c2] 27)).alloc (.cells #[.bool s3, .slice a3 n3 c3, .bool s4, .slice a4 n4 c4] 27)).alloc (.cells #[.bool false, .slice none 0 0, .bool false, .slice none 0 0] 27) := ⟨_, rfl⟩
  have KG := Lib.hid (show Below w.heap.size w W by rw [hW]; exact (((Below.refl _ _).alloc (Nat.le_refl _) _).alloc (by go_size) _).alloc (by go_size) _)
  have hWs : w.heap.size + 3 = W.heap.size := by rw [hW]; simp
  have HB1 := Lib.hid (show Bxs W w.heap.size 27 [.bool s1, .slice a1 n1 c1, .bool s2, .slice a2 n2 c2] by rw [hW]; exact HB1.out)
  have HB2 := Lib.hid (show Bxs W (w.heap.size + 1) 27 [.bool s3, .slice a3 n3 c3, .bool s4, .slice a4 n4 c4] by have h := HB2.out; simp only [World.size_alloc] at h; rw [hW]; exact h)
  have HB3 := Lib.hid (show Bxs W (w.heap.size + 1 + 1) 27 [.bool false, .slice none 0 0, .bool false, .slice none 0 0] by have h := HB3.out; simp only [World.size_alloc] at h; rw [hW]; exact h)
  have BR := Lib.hid (make2_any 79 #[] (x.num * (y.den : Int) + y.num * (x.den : Int)) s1 a1 n1 c1 o1 s2 a2 n2 c2 o2 s3 a3 n3 c3 o3 s4 a4 n4 c4 o4 W x y hx hy (h1.below KG.out) hn1 hc1 (h2.below KG.out) hn2 hc2 (h3.below KG.out) hn3 hc3 (h4.below KG.out) hn4 hc4
    (fun _ _ => rfl)
    (by have := lenB_add (x.num * (y.den : Int)) (y.num * (x.den : Int)); omega)
    (fun m1 m2 w1 _ r1 r2 => by
      have h := addc_any (decide (x.num * (y.den : Int) < 0)) m1 _ (lenB (x.num * (y.den : Int)).natAbs) _ (decide (y.num * (x.den : Int) < 0)) m2 _ (lenB (y.num * (x.den : Int)).natAbs) _ w1 r1 (by omega) (Nat.le_refl _) r2 (by omega) (Nat.le_refl _)
      rw [canon_val, canon_val] at h
      exact h))
  have hT : Rat.divInt (x.num * (y.den : Int) + y.num * (x.den : Int)) ((x.den : Int) * (y.den : Int)) = x + y := rat_add x y
  rw [hT] at BR
  obtain ⟨t, ht⟩ : ∃ t, t = x + y := ⟨_, rfl⟩
  rw [← ht] at BR ⊢
  have HW := Lib.hid hW
  have HWS := Lib.hid hWs
  clear hW hWs h1 h2 h3 h4 hT ht hx hy l1 l2 hl1 hl2
  go_enter Tryz.func17, Tryz.ntmps17
  go_upto_region 1 with (fail)
  rw [show ((w.alloc (.cells #[.bool s1, .slice a1 n1 c1, .bool s2, .slice a2 n2 c2] 27)).alloc (.cells #[.bool s3, .slice a3 n3 c3, .bool s4, .slice a4 n4 c4] 27)).alloc (.cells #[.bool false, .slice none 0 0, .bool false, .slice none 0 0] 27) = W from HW.out.symm]
  clear HW
  obtain ⟨x0, x1, x2, x3, x4, x5⟩ := frac_box HB1.out
  obtain ⟨y0, y1, y2, y3, y4, y5⟩ := frac_box HB2.out
  go_wp2_with fail
  with_reducible refine BR.out.mono ?_
  rintro e w4 ⟨r1, r2, rfl, Q1, Q2, hap, hb⟩
  have M3 := Lib.hid (HB3.out.below hb HB3.out.lt)
  have KG := Lib.hid (KG.out.trans (hb.mono KG.out.size))
  have hvs := HWS.out
  have h2s := hb.size
  clear x0 x1 x2 x3 x4 x5 y0 y1 y2 y3 y4 y5 HB1 HB2 HB3 BR hb
  obtain ⟨z0, z1, z2, z3, zf, zl⟩ := frac_box M3.out
  go_wp2_with fail
  refine bodyPost_ret (results_cell rfl _ _ _ _ _ _ _ rfl ((((M3.out.put 0 _).put 1 _).put 2 _).put 3 _) Tryz.underlying27 rfl (by kernel_rfl)) rfl ⟨r1, r2, rfl, ?_, ?_, hap, ?_⟩
  · exact ((((Q1.other (by dsimp only; omega) _).other (by dsimp only; omega) _).other (by dsimp only; omega) _).other (by dsimp only; omega) _).mono (by omega)
  · exact ((((Q2.other (by dsimp only; omega) _).other (by dsimp only; omega) _).other (by dsimp only; omega) _).other (by dsimp only; omega) _).mono (by omega)
  · exact (((KG.out.setCell (by dsimp only; omega) _).setCell (by dsimp only; omega) _).setCell (by dsimp only; omega) _).setCell (by dsimp only; omega) _

set_option maxRecDepth 100000 in
set_option maxHeartbeats 2000000 in
theorem fsub_any (s1 : Bool) (a1 : Option Addr) (n1 c1 : Nat) (o1 : Nat → Int) (s2 : Bool) (a2 : Option Addr) (n2 c2 : Nat) (o2 : Nat → Int) (s3 : Bool) (a3 : Option Addr) (n3 c3 : Nat) (o3 : Nat → Int) (s4 : Bool) (a4 : Option Addr) (n4 c4 : Nat) (o4 : Nat → Int) (w : World) (x y : Rat)
    (hx : x = valF s1 n1 o1 s2 n2 o2) (hy : y = valF s3 n3 o3 s4 n4 o4)
    (h1 : Rd w a1 n1 o1) (hn1 : n1 ≤ 1000000) (hc1 : n1 ≤ c1) (h2 : Rd w a2 n2 o2) (hn2 : n2 ≤ 1000000) (hc2 : n2 ≤ c2) (h3 : Rd w a3 n3 o3) (hn3 : n3 ≤ 1000000) (hc3 : n3 ≤ c3) (h4 : Rd w a4 n4 o4) (hn4 : n4 ≤ 1000000) (hc4 : n4 ≤ c4) :
    Calls Tryz.prog 18 #[fracV s1 a1 n1 c1 s2 a2 n2 c2, fracV s3 a3 n3 c3 s4 a4 n4 c4] w (FracR w (x - y).num ((x - y).den : Int)) := by
  have l1 := valF_len (s1 := s1) (s2 := s2) h1.rng h2.rng
  have l2 := valF_len (s1 := s3) (s2 := s4) h3.rng h4.rng
  rw [← hx] at l1
  rw [← hy] at l2
  have hl1 := lenB_mul_le x.num.natAbs (y.den : Int).natAbs
  have hl2 := lenB_mul_le y.num.natAbs (x.den : Int).natAbs
  rw [← Int.natAbs_mul] at hl1 hl2
  have HB1 := Lib.hid (((Bxs.new w 27 [.bool s1, .slice a1 n1 c1, .bool s2, .slice a2 n2 c2]).alloc (.cells #[.bool s3, .slice a3 n3 c3, .bool s4, .slice a4 n4 c4] 27)).alloc (.cells #[.bool false, .slice none 0 0, .bool false, .slice none 0 0] 27))
  have HB2 := Lib.hid ((Bxs.new (w.alloc (.cells #[.bool s1, .slice a1 n1 c1, .bool s2, .slice a2 n2 c2] 27)) 27 [.bool s3, .slice a3 n3 c3, .bool s4, .slice a4 n4 c4]).alloc (.cells #[.bool false, .slice none 0 0, .bool false, .slice none 0 0] 27))
  have HB3 := Lib.hid (Bxs.new ((w.alloc (.cells #[.bool s1, .slice a1 n1 c1, .bool s2, .slice a2 n2 c2] 27)).alloc (.cells #[.bool s3, .slice a3 n3 c3, .bool s4, .slice a4 n4 c4] 27)) 27 [.bool false, .slice none 0 0, .bool false, .slice none 0 0])
  obtain ⟨W, hW⟩ : ∃ W, W = ((w.alloc (.cells #[.bool s1, .slice a1 n1 c1, .bool s2, .slice a2 n2 c2] 27)).alloc (.cells #[.bool s3, .slice a3 n3 c3, .bool s4, .slice a4 n4 c4] 27)).alloc (.cells #[.bool false, .slice none 0 0, .bool false, .slice none 0 0] 27) := ⟨_, rfl⟩
  have KG := Lib.hid (show Below w.heap.size w W by rw [hW]; exact (((Below.refl _ _).alloc (Nat.le_refl _) _).alloc (by go_size) _).alloc (by go_size) _)
  have hWs : w.heap.size + 3 = W.heap.size := by rw [hW]; simp
  have HB1 := Lib.hid (show Bxs W w.heap.size 27 [.bool s1, .slice a1 n1 c1, .bool s2, .slice a2 n2 c2] by rw [hW]; exact HB1.out)
  have HB2 := Lib.hid (show Bxs W (w.heap.size + 1) 27 [.bool s3, .slice a3 n3 c3, .bool s4, .slice a4 n4 c4] by have h := HB2.out; simp only [World.size_alloc] at h; rw [hW]; exact h)
  have HB3 := Lib.hid (show Bxs W (w.heap.size + 1 + 1) 27 [.bool false, .slice none 0 0, .bool false, .slice none 0 0] by have h := HB3.out; simp only [World.size_alloc] at h; rw [hW]; exact h)
  have BR := Lib.hid (make2_any 81 #[] (x.num * (y.den : Int) - y.num * (x.den : Int)) s1 a1 n1 c1 o1 s2 a2 n2 c2 o2 s3 a3 n3 c3 o3 s4 a4 n4 c4 o4 W x y hx hy (h1.below KG.out) hn1 hc1 (h2.below KG.out) hn2 hc2 (h3.below KG.out) hn3 hc3 (h4.below KG.out) hn4 hc4
    (fun _ _ => rfl)
    (by have := lenB_sub (x.num * (y.den : Int)) (y.num * (x.den : Int)); omega)
    (fun m1 m2 w1 _ r1 r2 => by
      have h := subc_any (decide (x.num * (y.den : Int) < 0)) m1 _ (lenB (x.num * (y.den : Int)).natAbs) _ (decide (y.num * (x.den : Int) < 0)) m2 _ (lenB (y.num * (x.den : Int)).natAbs) _ w1 r1 (by omega) (Nat.le_refl _) r2 (by omega) (Nat.le_refl _)
      rw [canon_val, canon_val] at h
      exact h))
  have hT : Rat.divInt (x.num * (y.den : Int) - y.num * (x.den : Int)) ((x.den : Int) * (y.den : Int)) = x - y := rat_sub x y
  rw [hT] at BR
  obtain ⟨t, ht⟩ : ∃ t, t = x - y := ⟨_, rfl⟩
  rw [← ht] at BR ⊢
  have HW := Lib.hid hW
  have HWS := Lib.hid hWs
  clear hW hWs h1 h2 h3 h4 hT ht hx hy l1 l2 hl1 hl2
  go_enter Tryz.func18, Tryz.ntmps18
  go_upto_region 1 with (fail)
  rw [show ((w.alloc (.cells #[.bool s1, .slice a1 n1 c1, .bool s2, .slice a2 n2 c2] 27)).alloc (.cells #[.bool s3, .slice a3 n3 c3, .bool s4, .slice a4 n4 c4] 27)).alloc (.cells #[.bool false, .slice none 0 0, .bool false, .slice none 0 0] 27) = W from HW.out.symm]
  clear HW
  obtain ⟨x0, x1, x2, x3, x4, x5⟩ := frac_box HB1.out
  obtain ⟨y0, y1, y2, y3, y4, y5⟩ := frac_box HB2.out
  go_wp2_with fail
  with_reducible refine BR.out.mono ?_
  rintro e w4 ⟨r1, r2, rfl, Q1, Q2, hap, hb⟩
  have M3 := Lib.hid (HB3.out.below hb HB3.out.lt)
  have KG := Lib.hid (KG.out.trans (hb.mono KG.out.size))
  have hvs := HWS.out
  have h2s := hb.size
  clear x0 x1 x2 x3 x4 x5 y0 y1 y2 y3 y4 y5 HB1 HB2 HB3 BR hb
  obtain ⟨z0, z1, z2, z3, zf, zl⟩ := frac_box M3.out
  go_wp2_with fail
  refine bodyPost_ret (results_cell rfl _ _ _ _ _ _ _ rfl ((((M3.out.put 0 _).put 1 _).put 2 _).put 3 _) Tryz.underlying27 rfl (by kernel_rfl)) rfl ⟨r1, r2, rfl, ?_, ?_, hap, ?_⟩
  · exact ((((Q1.other (by dsimp only; omega) _).other (by dsimp only; omega) _).other (by dsimp only; omega) _).other (by dsimp only; omega) _).mono (by omega)
  · exact ((((Q2.other (by dsimp only; omega) _).other (by dsimp only; omega) _).other (by dsimp only; omega) _).other (by dsimp only; omega) _).mono (by omega)
  · exact (((KG.out.setCell (by dsimp only; omega) _).setCell (by dsimp only; omega) _).setCell (by dsimp only; omega) _).setCell (by dsimp only; omega) _
end Go.Proofs.YtaagegcidbgjmaaGreatDoor.Limb
