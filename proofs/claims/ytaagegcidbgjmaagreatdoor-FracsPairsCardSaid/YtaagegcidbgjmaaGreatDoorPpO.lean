/-
  The law FracsPairs: for any two numbers it returns true, and they read behind the call as they read before; the card ties its three tables to the program's text.
-/
import Derived.Test.YtaagegcidbgjmaaGreatDoorPpN
import Derived.Test.YtaagegcidbgjmaaGreatDoorCards
import Derived.Test.YtaagegcidbgjmaaGreatDoorTie
import Derived.WalkKit
import Derived.ProofKit
import Derived.OpenShut
import Derived.Deep.DeepHandedRow
import Derived.Lib.LaidTab
namespace Go.Proofs.YtaagegcidbgjmaaGreatDoor.Limb
open Go.RowKit Go.Sort Go.Fresh

/-- A fraction's two lists, as they may be read. -/
structure FracJ (w : World) (l1 : Nat) (d1 : Nat → Int) (l2 : Nat) (d2 : Nat → Int) (x : Option Addr × Nat × Option Addr × Nat) : Prop where
  r1 : Rd w x.1 l1 d1
  r2 : Rd w x.2.2.1 l2 d2
theorem FracJ.below {w w' : World} {l1 : Nat} {d1 : Nat → Int} {l2 : Nat} {d2 : Nat → Int} {x : Option Addr × Nat × Option Addr × Nat} (h : FracJ w l1 d1 l2 d2 x) (hb : Below w.heap.size w w') : FracJ w' l1 d1 l2 d2 x := ⟨h.r1.below hb, h.r2.below hb⟩
theorem fracJ_of {s1 s2 : Bool} {l1 : Nat} {d1 : Nat → Int} {l2 : Nat} {d2 : Nat → Int} {x : Option Addr × Nat × Option Addr × Nat} {w : World}
    (h : ∃ y : Option Addr × Nat × Option Addr × Nat, fracV s1 x.1 l1 x.2.1 s2 x.2.2.1 l2 x.2.2.2 = fracV s1 y.1 l1 y.2.1 s2 y.2.2.1 l2 y.2.2.2 ∧ FracJ w l1 d1 l2 d2 y) : FracJ w l1 d1 l2 d2 x := by
  obtain ⟨y, e, h⟩ := h
  simp only [Value.agg.injEq, Array.mk.injEq, List.cons.injEq, Value.slice.injEq, true_and, and_true] at e
  obtain ⟨⟨e1, e2⟩, e3, e4⟩ := e
  obtain ⟨x1, x2, x3, x4⟩ := x
  obtain ⟨y1, y2, y3, y4⟩ := y
  dsimp only at e1 e2 e3 e4
  subst e1 e2 e3 e4
  exact h
open Classical in
set_option maxRecDepth 100000 in
set_option maxHeartbeats 8000000 in
theorem fracsPairs_law (s1 : Bool) (a1 : Option Addr) (n1 c1 : Nat) (o1 : Nat → Int) (s2 : Bool) (a2 : Option Addr) (n2 c2 : Nat) (o2 : Nat → Int) (s3 : Bool) (a3 : Option Addr) (n3 c3 : Nat) (o3 : Nat → Int) (s4 : Bool) (a4 : Option Addr) (n4 c4 : Nat) (o4 : Nat → Int) (w : World)
    (h1 : Rd w a1 n1 o1) (hc1 : n1 ≤ c1) (h2 : Rd w a2 n2 o2) (hc2 : n2 ≤ c2) (h3 : Rd w a3 n3 o3) (hc3 : n3 ≤ c3) (h4 : Rd w a4 n4 o4) (hc4 : n4 ≤ c4) :
    Calls Tryz.prog 4 #[fracV s1 a1 n1 c1 s2 a2 n2 c2, fracV s3 a3 n3 c3 s4 a4 n4 c4] w fun e w' => e = .returned (.bool true) ∧ Below w.heap.size w w' := by
  have HR := Lib.hid (And.intro (And.intro h1 h2) (And.intro h3 h4))
  have HC := Lib.hid (And.intro (And.intro hc1 hc2) (And.intro hc3 hc4))
  have HB1 := Lib.hid (((Bxs.new w 27 [.bool s1, .slice a1 n1 c1, .bool s2, .slice a2 n2 c2]).alloc (.cells #[.bool s3, .slice a3 n3 c3, .bool s4, .slice a4 n4 c4] 27)).alloc (.cells #[.bool s1, .slice a1 n1 c1, .bool s2, .slice a2 n2 c2, .bool s3, .slice a3 n3 c3, .bool s4, .slice a4 n4 c4] 27))
  have HB2 := Lib.hid ((Bxs.new (w.alloc (.cells #[.bool s1, .slice a1 n1 c1, .bool s2, .slice a2 n2 c2] 27)) 27 [.bool s3, .slice a3 n3 c3, .bool s4, .slice a4 n4 c4]).alloc (.cells #[.bool s1, .slice a1 n1 c1, .bool s2, .slice a2 n2 c2, .bool s3, .slice a3 n3 c3, .bool s4, .slice a4 n4 c4] 27))
  clear h1 h2 h3 h4 hc1 hc2 hc3 hc4
  have HG := Lib.hid (((Below.refl _ _).alloc (by go_size) _ |>.alloc (by go_size) _ |>.alloc (by go_size) _) : Below w.heap.size w (((w.alloc (.cells #[.bool s1, .slice a1 n1 c1, .bool s2, .slice a2 n2 c2] 27)).alloc (.cells #[.bool s3, .slice a3 n3 c3, .bool s4, .slice a4 n4 c4] 27)).alloc (.cells #[.bool s1, .slice a1 n1 c1, .bool s2, .slice a2 n2 c2, .bool s3, .slice a3 n3 c3, .bool s4, .slice a4 n4 c4] 27)))
  have GR := Lib.hid (great2_any 25 (w.heap.size + 1 + 1) 2 2 (fun i => if i = 0 then a1 else a3) (fun i => if i = 0 then a2 else a4) (fun i => if i = 0 then n1 else n3) (fun i => if i = 0 then c1 else c3) (fun i => if i = 0 then n2 else n4) (fun i => if i = 0 then c2 else c4)
    (((w.alloc (.cells #[.bool s1, .slice a1 n1 c1, .bool s2, .slice a2 n2 c2] 27)).alloc (.cells #[.bool s3, .slice a3 n3 c3, .bool s4, .slice a4 n4 c4] 27)).alloc (.cells #[.bool s1, .slice a1 n1 c1, .bool s2, .slice a2 n2 c2, .bool s3, .slice a3 n3 c3, .bool s4, .slice a4 n4 c4] 27)) (fun i hi => by
      have h := heap_alloc_new ((w.alloc (.cells #[.bool s1, .slice a1 n1 c1, .bool s2, .slice a2 n2 c2] 27)).alloc (.cells #[.bool s3, .slice a3 n3 c3, .bool s4, .slice a4 n4 c4] 27)) (.cells #[.bool s1, .slice a1 n1 c1, .bool s2, .slice a2 n2 c2, .bool s3, .slice a3 n3 c3, .bool s4, .slice a4 n4 c4] 27)
      rw [World.size_alloc, World.size_alloc] at h
      rw [cell_of_row _ _ _ _ _ _ h]
      match i, hi with
      | 0, _ => rfl
      | 1, _ => rfl) (fun i hi => by
      have h := heap_alloc_new ((w.alloc (.cells #[.bool s1, .slice a1 n1 c1, .bool s2, .slice a2 n2 c2] 27)).alloc (.cells #[.bool s3, .slice a3 n3 c3, .bool s4, .slice a4 n4 c4] 27)) (.cells #[.bool s1, .slice a1 n1 c1, .bool s2, .slice a2 n2 c2, .bool s3, .slice a3 n3 c3, .bool s4, .slice a4 n4 c4] 27)
      rw [World.size_alloc, World.size_alloc] at h
      rw [cell_of_row _ _ _ _ _ _ h]
      match i, hi with
      | 0, _ => rfl
      | 1, _ => rfl) (by omega))
  have c10 := HB1.out.cell (i := 0) rfl
  clear c10
  by_cases hg : (25 < n1 ∨ 25 < n2) ∨ 25 < n3 ∨ 25 < n4
  · rw [decide_eq_true (show ∃ i, i < 2 ∧ (25 < (if i = 0 then n1 else n3) ∨ 25 < (if i = 0 then n2 else n4)) by
      rcases hg with h | h
      · exact ⟨0, by omega, by rw [if_pos rfl, if_pos rfl]; exact h⟩
      · exact ⟨1, by omega, by rw [if_neg (by omega), if_neg (by omega)]; exact h⟩)] at GR
    clear hg
    go_enter Tryz.func4, Tryz.ntmps4
    go_wp2_with fail
    refine GR.out.mono ?_
    rintro e w1 ⟨rfl, rfl⟩
    go_wp2_with fail
    go_ret
    exact ⟨rfl, HG.out⟩
  · rw [decide_eq_false (show ¬ ∃ i, i < 2 ∧ (25 < (if i = 0 then n1 else n3) ∨ 25 < (if i = 0 then n2 else n4)) from fun ⟨i, hi, h⟩ => by
      match i, hi with
      | 0, _ => rw [if_pos rfl, if_pos rfl] at h; omega
      | 1, _ => rw [if_neg (by omega), if_neg (by omega)] at h; omega)] at GR
    have hn1 : n1 ≤ 25 := by omega
    have hn2 : n2 ≤ 25 := by omega
    have hn3 : n3 ≤ 25 := by omega
    have hn4 : n4 ≤ 25 := by omega
    clear hg
    go_enter Tryz.func4, Tryz.ntmps4
    go_wp2_with fail
    refine GR.out.mono ?_
    rintro e V ⟨rfl, hV⟩
    have HB1 := Lib.hid (show Bxs V w.heap.size 27 [.bool s1, .slice a1 n1 c1, .bool s2, .slice a2 n2 c2] by rw [hV]; exact HB1.out)
    have HB2 := Lib.hid (show Bxs V (w.heap.size + 1) 27 [.bool s3, .slice a3 n3 c3, .bool s4, .slice a4 n4 c4] by have h := HB2.out; simp only [World.size_alloc] at h; rw [hV]; exact h)
    rw [← hV] at HG
    clear GR hV
    go_upto_region 3 with (fail)
    obtain ⟨lo, hlo⟩ : ∃ lo, lo = V.heap.size := ⟨_, rfl⟩
    have HLO := Lib.hid (And.intro (show w.heap.size ≤ lo by rw [hlo]; exact HG.out.size) (show lo ≤ V.heap.size by omega))
    have HA := Lib.hid (OwnAll.nil lo V)
    clear hlo
    have cHB10 := HB1.out.cell (i := 0) rfl
    have cHB11 := HB1.out.cell (i := 1) rfl
    have cHB12 := HB1.out.cell (i := 2) rfl
    have cHB13 := HB1.out.cell (i := 3) rfl
    have cHB1f := HB1.out.fz
    have cHB1l := HB1.out.lt
    go_wp2_with fail
    with_reducible refine (twinFrac_any s1 a1 n1 c1 o1 s2 a2 n2 c2 o2 V (HR.out.1.1.below HG.out) (by omega) (HR.out.1.2.below HG.out) (by omega)).mono ?_
    rintro e w1 ⟨gx1, gx2, rfl, hO1, hO2, hne, hb⟩
    clear cHB10 cHB11 cHB12 cHB13 cHB1f cHB1l
    have ho1 : Own 74 w1 V.heap.size (some ⟨gx1, 0, none⟩) n1 (n1 + 1) o1 := (hO1.less (by omega)).congr fun i hi => (if_pos hi)
    have ho2 : Own 74 w1 V.heap.size (some ⟨gx2, 0, none⟩) n2 (n2 + 1) o2 := (hO2.less (by omega)).congr fun i hi => (if_pos hi)
    have hap : Apart2 (some ⟨gx1, 0, none⟩) (some ⟨gx2, 0, none⟩) := fun p q hp hq e => by cases hp; cases hq; exact hne e
    have hA1 := HA.out.more2 HLO.out.2 hb (x := ⟨0, s1, some ⟨gx1, 0, none⟩, n1, n1 + 1, o1⟩) (y := ⟨0, s2, some ⟨gx2, 0, none⟩, n2, n2 + 1, o2⟩) ho1 ho2 hap
    have HA := Lib.hid (hA1.below ((Below.refl _ _).alloc (Nat.le_refl _) (.cells #[.bool s1, .slice (some ⟨gx1, 0, none⟩) n1 (n1 + 1), .bool s2, .slice (some ⟨gx2, 0, none⟩) n2 (n2 + 1)] 27)))
    clear hA1
    simp only [List.nil_append, List.cons_append] at HA
    have HTx1 := Lib.hid (hO1.mono HLO.out.2)
    have HTx2 := Lib.hid (hO2.mono HLO.out.2)
    clear ho1 ho2 hap hne hO1 hO2
    have hbV := Lib.hid (hb.alloc hb.size (.cells #[.bool s1, .slice (some ⟨gx1, 0, none⟩) n1 (n1 + 1), .bool s2, .slice (some ⟨gx2, 0, none⟩) n2 (n2 + 1)] 27))
    have HKx := Lib.hid (Bxs.new (w1) 27 [.bool s1, .slice (some ⟨gx1, 0, none⟩) n1 (n1 + 1), .bool s2, .slice (some ⟨gx2, 0, none⟩) n2 (n2 + 1)])
    go_upto_region 4 with (fail)
    obtain ⟨W, hW⟩ : ∃ W, W = w1.alloc (.cells #[.bool s1, .slice (some ⟨gx1, 0, none⟩) n1 (n1 + 1), .bool s2, .slice (some ⟨gx2, 0, none⟩) n2 (n2 + 1)] 27) := ⟨_, rfl⟩
    have HKx := Lib.hid (show Bxs W (w1.heap.size) 27 [.bool s1, .slice (some ⟨gx1, 0, none⟩) n1 (n1 + 1), .bool s2, .slice (some ⟨gx2, 0, none⟩) n2 (n2 + 1)] by have h := HKx.out; rw [hW]; exact h)
    rw [← hW] at hbV HA
    have HTx1 := Lib.hid ((HTx1.out).allocd (.cells #[.bool s1, .slice (some ⟨gx1, 0, none⟩) n1 (n1 + 1), .bool s2, .slice (some ⟨gx2, 0, none⟩) n2 (n2 + 1)] 27))
    rw [← hW] at HTx1
    have HTx2 := Lib.hid ((HTx2.out).allocd (.cells #[.bool s1, .slice (some ⟨gx1, 0, none⟩) n1 (n1 + 1), .bool s2, .slice (some ⟨gx2, 0, none⟩) n2 (n2 + 1)] 27))
    rw [← hW] at HTx2
    rw [show w1.alloc (.cells #[.bool s1, .slice (some ⟨gx1, 0, none⟩) n1 (n1 + 1), .bool s2, .slice (some ⟨gx2, 0, none⟩) n2 (n2 + 1)] 27) = W from hW.symm]
    clear hW hb
    obtain ⟨blx, hbz⟩ : ∃ b, b = w1.heap.size := ⟨_, rfl⟩
    rw [← hbz] at HKx ⊢
    clear hbz
    have HB1 := Lib.hid (HB1.out.below hbV.out HB1.out.lt)
    have HB2 := Lib.hid (HB2.out.below hbV.out HB2.out.lt)
    have HG := Lib.hid (HG.out.trans (hbV.out.mono HG.out.size))
    have HLO := Lib.hid (And.intro HLO.out.1 (Nat.le_trans HLO.out.2 hbV.out.size))
    clear hbV
    obtain ⟨V, rfl⟩ : ∃ V, V = W := ⟨_, rfl⟩
    have cHB20 := HB2.out.cell (i := 0) rfl
    have cHB21 := HB2.out.cell (i := 1) rfl
    have cHB22 := HB2.out.cell (i := 2) rfl
    have cHB23 := HB2.out.cell (i := 3) rfl
    have cHB2f := HB2.out.fz
    have cHB2l := HB2.out.lt
    go_wp2_with fail
    with_reducible refine (twinFrac_any s3 a3 n3 c3 o3 s4 a4 n4 c4 o4 V (HR.out.2.1.below HG.out) (by omega) (HR.out.2.2.below HG.out) (by omega)).mono ?_
    rintro e w1 ⟨gy1, gy2, rfl, hO1, hO2, hne, hb⟩
    clear cHB20 cHB21 cHB22 cHB23 cHB2f cHB2l
    have ho1 : Own 74 w1 V.heap.size (some ⟨gy1, 0, none⟩) n3 (n3 + 1) o3 := (hO1.less (by omega)).congr fun i hi => (if_pos hi)
    have ho2 : Own 74 w1 V.heap.size (some ⟨gy2, 0, none⟩) n4 (n4 + 1) o4 := (hO2.less (by omega)).congr fun i hi => (if_pos hi)
    have hap : Apart2 (some ⟨gy1, 0, none⟩) (some ⟨gy2, 0, none⟩) := fun p q hp hq e => by cases hp; cases hq; exact hne e
    have hA1 := HA.out.more2 HLO.out.2 hb (x := ⟨0, s3, some ⟨gy1, 0, none⟩, n3, n3 + 1, o3⟩) (y := ⟨0, s4, some ⟨gy2, 0, none⟩, n4, n4 + 1, o4⟩) ho1 ho2 hap
    have HA := Lib.hid (hA1.below ((Below.refl _ _).alloc (Nat.le_refl _) (.cells #[.bool s3, .slice (some ⟨gy1, 0, none⟩) n3 (n3 + 1), .bool s4, .slice (some ⟨gy2, 0, none⟩) n4 (n4 + 1)] 27)))
    clear hA1
    simp only [List.nil_append, List.cons_append] at HA
    have HTy1 := Lib.hid (hO1.mono HLO.out.2)
    have HTy2 := Lib.hid (hO2.mono HLO.out.2)
    clear ho1 ho2 hap hne hO1 hO2
    have hbV := Lib.hid (hb.alloc hb.size (.cells #[.bool s3, .slice (some ⟨gy1, 0, none⟩) n3 (n3 + 1), .bool s4, .slice (some ⟨gy2, 0, none⟩) n4 (n4 + 1)] 27))
    have HKy := Lib.hid (Bxs.new (w1) 27 [.bool s3, .slice (some ⟨gy1, 0, none⟩) n3 (n3 + 1), .bool s4, .slice (some ⟨gy2, 0, none⟩) n4 (n4 + 1)])
    go_upto_region 5 with (fail)
    obtain ⟨W, hW⟩ : ∃ W, W = w1.alloc (.cells #[.bool s3, .slice (some ⟨gy1, 0, none⟩) n3 (n3 + 1), .bool s4, .slice (some ⟨gy2, 0, none⟩) n4 (n4 + 1)] 27) := ⟨_, rfl⟩
    have HKy := Lib.hid (show Bxs W (w1.heap.size) 27 [.bool s3, .slice (some ⟨gy1, 0, none⟩) n3 (n3 + 1), .bool s4, .slice (some ⟨gy2, 0, none⟩) n4 (n4 + 1)] by have h := HKy.out; rw [hW]; exact h)
    rw [← hW] at hbV HA
    have HTy1 := Lib.hid ((HTy1.out).allocd (.cells #[.bool s3, .slice (some ⟨gy1, 0, none⟩) n3 (n3 + 1), .bool s4, .slice (some ⟨gy2, 0, none⟩) n4 (n4 + 1)] 27))
    rw [← hW] at HTy1
    have HTy2 := Lib.hid ((HTy2.out).allocd (.cells #[.bool s3, .slice (some ⟨gy1, 0, none⟩) n3 (n3 + 1), .bool s4, .slice (some ⟨gy2, 0, none⟩) n4 (n4 + 1)] 27))
    rw [← hW] at HTy2
    rw [show w1.alloc (.cells #[.bool s3, .slice (some ⟨gy1, 0, none⟩) n3 (n3 + 1), .bool s4, .slice (some ⟨gy2, 0, none⟩) n4 (n4 + 1)] 27) = W from hW.symm]
    clear hW hb
    obtain ⟨bly, hbz⟩ : ∃ b, b = w1.heap.size := ⟨_, rfl⟩
    rw [← hbz] at HKy ⊢
    clear hbz
    have HB1 := Lib.hid (HB1.out.below hbV.out HB1.out.lt)
    have HB2 := Lib.hid (HB2.out.below hbV.out HB2.out.lt)
    have HKx := Lib.hid (HKx.out.below hbV.out HKx.out.lt)
    have HTx1 := Lib.hid (HTx1.out.below hbV.out)
    have HTx2 := Lib.hid (HTx2.out.below hbV.out)
    have HG := Lib.hid (HG.out.trans (hbV.out.mono HG.out.size))
    have HLO := Lib.hid (And.intro HLO.out.1 (Nat.le_trans HLO.out.2 hbV.out.size))
    clear hbV
    obtain ⟨V, rfl⟩ : ∃ V, V = W := ⟨_, rfl⟩
    obtain ⟨X, hX⟩ : ∃ X, X = valF s1 n1 o1 s2 n2 o2 := ⟨_, rfl⟩
    obtain ⟨Y, hY⟩ : ∃ Y, Y = valF s3 n3 o3 s4 n4 o4 := ⟨_, rfl⟩
    have HXY := Lib.hid (And.intro hX hY)
    have lX := valF_len (s1 := s1) (s2 := s2) HR.out.1.1.rng HR.out.1.2.rng
    have lY := valF_len (s1 := s3) (s2 := s4) HR.out.2.1.rng HR.out.2.2.rng
    rw [← hX] at lX
    rw [← hY] at lY
    obtain ⟨p1, hp1⟩ : ∃ p, p = (X + Y).num := ⟨_, rfl⟩
    obtain ⟨q1, hq1⟩ : ∃ q : Int, q = ((X + Y).den : Int) := ⟨_, rfl⟩
    obtain ⟨p2, hp2⟩ : ∃ p, p = (X - Y).num := ⟨_, rfl⟩
    obtain ⟨q2, hq2⟩ : ∃ q : Int, q = ((X - Y).den : Int) := ⟨_, rfl⟩
    obtain ⟨p3, hp3⟩ : ∃ p, p = (X * Y).num := ⟨_, rfl⟩
    obtain ⟨q3, hq3⟩ : ∃ q : Int, q = ((X * Y).den : Int) := ⟨_, rfl⟩
    have HE := Lib.hid (And.intro (And.intro hp1 hq1) (And.intro (And.intro hp2 hq2) (And.intro hp3 hq3)))
    have HLEN := Lib.hid (show (lenB p1.natAbs ≤ 1000 ∧ lenB q1.natAbs ≤ 1000) ∧ (lenB p2.natAbs ≤ 1000 ∧ lenB q2.natAbs ≤ 1000) ∧ lenB p3.natAbs ≤ 1000 ∧ lenB q3.natAbs ≤ 1000 by
      have e1 := add_len (x := X) (y := Y) (k := 26) (by omega) (by omega) (by omega) (by omega)
      have e2 := sub_len (x := X) (y := Y) (k := 26) (by omega) (by omega) (by omega) (by omega)
      have e3 := mul_len (x := X) (y := Y) (k := 26) (by omega) (by omega) (by omega) (by omega)
      rw [← hp1, ← hq1] at e1
      rw [← hp2, ← hq2] at e2
      rw [← hp3, ← hq3] at e3
      omega)
    clear hX hY lX lY hp1 hq1 hp2 hq2 hp3 hq3
    obtain ⟨code, p4, q4, hlen, DA, DB⟩ := fdiv_all s1 n1 o1 s2 n2 o2 s3 n3 o3 s4 n4 o4 (by omega) HR.out.1.1.rng (by omega) HR.out.1.2.rng (by omega) HR.out.2.1.rng (by omega) HR.out.2.2.rng
    have HDA := Lib.hid DA
    have HDB := Lib.hid DB
    have HL4 := Lib.hid (show lenB p4.natAbs ≤ 1000 ∧ lenB q4.natAbs ≤ 1000 by omega)
    clear DA DB hlen
    have G0 := HA.out.get (i := 0) rfl
    have G1 := HA.out.get (i := 1) rfl
    have G2 := HA.out.get (i := 2) rfl
    have G3 := HA.out.get (i := 3) rfl
    have CA := Lib.hid (fadd_any s1 (some ⟨gx1, 0, none⟩) n1 (n1 + 1) o1 s2 (some ⟨gx2, 0, none⟩) n2 (n2 + 1) o2 s3 (some ⟨gy1, 0, none⟩) n3 (n3 + 1) o3 s4 (some ⟨gy2, 0, none⟩) n4 (n4 + 1) o4 V X Y HXY.out.1 HXY.out.2 (G0.rd) (by omega) (by omega) (G1.rd) (by omega) (by omega) (G2.rd) (by omega) (by omega) (G3.rd) (by omega) (by omega))
    rw [← HE.out.1.1, ← HE.out.1.2] at CA
    clear G0 G1 G2 G3
    have cHKx0 := HKx.out.cell (i := 0) rfl
    have cHKx1 := HKx.out.cell (i := 1) rfl
    have cHKx2 := HKx.out.cell (i := 2) rfl
    have cHKx3 := HKx.out.cell (i := 3) rfl
    have cHKxf := HKx.out.fz
    have cHKxl := HKx.out.lt
    have cHKy0 := HKy.out.cell (i := 0) rfl
    have cHKy1 := HKy.out.cell (i := 1) rfl
    have cHKy2 := HKy.out.cell (i := 2) rfl
    have cHKy3 := HKy.out.cell (i := 3) rfl
    have cHKyf := HKy.out.fz
    have cHKyl := HKy.out.lt
    go_wp2_with fail
    with_reducible refine CA.out.mono ?_
    rintro e w1 ⟨ra, ua, rfl, ho1, ho2, hap, hb⟩
    clear cHKx0 cHKx1 cHKx2 cHKx3 cHKxf cHKxl cHKy0 cHKy1 cHKy2 cHKy3 cHKyf cHKyl
    have hA1 := HA.out.more2 HLO.out.2 hb (x := ⟨0, decide (p1 < 0), ra, lenB p1.natAbs, lenB p1.natAbs, dgi p1.natAbs⟩) (y := ⟨0, decide (q1 < 0), ua, lenB q1.natAbs, lenB q1.natAbs, dgi q1.natAbs⟩) ho1 ho2 hap
    have HA := Lib.hid (hA1.below ((Below.refl _ _).alloc (Nat.le_refl _) (.cells #[.bool (decide (p1 < 0)), .slice ra (lenB p1.natAbs) (lenB p1.natAbs), .bool (decide (q1 < 0)), .slice ua (lenB q1.natAbs) (lenB q1.natAbs)] 27)))
    clear hA1
    simp only [List.nil_append, List.cons_append] at HA
    clear CA ho1 ho2 hap
    have hbV := Lib.hid (hb.alloc hb.size (.cells #[.bool (decide (p1 < 0)), .slice ra (lenB p1.natAbs) (lenB p1.natAbs), .bool (decide (q1 < 0)), .slice ua (lenB q1.natAbs) (lenB q1.natAbs)] 27))
    have HKa := Lib.hid (Bxs.new (w1) 27 [.bool (decide (p1 < 0)), .slice ra (lenB p1.natAbs) (lenB p1.natAbs), .bool (decide (q1 < 0)), .slice ua (lenB q1.natAbs) (lenB q1.natAbs)])
    go_upto_region 6 with (fail)
    obtain ⟨W, hW⟩ : ∃ W, W = w1.alloc (.cells #[.bool (decide (p1 < 0)), .slice ra (lenB p1.natAbs) (lenB p1.natAbs), .bool (decide (q1 < 0)), .slice ua (lenB q1.natAbs) (lenB q1.natAbs)] 27) := ⟨_, rfl⟩
    have HKa := Lib.hid (show Bxs W (w1.heap.size) 27 [.bool (decide (p1 < 0)), .slice ra (lenB p1.natAbs) (lenB p1.natAbs), .bool (decide (q1 < 0)), .slice ua (lenB q1.natAbs) (lenB q1.natAbs)] by have h := HKa.out; rw [hW]; exact h)
    rw [← hW] at hbV HA
    rw [show w1.alloc (.cells #[.bool (decide (p1 < 0)), .slice ra (lenB p1.natAbs) (lenB p1.natAbs), .bool (decide (q1 < 0)), .slice ua (lenB q1.natAbs) (lenB q1.natAbs)] 27) = W from hW.symm]
    clear hW hb
    obtain ⟨bla, hbz⟩ : ∃ b, b = w1.heap.size := ⟨_, rfl⟩
    rw [← hbz] at HKa ⊢
    clear hbz
    have HB1 := Lib.hid (HB1.out.below hbV.out HB1.out.lt)
    have HB2 := Lib.hid (HB2.out.below hbV.out HB2.out.lt)
    have HKx := Lib.hid (HKx.out.below hbV.out HKx.out.lt)
    have HKy := Lib.hid (HKy.out.below hbV.out HKy.out.lt)
    have HTx1 := Lib.hid (HTx1.out.below hbV.out)
    have HTx2 := Lib.hid (HTx2.out.below hbV.out)
    have HTy1 := Lib.hid (HTy1.out.below hbV.out)
    have HTy2 := Lib.hid (HTy2.out.below hbV.out)
    have HG := Lib.hid (HG.out.trans (hbV.out.mono HG.out.size))
    have HLO := Lib.hid (And.intro HLO.out.1 (Nat.le_trans HLO.out.2 hbV.out.size))
    clear hbV
    obtain ⟨V, rfl⟩ : ∃ V, V = W := ⟨_, rfl⟩
    have G0 := HA.out.get (i := 0) rfl
    have G1 := HA.out.get (i := 1) rfl
    have G2 := HA.out.get (i := 2) rfl
    have G3 := HA.out.get (i := 3) rfl
    have CA := Lib.hid (fsub_any s1 (some ⟨gx1, 0, none⟩) n1 (n1 + 1) o1 s2 (some ⟨gx2, 0, none⟩) n2 (n2 + 1) o2 s3 (some ⟨gy1, 0, none⟩) n3 (n3 + 1) o3 s4 (some ⟨gy2, 0, none⟩) n4 (n4 + 1) o4 V X Y HXY.out.1 HXY.out.2 (G0.rd) (by omega) (by omega) (G1.rd) (by omega) (by omega) (G2.rd) (by omega) (by omega) (G3.rd) (by omega) (by omega))
    rw [← HE.out.2.1.1, ← HE.out.2.1.2] at CA
    clear G0 G1 G2 G3
    have cHKx0 := HKx.out.cell (i := 0) rfl
    have cHKx1 := HKx.out.cell (i := 1) rfl
    have cHKx2 := HKx.out.cell (i := 2) rfl
    have cHKx3 := HKx.out.cell (i := 3) rfl
    have cHKxf := HKx.out.fz
    have cHKxl := HKx.out.lt
    have cHKy0 := HKy.out.cell (i := 0) rfl
    have cHKy1 := HKy.out.cell (i := 1) rfl
    have cHKy2 := HKy.out.cell (i := 2) rfl
    have cHKy3 := HKy.out.cell (i := 3) rfl
    have cHKyf := HKy.out.fz
    have cHKyl := HKy.out.lt
    go_wp2_with fail
    with_reducible refine CA.out.mono ?_
    rintro e w1 ⟨rb, ub, rfl, ho1, ho2, hap, hb⟩
    clear cHKx0 cHKx1 cHKx2 cHKx3 cHKxf cHKxl cHKy0 cHKy1 cHKy2 cHKy3 cHKyf cHKyl
    have hA1 := HA.out.more2 HLO.out.2 hb (x := ⟨0, decide (p2 < 0), rb, lenB p2.natAbs, lenB p2.natAbs, dgi p2.natAbs⟩) (y := ⟨0, decide (q2 < 0), ub, lenB q2.natAbs, lenB q2.natAbs, dgi q2.natAbs⟩) ho1 ho2 hap
    have HA := Lib.hid (hA1.below ((Below.refl _ _).alloc (Nat.le_refl _) (.cells #[.bool (decide (p2 < 0)), .slice rb (lenB p2.natAbs) (lenB p2.natAbs), .bool (decide (q2 < 0)), .slice ub (lenB q2.natAbs) (lenB q2.natAbs)] 27)))
    clear hA1
    simp only [List.nil_append, List.cons_append] at HA
    clear CA ho1 ho2 hap
    have hbV := Lib.hid (hb.alloc hb.size (.cells #[.bool (decide (p2 < 0)), .slice rb (lenB p2.natAbs) (lenB p2.natAbs), .bool (decide (q2 < 0)), .slice ub (lenB q2.natAbs) (lenB q2.natAbs)] 27))
    have HKb := Lib.hid (Bxs.new (w1) 27 [.bool (decide (p2 < 0)), .slice rb (lenB p2.natAbs) (lenB p2.natAbs), .bool (decide (q2 < 0)), .slice ub (lenB q2.natAbs) (lenB q2.natAbs)])
    go_upto_region 7 with (fail)
    obtain ⟨W, hW⟩ : ∃ W, W = w1.alloc (.cells #[.bool (decide (p2 < 0)), .slice rb (lenB p2.natAbs) (lenB p2.natAbs), .bool (decide (q2 < 0)), .slice ub (lenB q2.natAbs) (lenB q2.natAbs)] 27) := ⟨_, rfl⟩
    have HKb := Lib.hid (show Bxs W (w1.heap.size) 27 [.bool (decide (p2 < 0)), .slice rb (lenB p2.natAbs) (lenB p2.natAbs), .bool (decide (q2 < 0)), .slice ub (lenB q2.natAbs) (lenB q2.natAbs)] by have h := HKb.out; rw [hW]; exact h)
    rw [← hW] at hbV HA
    rw [show w1.alloc (.cells #[.bool (decide (p2 < 0)), .slice rb (lenB p2.natAbs) (lenB p2.natAbs), .bool (decide (q2 < 0)), .slice ub (lenB q2.natAbs) (lenB q2.natAbs)] 27) = W from hW.symm]
    clear hW hb
    obtain ⟨blb, hbz⟩ : ∃ b, b = w1.heap.size := ⟨_, rfl⟩
    rw [← hbz] at HKb ⊢
    clear hbz
    have HB1 := Lib.hid (HB1.out.below hbV.out HB1.out.lt)
    have HB2 := Lib.hid (HB2.out.below hbV.out HB2.out.lt)
    have HKx := Lib.hid (HKx.out.below hbV.out HKx.out.lt)
    have HKy := Lib.hid (HKy.out.below hbV.out HKy.out.lt)
    have HKa := Lib.hid (HKa.out.below hbV.out HKa.out.lt)
    have HTx1 := Lib.hid (HTx1.out.below hbV.out)
    have HTx2 := Lib.hid (HTx2.out.below hbV.out)
    have HTy1 := Lib.hid (HTy1.out.below hbV.out)
    have HTy2 := Lib.hid (HTy2.out.below hbV.out)
    have HG := Lib.hid (HG.out.trans (hbV.out.mono HG.out.size))
    have HLO := Lib.hid (And.intro HLO.out.1 (Nat.le_trans HLO.out.2 hbV.out.size))
    clear hbV
    obtain ⟨V, rfl⟩ : ∃ V, V = W := ⟨_, rfl⟩
    have G0 := HA.out.get (i := 0) rfl
    have G1 := HA.out.get (i := 1) rfl
    have G2 := HA.out.get (i := 2) rfl
    have G3 := HA.out.get (i := 3) rfl
    have CA := Lib.hid (fmul_any s1 (some ⟨gx1, 0, none⟩) n1 (n1 + 1) o1 s2 (some ⟨gx2, 0, none⟩) n2 (n2 + 1) o2 s3 (some ⟨gy1, 0, none⟩) n3 (n3 + 1) o3 s4 (some ⟨gy2, 0, none⟩) n4 (n4 + 1) o4 V X Y HXY.out.1 HXY.out.2 (G0.rd) (by omega) (by omega) (G1.rd) (by omega) (by omega) (G2.rd) (by omega) (by omega) (G3.rd) (by omega) (by omega))
    rw [← HE.out.2.2.1, ← HE.out.2.2.2] at CA
    clear G0 G1 G2 G3
    have cHKx0 := HKx.out.cell (i := 0) rfl
    have cHKx1 := HKx.out.cell (i := 1) rfl
    have cHKx2 := HKx.out.cell (i := 2) rfl
    have cHKx3 := HKx.out.cell (i := 3) rfl
    have cHKxf := HKx.out.fz
    have cHKxl := HKx.out.lt
    have cHKy0 := HKy.out.cell (i := 0) rfl
    have cHKy1 := HKy.out.cell (i := 1) rfl
    have cHKy2 := HKy.out.cell (i := 2) rfl
    have cHKy3 := HKy.out.cell (i := 3) rfl
    have cHKyf := HKy.out.fz
    have cHKyl := HKy.out.lt
    go_wp2_with fail
    with_reducible refine CA.out.mono ?_
    rintro e w1 ⟨rc, uc, rfl, ho1, ho2, hap, hb⟩
    clear cHKx0 cHKx1 cHKx2 cHKx3 cHKxf cHKxl cHKy0 cHKy1 cHKy2 cHKy3 cHKyf cHKyl
    have hA1 := HA.out.more2 HLO.out.2 hb (x := ⟨0, decide (p3 < 0), rc, lenB p3.natAbs, lenB p3.natAbs, dgi p3.natAbs⟩) (y := ⟨0, decide (q3 < 0), uc, lenB q3.natAbs, lenB q3.natAbs, dgi q3.natAbs⟩) ho1 ho2 hap
    have HA := Lib.hid (hA1.below ((Below.refl _ _).alloc (Nat.le_refl _) (.cells #[.bool (decide (p3 < 0)), .slice rc (lenB p3.natAbs) (lenB p3.natAbs), .bool (decide (q3 < 0)), .slice uc (lenB q3.natAbs) (lenB q3.natAbs)] 27)))
    clear hA1
    simp only [List.nil_append, List.cons_append] at HA
    clear CA ho1 ho2 hap
    have hbV := Lib.hid (hb.alloc hb.size (.cells #[.bool (decide (p3 < 0)), .slice rc (lenB p3.natAbs) (lenB p3.natAbs), .bool (decide (q3 < 0)), .slice uc (lenB q3.natAbs) (lenB q3.natAbs)] 27))
    have HKc := Lib.hid (Bxs.new (w1) 27 [.bool (decide (p3 < 0)), .slice rc (lenB p3.natAbs) (lenB p3.natAbs), .bool (decide (q3 < 0)), .slice uc (lenB q3.natAbs) (lenB q3.natAbs)])
    go_upto_region 8 with (fail)
    obtain ⟨W, hW⟩ : ∃ W, W = w1.alloc (.cells #[.bool (decide (p3 < 0)), .slice rc (lenB p3.natAbs) (lenB p3.natAbs), .bool (decide (q3 < 0)), .slice uc (lenB q3.natAbs) (lenB q3.natAbs)] 27) := ⟨_, rfl⟩
    have HKc := Lib.hid (show Bxs W (w1.heap.size) 27 [.bool (decide (p3 < 0)), .slice rc (lenB p3.natAbs) (lenB p3.natAbs), .bool (decide (q3 < 0)), .slice uc (lenB q3.natAbs) (lenB q3.natAbs)] by have h := HKc.out; rw [hW]; exact h)
    rw [← hW] at hbV HA
    rw [show w1.alloc (.cells #[.bool (decide (p3 < 0)), .slice rc (lenB p3.natAbs) (lenB p3.natAbs), .bool (decide (q3 < 0)), .slice uc (lenB q3.natAbs) (lenB q3.natAbs)] 27) = W from hW.symm]
    clear hW hb
    obtain ⟨blc, hbz⟩ : ∃ b, b = w1.heap.size := ⟨_, rfl⟩
    rw [← hbz] at HKc ⊢
    clear hbz
    have HB1 := Lib.hid (HB1.out.below hbV.out HB1.out.lt)
    have HB2 := Lib.hid (HB2.out.below hbV.out HB2.out.lt)
    have HKx := Lib.hid (HKx.out.below hbV.out HKx.out.lt)
    have HKy := Lib.hid (HKy.out.below hbV.out HKy.out.lt)
    have HKa := Lib.hid (HKa.out.below hbV.out HKa.out.lt)
    have HKb := Lib.hid (HKb.out.below hbV.out HKb.out.lt)
    have HTx1 := Lib.hid (HTx1.out.below hbV.out)
    have HTx2 := Lib.hid (HTx2.out.below hbV.out)
    have HTy1 := Lib.hid (HTy1.out.below hbV.out)
    have HTy2 := Lib.hid (HTy2.out.below hbV.out)
    have HG := Lib.hid (HG.out.trans (hbV.out.mono HG.out.size))
    have HLO := Lib.hid (And.intro HLO.out.1 (Nat.le_trans HLO.out.2 hbV.out.size))
    clear hbV
    obtain ⟨V, rfl⟩ : ∃ V, V = W := ⟨_, rfl⟩
    have G0 := HA.out.get (i := 0) rfl
    have G1 := HA.out.get (i := 1) rfl
    have G2 := HA.out.get (i := 2) rfl
    have G3 := HA.out.get (i := 3) rfl
    have CA := Lib.hid (HDA.out (some ⟨gx1, 0, none⟩) (some ⟨gx2, 0, none⟩) (some ⟨gy1, 0, none⟩) (some ⟨gy2, 0, none⟩) (n1 + 1) (n2 + 1) (n3 + 1) (n4 + 1) V G0.rd (by omega) G1.rd (by omega) G2.rd (by omega) G3.rd (by omega))
    clear G0 G1 G2 G3
    have cHKx0 := HKx.out.cell (i := 0) rfl
    have cHKx1 := HKx.out.cell (i := 1) rfl
    have cHKx2 := HKx.out.cell (i := 2) rfl
    have cHKx3 := HKx.out.cell (i := 3) rfl
    have cHKxf := HKx.out.fz
    have cHKxl := HKx.out.lt
    have cHKy0 := HKy.out.cell (i := 0) rfl
    have cHKy1 := HKy.out.cell (i := 1) rfl
    have cHKy2 := HKy.out.cell (i := 2) rfl
    have cHKy3 := HKy.out.cell (i := 3) rfl
    have cHKyf := HKy.out.fz
    have cHKyl := HKy.out.lt
    go_wp2_with fail
    with_reducible refine CA.out.mono ?_
    rintro e w1 ⟨rd, ud, rfl, ho1, ho2, hap, hb⟩
    clear cHKx0 cHKx1 cHKx2 cHKx3 cHKxf cHKxl cHKy0 cHKy1 cHKy2 cHKy3 cHKyf cHKyl
    have hA1 := HA.out.more2 HLO.out.2 hb (x := ⟨0, decide (p4 < 0), rd, lenB p4.natAbs, lenB p4.natAbs, dgi p4.natAbs⟩) (y := ⟨0, decide (q4 < 0), ud, lenB q4.natAbs, lenB q4.natAbs, dgi q4.natAbs⟩) ho1 ho2 hap
    have HA := Lib.hid (hA1.below ((Below.refl _ _).alloc (Nat.le_refl _) (.cells #[.bool (decide (p4 < 0)), .slice rd (lenB p4.natAbs) (lenB p4.natAbs), .bool (decide (q4 < 0)), .slice ud (lenB q4.natAbs) (lenB q4.natAbs)] 27)))
    clear hA1
    simp only [List.nil_append, List.cons_append] at HA
    clear CA ho1 ho2 hap HDA
    have hbV := Lib.hid (hb.alloc hb.size (.cells #[.bool (decide (p4 < 0)), .slice rd (lenB p4.natAbs) (lenB p4.natAbs), .bool (decide (q4 < 0)), .slice ud (lenB q4.natAbs) (lenB q4.natAbs)] 27))
    have HKd := Lib.hid (Bxs.new (w1) 27 [.bool (decide (p4 < 0)), .slice rd (lenB p4.natAbs) (lenB p4.natAbs), .bool (decide (q4 < 0)), .slice ud (lenB q4.natAbs) (lenB q4.natAbs)])
    go_upto_region 9 with (fail)
    obtain ⟨W, hW⟩ : ∃ W, W = w1.alloc (.cells #[.bool (decide (p4 < 0)), .slice rd (lenB p4.natAbs) (lenB p4.natAbs), .bool (decide (q4 < 0)), .slice ud (lenB q4.natAbs) (lenB q4.natAbs)] 27) := ⟨_, rfl⟩
    have HKd := Lib.hid (show Bxs W (w1.heap.size) 27 [.bool (decide (p4 < 0)), .slice rd (lenB p4.natAbs) (lenB p4.natAbs), .bool (decide (q4 < 0)), .slice ud (lenB q4.natAbs) (lenB q4.natAbs)] by have h := HKd.out; rw [hW]; exact h)
    rw [← hW] at hbV HA
    rw [show w1.alloc (.cells #[.bool (decide (p4 < 0)), .slice rd (lenB p4.natAbs) (lenB p4.natAbs), .bool (decide (q4 < 0)), .slice ud (lenB q4.natAbs) (lenB q4.natAbs)] 27) = W from hW.symm]
    clear hW hb
    obtain ⟨bld, hbz⟩ : ∃ b, b = w1.heap.size := ⟨_, rfl⟩
    rw [← hbz] at HKd ⊢
    clear hbz
    have HB1 := Lib.hid (HB1.out.below hbV.out HB1.out.lt)
    have HB2 := Lib.hid (HB2.out.below hbV.out HB2.out.lt)
    have HKx := Lib.hid (HKx.out.below hbV.out HKx.out.lt)
    have HKy := Lib.hid (HKy.out.below hbV.out HKy.out.lt)
    have HKa := Lib.hid (HKa.out.below hbV.out HKa.out.lt)
    have HKb := Lib.hid (HKb.out.below hbV.out HKb.out.lt)
    have HKc := Lib.hid (HKc.out.below hbV.out HKc.out.lt)
    have HTx1 := Lib.hid (HTx1.out.below hbV.out)
    have HTx2 := Lib.hid (HTx2.out.below hbV.out)
    have HTy1 := Lib.hid (HTy1.out.below hbV.out)
    have HTy2 := Lib.hid (HTy2.out.below hbV.out)
    have HG := Lib.hid (HG.out.trans (hbV.out.mono HG.out.size))
    have HLO := Lib.hid (And.intro HLO.out.1 (Nat.le_trans HLO.out.2 hbV.out.size))
    clear hbV
    obtain ⟨V, rfl⟩ : ∃ V, V = W := ⟨_, rfl⟩
    have CB := Lib.hid (HDB.out a1 a2 a3 a4 c1 c2 c3 c4 V (HR.out.1.1.below HG.out) HC.out.1.1 (HR.out.1.2.below HG.out) HC.out.1.2 (HR.out.2.1.below HG.out) HC.out.2.1 (HR.out.2.2.below HG.out) HC.out.2.2)
    have cHB10 := HB1.out.cell (i := 0) rfl
    have cHB11 := HB1.out.cell (i := 1) rfl
    have cHB12 := HB1.out.cell (i := 2) rfl
    have cHB13 := HB1.out.cell (i := 3) rfl
    have cHB1f := HB1.out.fz
    have cHB1l := HB1.out.lt
    have cHB20 := HB2.out.cell (i := 0) rfl
    have cHB21 := HB2.out.cell (i := 1) rfl
    have cHB22 := HB2.out.cell (i := 2) rfl
    have cHB23 := HB2.out.cell (i := 3) rfl
    have cHB2f := HB2.out.fz
    have cHB2l := HB2.out.lt
    go_wp2_with fail
    with_reducible refine CB.out.mono ?_
    rintro e w1 ⟨rz, cw, uz, dz, rfl, ho1, ho2, hb⟩
    clear cHB10 cHB11 cHB12 cHB13 cHB1f cHB1l cHB20 cHB21 cHB22 cHB23 cHB2f cHB2l
    have HW1 := Lib.hid (ho1.mono HLO.out.2)
    have HW2 := Lib.hid (ho2.mono HLO.out.2)
    clear CB ho1 ho2 HDB
    have hbV := Lib.hid (hb.alloc hb.size (.cells #[.bool (decide (p4 < 0)), .slice rz (lenB p4.natAbs) cw, .bool (decide (q4 < 0)), .slice uz (lenB q4.natAbs) dz] 27))
    have HKw := Lib.hid (Bxs.new (w1) 27 [.bool (decide (p4 < 0)), .slice rz (lenB p4.natAbs) cw, .bool (decide (q4 < 0)), .slice uz (lenB q4.natAbs) dz])
    go_upto_region 10 with (fail)
    obtain ⟨W, hW⟩ : ∃ W, W = w1.alloc (.cells #[.bool (decide (p4 < 0)), .slice rz (lenB p4.natAbs) cw, .bool (decide (q4 < 0)), .slice uz (lenB q4.natAbs) dz] 27) := ⟨_, rfl⟩
    have HKw := Lib.hid (show Bxs W (w1.heap.size) 27 [.bool (decide (p4 < 0)), .slice rz (lenB p4.natAbs) cw, .bool (decide (q4 < 0)), .slice uz (lenB q4.natAbs) dz] by have h := HKw.out; rw [hW]; exact h)
    rw [← hW] at hbV
    have HW1 := Lib.hid ((HW1.out).allocd (.cells #[.bool (decide (p4 < 0)), .slice rz (lenB p4.natAbs) cw, .bool (decide (q4 < 0)), .slice uz (lenB q4.natAbs) dz] 27))
    rw [← hW] at HW1
    have HW2 := Lib.hid ((HW2.out).allocd (.cells #[.bool (decide (p4 < 0)), .slice rz (lenB p4.natAbs) cw, .bool (decide (q4 < 0)), .slice uz (lenB q4.natAbs) dz] 27))
    rw [← hW] at HW2
    rw [show w1.alloc (.cells #[.bool (decide (p4 < 0)), .slice rz (lenB p4.natAbs) cw, .bool (decide (q4 < 0)), .slice uz (lenB q4.natAbs) dz] 27) = W from hW.symm]
    clear hW hb
    obtain ⟨blw, hbz⟩ : ∃ b, b = w1.heap.size := ⟨_, rfl⟩
    rw [← hbz] at HKw ⊢
    clear hbz
    have HB1 := Lib.hid (HB1.out.below hbV.out HB1.out.lt)
    have HB2 := Lib.hid (HB2.out.below hbV.out HB2.out.lt)
    have HKx := Lib.hid (HKx.out.below hbV.out HKx.out.lt)
    have HKy := Lib.hid (HKy.out.below hbV.out HKy.out.lt)
    have HKa := Lib.hid (HKa.out.below hbV.out HKa.out.lt)
    have HKb := Lib.hid (HKb.out.below hbV.out HKb.out.lt)
    have HKc := Lib.hid (HKc.out.below hbV.out HKc.out.lt)
    have HKd := Lib.hid (HKd.out.below hbV.out HKd.out.lt)
    have HTx1 := Lib.hid (HTx1.out.below hbV.out)
    have HTx2 := Lib.hid (HTx2.out.below hbV.out)
    have HTy1 := Lib.hid (HTy1.out.below hbV.out)
    have HTy2 := Lib.hid (HTy2.out.below hbV.out)
    have HG := Lib.hid (HG.out.trans (hbV.out.mono HG.out.size))
    have HLO := Lib.hid (And.intro HLO.out.1 (Nat.le_trans HLO.out.2 hbV.out.size))
    have HA := Lib.hid (HA.out.below hbV.out)
    clear hbV
    obtain ⟨V, rfl⟩ : ∃ V, V = W := ⟨_, rfl⟩
    have RA := Lib.hid (fun (w' : World) (hb : Below V.heap.size V w') => And.intro (And.intro (HR.out.1.1.below (HG.out.trans (hb.mono HG.out.size))) (HR.out.1.2.below (HG.out.trans (hb.mono HG.out.size)))) (And.intro (HR.out.2.1.below (HG.out.trans (hb.mono HG.out.size))) (HR.out.2.2.below (HG.out.trans (hb.mono HG.out.size)))))
    have G0 := Lib.hid (fun (w' : World) (hb : Below V.heap.size V w') => ((HA.out.get (i := 0) rfl).below hb).rd)
    have G1 := Lib.hid (fun (w' : World) (hb : Below V.heap.size V w') => ((HA.out.get (i := 1) rfl).below hb).rd)
    have G2 := Lib.hid (fun (w' : World) (hb : Below V.heap.size V w') => ((HA.out.get (i := 2) rfl).below hb).rd)
    have G3 := Lib.hid (fun (w' : World) (hb : Below V.heap.size V w') => ((HA.out.get (i := 3) rfl).below hb).rd)
    have G4 := Lib.hid (fun (w' : World) (hb : Below V.heap.size V w') => ((HA.out.get (i := 4) rfl).below hb).rd)
    have G5 := Lib.hid (fun (w' : World) (hb : Below V.heap.size V w') => ((HA.out.get (i := 5) rfl).below hb).rd)
    have G6 := Lib.hid (fun (w' : World) (hb : Below V.heap.size V w') => ((HA.out.get (i := 6) rfl).below hb).rd)
    have G7 := Lib.hid (fun (w' : World) (hb : Below V.heap.size V w') => ((HA.out.get (i := 7) rfl).below hb).rd)
    have G8 := Lib.hid (fun (w' : World) (hb : Below V.heap.size V w') => ((HA.out.get (i := 8) rfl).below hb).rd)
    have G9 := Lib.hid (fun (w' : World) (hb : Below V.heap.size V w') => ((HA.out.get (i := 9) rfl).below hb).rd)
    obtain ⟨cz, hcz⟩ : ∃ cz, cz = cmpZ (X.num * (Y.den : Int)) (Y.num * (X.den : Int)) := ⟨_, rfl⟩
    obtain ⟨sz, hsz⟩ : ∃ sz, sz = cmpZ X.num 0 := ⟨_, rfl⟩
    have CMA := Lib.hid (fun (w' : World) (hb : Below V.heap.size V w') => fcmp_any s1 (some ⟨gx1, 0, none⟩) n1 (n1 + 1) o1 s2 (some ⟨gx2, 0, none⟩) n2 (n2 + 1) o2 s3 (some ⟨gy1, 0, none⟩) n3 (n3 + 1) o3 s4 (some ⟨gy2, 0, none⟩) n4 (n4 + 1) o4 w' X Y HXY.out.1 HXY.out.2 (G0.out w' hb) (by omega) (by omega) (G1.out w' hb) (by omega) (by omega) (G2.out w' hb) (by omega) (by omega) (G3.out w' hb) (by omega) (by omega))
    have CMB := Lib.hid (fun (w' : World) (hb : Below V.heap.size V w') => rfcmp_any s1 a1 n1 c1 o1 s2 a2 n2 c2 o2 s3 a3 n3 c3 o3 s4 a4 n4 c4 o4 w' X Y HXY.out.1 HXY.out.2 (RA.out w' hb).1.1 (by omega) HC.out.1.1 (RA.out w' hb).1.2 (by omega) HC.out.1.2 (RA.out w' hb).2.1 (by omega) HC.out.2.1 (RA.out w' hb).2.2 (by omega) HC.out.2.2)
    have SGA := Lib.hid (fun (w' : World) (hb : Below V.heap.size V w') => fsign_any s1 (some ⟨gx1, 0, none⟩) n1 (n1 + 1) o1 s2 (some ⟨gx2, 0, none⟩) n2 (n2 + 1) o2 w' X HXY.out.1 (G0.out w' hb) (by omega) (by omega) (G1.out w' hb) (by omega) (by omega))
    have SGB := Lib.hid (fun (w' : World) (hb : Below V.heap.size V w') => rfsign_any s1 a1 n1 c1 o1 s2 a2 n2 c2 o2 w' X HXY.out.1 (RA.out w' hb).1.1 (by omega) HC.out.1.1 (RA.out w' hb).1.2 (by omega) HC.out.1.2)
    rw [← hcz] at CMA CMB
    rw [← hsz] at SGA SGB
    have R1 := Lib.hid (fun (w' : World) (hb : Below V.heap.size V w') => rfadd_any s1 a1 n1 c1 o1 s2 a2 n2 c2 o2 s3 a3 n3 c3 o3 s4 a4 n4 c4 o4 w' X Y HXY.out.1 HXY.out.2 (RA.out w' hb).1.1 (by omega) HC.out.1.1 (RA.out w' hb).1.2 (by omega) HC.out.1.2 (RA.out w' hb).2.1 (by omega) HC.out.2.1 (RA.out w' hb).2.2 (by omega) HC.out.2.2)
    rw [← HE.out.1.1, ← HE.out.1.2] at R1
    unfold FracF at R1
    have SM1 := Lib.hid (fun (w' : World) (hb : Below V.heap.size V w') (x : Option Addr × Nat × Option Addr × Nat) (hx : FracJ w' (lenB p1.natAbs) (dgi p1.natAbs) (lenB q1.natAbs) (dgi q1.natAbs) x) => sameFrac_any (decide (p1 < 0)) ra x.1 (lenB p1.natAbs) (lenB p1.natAbs) x.2.1 (dgi p1.natAbs) (decide (q1 < 0)) ua x.2.2.1 (lenB q1.natAbs) (lenB q1.natAbs) x.2.2.2 (dgi q1.natAbs) w' (G4.out w' hb) hx.r1 (by have := HLEN.out; omega) (G5.out w' hb) hx.r2 (by have := HLEN.out; omega))
    have R2 := Lib.hid (fun (w' : World) (hb : Below V.heap.size V w') => rfsub_any s1 a1 n1 c1 o1 s2 a2 n2 c2 o2 s3 a3 n3 c3 o3 s4 a4 n4 c4 o4 w' X Y HXY.out.1 HXY.out.2 (RA.out w' hb).1.1 (by omega) HC.out.1.1 (RA.out w' hb).1.2 (by omega) HC.out.1.2 (RA.out w' hb).2.1 (by omega) HC.out.2.1 (RA.out w' hb).2.2 (by omega) HC.out.2.2)
    rw [← HE.out.2.1.1, ← HE.out.2.1.2] at R2
    unfold FracF at R2
    have SM2 := Lib.hid (fun (w' : World) (hb : Below V.heap.size V w') (x : Option Addr × Nat × Option Addr × Nat) (hx : FracJ w' (lenB p2.natAbs) (dgi p2.natAbs) (lenB q2.natAbs) (dgi q2.natAbs) x) => sameFrac_any (decide (p2 < 0)) rb x.1 (lenB p2.natAbs) (lenB p2.natAbs) x.2.1 (dgi p2.natAbs) (decide (q2 < 0)) ub x.2.2.1 (lenB q2.natAbs) (lenB q2.natAbs) x.2.2.2 (dgi q2.natAbs) w' (G6.out w' hb) hx.r1 (by have := HLEN.out; omega) (G7.out w' hb) hx.r2 (by have := HLEN.out; omega))
    have R3 := Lib.hid (fun (w' : World) (hb : Below V.heap.size V w') => rfmul_any s1 a1 n1 c1 o1 s2 a2 n2 c2 o2 s3 a3 n3 c3 o3 s4 a4 n4 c4 o4 w' X Y HXY.out.1 HXY.out.2 (RA.out w' hb).1.1 (by omega) HC.out.1.1 (RA.out w' hb).1.2 (by omega) HC.out.1.2 (RA.out w' hb).2.1 (by omega) HC.out.2.1 (RA.out w' hb).2.2 (by omega) HC.out.2.2)
    rw [← HE.out.2.2.1, ← HE.out.2.2.2] at R3
    unfold FracF at R3
    have SM3 := Lib.hid (fun (w' : World) (hb : Below V.heap.size V w') (x : Option Addr × Nat × Option Addr × Nat) (hx : FracJ w' (lenB p3.natAbs) (dgi p3.natAbs) (lenB q3.natAbs) (dgi q3.natAbs) x) => sameFrac_any (decide (p3 < 0)) rc x.1 (lenB p3.natAbs) (lenB p3.natAbs) x.2.1 (dgi p3.natAbs) (decide (q3 < 0)) uc x.2.2.1 (lenB q3.natAbs) (lenB q3.natAbs) x.2.2.2 (dgi q3.natAbs) w' (G8.out w' hb) hx.r1 (by have := HLEN.out; omega) (G9.out w' hb) hx.r2 (by have := HLEN.out; omega))
    have G10 := Lib.hid (fun (w' : World) (hb : Below V.heap.size V w') => ((HA.out.get (i := 10) rfl).below hb).rd)
    have G11 := Lib.hid (fun (w' : World) (hb : Below V.heap.size V w') => ((HA.out.get (i := 11) rfl).below hb).rd)
    have SM4 := Lib.hid (fun (w' : World) (hb : Below V.heap.size V w') => sameFrac_any (decide (p4 < 0)) rd rz (lenB p4.natAbs) (lenB p4.natAbs) cw (dgi p4.natAbs) (decide (q4 < 0)) ud uz (lenB q4.natAbs) (lenB q4.natAbs) dz (dgi q4.natAbs) w' (G10.out w' hb) (HW1.out.below hb).rd (by have := HL4.out; omega) (G11.out w' hb) (HW2.out.below hb).rd (by have := HL4.out; omega))
    have LFX := Lib.hid (fun (w' : World) (hb : Below V.heap.size V w') => leftFrac_any s1 gx1 a1 n1 c1 o1 s2 gx2 a2 n2 c2 o2 w' (HTx1.out.below hb).rd (RA.out w' hb).1.1 (by omega) (HTx2.out.below hb).rd (RA.out w' hb).1.2 (by omega))
    have LFY := Lib.hid (fun (w' : World) (hb : Below V.heap.size V w') => leftFrac_any s3 gy1 a3 n3 c3 o3 s4 gy2 a4 n4 c4 o4 w' (HTy1.out.below hb).rd (RA.out w' hb).2.1 (by omega) (HTy2.out.below hb).rd (RA.out w' hb).2.2 (by omega))
    clear hcz hsz RA G0 G1 G2 G3 G4 G5 G6 G7 G8 G9 G10 G11 HE HXY HTx1 HTx2 HTy1 HTy2 HW1 HW2 HR HC
    generalize decide (p1 < 0) = s1' at *
    generalize decide (q1 < 0) = t1' at *
    generalize lenB p1.natAbs = l1' at *
    generalize lenB q1.natAbs = m1' at *
    generalize dgi p1.natAbs = d1' at *
    generalize dgi q1.natAbs = e1' at *
    generalize decide (p2 < 0) = s2' at *
    generalize decide (q2 < 0) = t2' at *
    generalize lenB p2.natAbs = l2' at *
    generalize lenB q2.natAbs = m2' at *
    generalize dgi p2.natAbs = d2' at *
    generalize dgi q2.natAbs = e2' at *
    generalize decide (p3 < 0) = s3' at *
    generalize decide (q3 < 0) = t3' at *
    generalize lenB p3.natAbs = l3' at *
    generalize lenB q3.natAbs = m3' at *
    generalize dgi p3.natAbs = d3' at *
    generalize dgi q3.natAbs = e3' at *
    generalize decide (p4 < 0) = s4' at *
    generalize decide (q4 < 0) = t4' at *
    generalize lenB p4.natAbs = l4' at *
    generalize lenB q4.natAbs = m4' at *
    generalize dgi p4.natAbs = d4' at *
    generalize dgi q4.natAbs = e4' at *
    refine wp_region_fresh 60 (spOf [(2, Sp.know (.int .i64 cz)), (5, Sp.know (.int .i64 cz)), (9, Sp.know (.int .i64 sz)), (11, Sp.know (.int .i64 sz)), (18, Sp.made (fun x : Option Addr × Nat × Option Addr × Nat => fracV s1' x.1 l1' x.2.1 t1' x.2.2.1 m1' x.2.2.2) (fun x w' => FracJ w' l1' d1' m1' e1' x)), (19, Sp.know (.bool true)), (26, Sp.made (fun x : Option Addr × Nat × Option Addr × Nat => fracV s2' x.1 l2' x.2.1 t2' x.2.2.1 m2' x.2.2.2) (fun x w' => FracJ w' l2' d2' m2' e2' x)), (27, Sp.know (.bool true)), (34, Sp.made (fun x : Option Addr × Nat × Option Addr × Nat => fracV s3' x.1 l3' x.2.1 t3' x.2.2.1 m3' x.2.2.2) (fun x w' => FracJ w' l3' d3' m3' e3' x)), (35, Sp.know (.bool true)), (41, Sp.know (.bool true)), (52, Sp.know (.bool true)), (58, Sp.know (.bool true))])
      (fun w' => Below V.heap.size V w') (by kernel_rfl) (by kernel_rfl)
      (spOf_cons (Sp.know_keeps _) (spOf_cons (Sp.know_keeps _) (spOf_cons (Sp.know_keeps _) (spOf_cons (Sp.know_keeps _) (spOf_cons (Sp.made_keeps fun x w w' h hb => h.below hb) (spOf_cons (Sp.know_keeps _) (spOf_cons (Sp.made_keeps fun x w w' h hb => h.below hb) (spOf_cons (Sp.know_keeps _) (spOf_cons (Sp.made_keeps fun x w w' h hb => h.below hb) (spOf_cons (Sp.know_keeps _) (spOf_cons (Sp.know_keeps _) (spOf_cons (Sp.know_keeps _) (spOf_cons (Sp.know_keeps _) (spOf_nil)))))))))))))) (fun _ _ h hb => h.trans (hb.mono h.size)) ((Below.refl _ _).drew) ?_
    simp only [List.take_succ_cons, List.take_zero, List.drop_succ_cons, List.drop_zero]
    refine wpF_reads rfl rfl ?_ (fun w' hw' => ?_) ?_
    rotate_left
    · have hb' := hw'.world
      have hB := HKx.out.below hb' HKx.out.lt; have hs0 := hB.cell (i := 0) rfl; have hs1 := hB.cell (i := 1) rfl; have hs2 := hB.cell (i := 2) rfl; have hs3 := hB.cell (i := 3) rfl; have hsf := hB.fz; have hsl := hB.lt; clear hB
      clear hw'
      go_simp
      try rfl
    conv => arg 9; simp only [Act.put, List.setIfInBounds_toArray, List.set_cons_succ, List.set_cons_zero]
    refine wpF_reads rfl rfl ?_ (fun w' hw' => ?_) ?_
    rotate_left
    · have hb' := hw'.world
      have hB := HKy.out.below hb' HKy.out.lt; have hs0 := hB.cell (i := 0) rfl; have hs1 := hB.cell (i := 1) rfl; have hs2 := hB.cell (i := 2) rfl; have hs3 := hB.cell (i := 3) rfl; have hsf := hB.fz; have hsl := hB.lt; clear hB
      clear hw'
      go_simp
      try rfl
    conv => arg 9; simp only [Act.put, List.setIfInBounds_toArray, List.set_cons_succ, List.set_cons_zero]
    refine wpF_spec rfl rfl (fun w' hw' => ?_) ?_
    · have hb' := hw'.world
      go_simp
      refine (CMA.out w' hb').mono ?_
      rintro e w'' ⟨rfl, hb⟩
      exact ⟨_, rfl, rfl, hb⟩
    rintro _ rfl
    conv => arg 9; simp only [Act.put, List.setIfInBounds_toArray, List.set_cons_succ, List.set_cons_zero]
    refine wpF_reads rfl rfl ?_ (fun w' hw' => ?_) ?_
    rotate_left
    · have hb' := hw'.world
      have hB := HB1.out.below hb' HB1.out.lt; have hs0 := hB.cell (i := 0) rfl; have hs1 := hB.cell (i := 1) rfl; have hs2 := hB.cell (i := 2) rfl; have hs3 := hB.cell (i := 3) rfl; have hsf := hB.fz; have hsl := hB.lt; clear hB
      clear hw'
      go_simp
      try rfl
    conv => arg 9; simp only [Act.put, List.setIfInBounds_toArray, List.set_cons_succ, List.set_cons_zero]
    refine wpF_reads rfl rfl ?_ (fun w' hw' => ?_) ?_
    rotate_left
    · have hb' := hw'.world
      have hB := HB2.out.below hb' HB2.out.lt; have hs0 := hB.cell (i := 0) rfl; have hs1 := hB.cell (i := 1) rfl; have hs2 := hB.cell (i := 2) rfl; have hs3 := hB.cell (i := 3) rfl; have hsf := hB.fz; have hsl := hB.lt; clear hB
      clear hw'
      go_simp
      try rfl
    conv => arg 9; simp only [Act.put, List.setIfInBounds_toArray, List.set_cons_succ, List.set_cons_zero]
    refine wpF_spec rfl rfl (fun w' hw' => ?_) ?_
    · have hb' := hw'.world
      go_simp
      refine (CMB.out w' hb').mono ?_
      rintro e w'' ⟨rfl, hb⟩
      exact ⟨_, rfl, rfl, hb⟩
    rintro _ rfl
    conv => arg 9; simp only [Act.put, List.setIfInBounds_toArray, List.set_cons_succ, List.set_cons_zero]
    refine wpF_reads rfl rfl ?_ (fun w' hw' => ?_) ?_
    rotate_left
    · have hb' := hw'.world
      skip
      clear hw'
      go_simp
      try rfl
    conv => arg 9; simp only [Act.put, List.setIfInBounds_toArray, List.set_cons_succ, List.set_cons_zero]
    refine wpF_reads rfl rfl ?_ (fun w' hw' => ?_) ?_
    rotate_left
    · have hb' := hw'.world
      skip
      clear hw'
      go_simp
      try rfl
    conv => arg 9; simp only [Act.put, List.setIfInBounds_toArray, List.set_cons_succ, List.set_cons_zero]
    refine wpF_readsG (by rfl) rfl ?_ (fun w' hw' => ?_) ?_
    rotate_left
    · have hb' := hw'.world
      have hB := HKx.out.below hb' HKx.out.lt; have hs0 := hB.cell (i := 0) rfl; have hs1 := hB.cell (i := 1) rfl; have hs2 := hB.cell (i := 2) rfl; have hs3 := hB.cell (i := 3) rfl; have hsf := hB.fz; have hsl := hB.lt; clear hB
      clear hw'
      go_simp
      try rfl
    conv => arg 9; simp only [Act.put, List.setIfInBounds_toArray, List.set_cons_succ, List.set_cons_zero]
    refine wpF_specG (by rfl) rfl (fun w' hw' => ?_) ?_
    · have hb' := hw'.world
      go_simp
      refine (SGA.out w' hb').mono ?_
      rintro e w'' ⟨rfl, hb⟩
      exact ⟨_, rfl, rfl, hb⟩
    rintro _ rfl
    conv => arg 9; simp only [Act.put, List.setIfInBounds_toArray, List.set_cons_succ, List.set_cons_zero]
    refine wpF_readsG (by rfl) rfl ?_ (fun w' hw' => ?_) ?_
    rotate_left
    · have hb' := hw'.world
      have hB := HB1.out.below hb' HB1.out.lt; have hs0 := hB.cell (i := 0) rfl; have hs1 := hB.cell (i := 1) rfl; have hs2 := hB.cell (i := 2) rfl; have hs3 := hB.cell (i := 3) rfl; have hsf := hB.fz; have hsl := hB.lt; clear hB
      clear hw'
      go_simp
      try rfl
    conv => arg 9; simp only [Act.put, List.setIfInBounds_toArray, List.set_cons_succ, List.set_cons_zero]
    refine wpF_specG (by rfl) rfl (fun w' hw' => ?_) ?_
    · have hb' := hw'.world
      go_simp
      refine (SGB.out w' hb').mono ?_
      rintro e w'' ⟨rfl, hb⟩
      exact ⟨_, rfl, rfl, hb⟩
    rintro _ rfl
    conv => arg 9; simp only [Act.put, List.setIfInBounds_toArray, List.set_cons_succ, List.set_cons_zero]
    refine wpF_readsG (by rfl) rfl ?_ (fun w' hw' => ?_) ?_
    rotate_left
    · have hb' := hw'.world
      skip
      clear hw'
      go_simp
      try rfl
    conv => arg 9; simp only [Act.put, List.setIfInBounds_toArray, List.set_cons_succ, List.set_cons_zero]
    refine wpF_reads rfl rfl ?_ (fun w' hw' => ?_) ?_
    rotate_left
    · have hb' := hw'.world
      skip
      clear hw'
      go_simp
      try rfl
    conv => arg 9; simp only [Act.put, List.setIfInBounds_toArray, List.set_cons_succ, List.set_cons_zero]
    refine wpF_reads rfl rfl ?_ (fun w' hw' => ?_) ?_
    rotate_left
    · have hb' := hw'.world
      skip
      clear hw'
      go_simp
      try rfl
    conv => arg 9; simp only [Act.put, List.setIfInBounds_toArray, List.set_cons_succ, List.set_cons_zero]
    refine wpF_readsG (by rfl) rfl ?_ (fun w' hw' => ?_) ?_
    rotate_left
    · have hb' := hw'.world
      have hB := HKa.out.below hb' HKa.out.lt; have hs0 := hB.cell (i := 0) rfl; have hs1 := hB.cell (i := 1) rfl; have hs2 := hB.cell (i := 2) rfl; have hs3 := hB.cell (i := 3) rfl; have hsf := hB.fz; have hsl := hB.lt; clear hB
      clear hw'
      go_simp
      try rfl
    conv => arg 9; simp only [Act.put, List.setIfInBounds_toArray, List.set_cons_succ, List.set_cons_zero]
    refine wpF_readsG (by rfl) rfl ?_ (fun w' hw' => ?_) ?_
    rotate_left
    · have hb' := hw'.world
      have hB := HB1.out.below hb' HB1.out.lt; have hs0 := hB.cell (i := 0) rfl; have hs1 := hB.cell (i := 1) rfl; have hs2 := hB.cell (i := 2) rfl; have hs3 := hB.cell (i := 3) rfl; have hsf := hB.fz; have hsl := hB.lt; clear hB
      clear hw'
      go_simp
      try rfl
    conv => arg 9; simp only [Act.put, List.setIfInBounds_toArray, List.set_cons_succ, List.set_cons_zero]
    refine wpF_readsG (by rfl) rfl ?_ (fun w' hw' => ?_) ?_
    rotate_left
    · have hb' := hw'.world
      have hB := HB2.out.below hb' HB2.out.lt; have hs0 := hB.cell (i := 0) rfl; have hs1 := hB.cell (i := 1) rfl; have hs2 := hB.cell (i := 2) rfl; have hs3 := hB.cell (i := 3) rfl; have hsf := hB.fz; have hsl := hB.lt; clear hB
      clear hw'
      go_simp
      try rfl
    conv => arg 9; simp only [Act.put, List.setIfInBounds_toArray, List.set_cons_succ, List.set_cons_zero]
    refine wpF_specG (by rfl) rfl (fun w' hw' => ?_) ?_
    · have hb' := hw'.world
      go_simp
      refine (R1.out w' hb').mono ?_
      rintro e w'' ⟨za, zb, zc, zd, rfl, h1, h2, hb⟩
      exact ⟨_, rfl, ⟨⟨za, zb, zc, zd, rfl⟩, ⟨za, zb, zc, zd, rfl, ⟨h1.rd, h2.rd⟩⟩⟩, hb⟩
    rintro _ ⟨x, rfl⟩
    conv => arg 9; simp only [Act.put, List.setIfInBounds_toArray, List.set_cons_succ, List.set_cons_zero]
    refine wpF_specG (by rfl) rfl (fun w' hw' => ?_) ?_
    · have hb' := hw'.world
      go_simp
      have h7 := fracJ_of (hw'.fact 18 (by kernel_rfl))
      refine (SM1.out w' hb' x h7).mono ?_
      rintro e w'' ⟨rfl, hb⟩
      exact ⟨_, rfl, rfl, hb⟩
    rintro _ rfl
    conv => arg 9; simp only [Act.put, List.setIfInBounds_toArray, List.set_cons_succ, List.set_cons_zero]
    refine wpF_readsG (by rfl) rfl ?_ (fun w' hw' => ?_) ?_
    rotate_left
    · have hb' := hw'.world
      skip
      clear hw'
      go_simp
      try rfl
    conv => arg 9; simp only [Act.put, List.setIfInBounds_toArray, List.set_cons_succ, List.set_cons_zero]
    refine wpF_reads rfl rfl ?_ (fun w' hw' => ?_) ?_
    rotate_left
    · have hb' := hw'.world
      skip
      clear hw'
      go_simp
      try rfl
    conv => arg 9; simp only [Act.put, List.setIfInBounds_toArray, List.set_cons_succ, List.set_cons_zero]
    refine wpF_reads rfl rfl ?_ (fun w' hw' => ?_) ?_
    rotate_left
    · have hb' := hw'.world
      skip
      clear hw'
      go_simp
      try rfl
    conv => arg 9; simp only [Act.put, List.setIfInBounds_toArray, List.set_cons_succ, List.set_cons_zero]
    refine wpF_readsG (by rfl) rfl ?_ (fun w' hw' => ?_) ?_
    rotate_left
    · have hb' := hw'.world
      have hB := HKb.out.below hb' HKb.out.lt; have hs0 := hB.cell (i := 0) rfl; have hs1 := hB.cell (i := 1) rfl; have hs2 := hB.cell (i := 2) rfl; have hs3 := hB.cell (i := 3) rfl; have hsf := hB.fz; have hsl := hB.lt; clear hB
      clear hw'
      go_simp
      try rfl
    conv => arg 9; simp only [Act.put, List.setIfInBounds_toArray, List.set_cons_succ, List.set_cons_zero]
    refine wpF_readsG (by rfl) rfl ?_ (fun w' hw' => ?_) ?_
    rotate_left
    · have hb' := hw'.world
      have hB := HB1.out.below hb' HB1.out.lt; have hs0 := hB.cell (i := 0) rfl; have hs1 := hB.cell (i := 1) rfl; have hs2 := hB.cell (i := 2) rfl; have hs3 := hB.cell (i := 3) rfl; have hsf := hB.fz; have hsl := hB.lt; clear hB
      clear hw'
      go_simp
      try rfl
    conv => arg 9; simp only [Act.put, List.setIfInBounds_toArray, List.set_cons_succ, List.set_cons_zero]
    refine wpF_readsG (by rfl) rfl ?_ (fun w' hw' => ?_) ?_
    rotate_left
    · have hb' := hw'.world
      have hB := HB2.out.below hb' HB2.out.lt; have hs0 := hB.cell (i := 0) rfl; have hs1 := hB.cell (i := 1) rfl; have hs2 := hB.cell (i := 2) rfl; have hs3 := hB.cell (i := 3) rfl; have hsf := hB.fz; have hsl := hB.lt; clear hB
      clear hw'
      go_simp
      try rfl
    conv => arg 9; simp only [Act.put, List.setIfInBounds_toArray, List.set_cons_succ, List.set_cons_zero]
    refine wpF_specG (by rfl) rfl (fun w' hw' => ?_) ?_
    · have hb' := hw'.world
      go_simp
      refine (R2.out w' hb').mono ?_
      rintro e w'' ⟨za, zb, zc, zd, rfl, h1, h2, hb⟩
      exact ⟨_, rfl, ⟨⟨za, zb, zc, zd, rfl⟩, ⟨za, zb, zc, zd, rfl, ⟨h1.rd, h2.rd⟩⟩⟩, hb⟩
    rintro _ ⟨x, rfl⟩
    conv => arg 9; simp only [Act.put, List.setIfInBounds_toArray, List.set_cons_succ, List.set_cons_zero]
    refine wpF_specG (by rfl) rfl (fun w' hw' => ?_) ?_
    · have hb' := hw'.world
      go_simp
      have h7 := fracJ_of (hw'.fact 26 (by kernel_rfl))
      refine (SM2.out w' hb' x h7).mono ?_
      rintro e w'' ⟨rfl, hb⟩
      exact ⟨_, rfl, rfl, hb⟩
    rintro _ rfl
    conv => arg 9; simp only [Act.put, List.setIfInBounds_toArray, List.set_cons_succ, List.set_cons_zero]
    refine wpF_readsG (by rfl) rfl ?_ (fun w' hw' => ?_) ?_
    rotate_left
    · have hb' := hw'.world
      skip
      clear hw'
      go_simp
      try rfl
    conv => arg 9; simp only [Act.put, List.setIfInBounds_toArray, List.set_cons_succ, List.set_cons_zero]
    refine wpF_reads rfl rfl ?_ (fun w' hw' => ?_) ?_
    rotate_left
    · have hb' := hw'.world
      skip
      clear hw'
      go_simp
      try rfl
    conv => arg 9; simp only [Act.put, List.setIfInBounds_toArray, List.set_cons_succ, List.set_cons_zero]
    refine wpF_reads rfl rfl ?_ (fun w' hw' => ?_) ?_
    rotate_left
    · have hb' := hw'.world
      skip
      clear hw'
      go_simp
      try rfl
    conv => arg 9; simp only [Act.put, List.setIfInBounds_toArray, List.set_cons_succ, List.set_cons_zero]
    refine wpF_readsG (by rfl) rfl ?_ (fun w' hw' => ?_) ?_
    rotate_left
    · have hb' := hw'.world
      have hB := HKc.out.below hb' HKc.out.lt; have hs0 := hB.cell (i := 0) rfl; have hs1 := hB.cell (i := 1) rfl; have hs2 := hB.cell (i := 2) rfl; have hs3 := hB.cell (i := 3) rfl; have hsf := hB.fz; have hsl := hB.lt; clear hB
      clear hw'
      go_simp
      try rfl
    conv => arg 9; simp only [Act.put, List.setIfInBounds_toArray, List.set_cons_succ, List.set_cons_zero]
    refine wpF_readsG (by rfl) rfl ?_ (fun w' hw' => ?_) ?_
    rotate_left
    · have hb' := hw'.world
      have hB := HB1.out.below hb' HB1.out.lt; have hs0 := hB.cell (i := 0) rfl; have hs1 := hB.cell (i := 1) rfl; have hs2 := hB.cell (i := 2) rfl; have hs3 := hB.cell (i := 3) rfl; have hsf := hB.fz; have hsl := hB.lt; clear hB
      clear hw'
      go_simp
      try rfl
    conv => arg 9; simp only [Act.put, List.setIfInBounds_toArray, List.set_cons_succ, List.set_cons_zero]
    refine wpF_readsG (by rfl) rfl ?_ (fun w' hw' => ?_) ?_
    rotate_left
    · have hb' := hw'.world
      have hB := HB2.out.below hb' HB2.out.lt; have hs0 := hB.cell (i := 0) rfl; have hs1 := hB.cell (i := 1) rfl; have hs2 := hB.cell (i := 2) rfl; have hs3 := hB.cell (i := 3) rfl; have hsf := hB.fz; have hsl := hB.lt; clear hB
      clear hw'
      go_simp
      try rfl
    conv => arg 9; simp only [Act.put, List.setIfInBounds_toArray, List.set_cons_succ, List.set_cons_zero]
    refine wpF_specG (by rfl) rfl (fun w' hw' => ?_) ?_
    · have hb' := hw'.world
      go_simp
      refine (R3.out w' hb').mono ?_
      rintro e w'' ⟨za, zb, zc, zd, rfl, h1, h2, hb⟩
      exact ⟨_, rfl, ⟨⟨za, zb, zc, zd, rfl⟩, ⟨za, zb, zc, zd, rfl, ⟨h1.rd, h2.rd⟩⟩⟩, hb⟩
    rintro _ ⟨x, rfl⟩
    conv => arg 9; simp only [Act.put, List.setIfInBounds_toArray, List.set_cons_succ, List.set_cons_zero]
    refine wpF_specG (by rfl) rfl (fun w' hw' => ?_) ?_
    · have hb' := hw'.world
      go_simp
      have h7 := fracJ_of (hw'.fact 34 (by kernel_rfl))
      refine (SM3.out w' hb' x h7).mono ?_
      rintro e w'' ⟨rfl, hb⟩
      exact ⟨_, rfl, rfl, hb⟩
    rintro _ rfl
    conv => arg 9; simp only [Act.put, List.setIfInBounds_toArray, List.set_cons_succ, List.set_cons_zero]
    refine wpF_readsG (by rfl) rfl ?_ (fun w' hw' => ?_) ?_
    rotate_left
    · have hb' := hw'.world
      skip
      clear hw'
      go_simp
      try rfl
    conv => arg 9; simp only [Act.put, List.setIfInBounds_toArray, List.set_cons_succ, List.set_cons_zero]
    refine wpF_reads rfl rfl ?_ (fun w' hw' => ?_) ?_
    rotate_left
    · have hb' := hw'.world
      skip
      clear hw'
      go_simp
      try rfl
    conv => arg 9; simp only [Act.put, List.setIfInBounds_toArray, List.set_cons_succ, List.set_cons_zero]
    refine wpF_reads rfl rfl ?_ (fun w' hw' => ?_) ?_
    rotate_left
    · have hb' := hw'.world
      skip
      clear hw'
      go_simp
      try rfl
    conv => arg 9; simp only [Act.put, List.setIfInBounds_toArray, List.set_cons_succ, List.set_cons_zero]
    refine wpF_readsG (by rfl) rfl ?_ (fun w' hw' => ?_) ?_
    rotate_left
    · have hb' := hw'.world
      have hB := HKd.out.below hb' HKd.out.lt; have hs0 := hB.cell (i := 0) rfl; have hs1 := hB.cell (i := 1) rfl; have hs2 := hB.cell (i := 2) rfl; have hs3 := hB.cell (i := 3) rfl; have hsf := hB.fz; have hsl := hB.lt; clear hB
      clear hw'
      go_simp
      try rfl
    conv => arg 9; simp only [Act.put, List.setIfInBounds_toArray, List.set_cons_succ, List.set_cons_zero]
    refine wpF_readsG (by rfl) rfl ?_ (fun w' hw' => ?_) ?_
    rotate_left
    · have hb' := hw'.world
      have hB := HKw.out.below hb' HKw.out.lt; have hs0 := hB.cell (i := 0) rfl; have hs1 := hB.cell (i := 1) rfl; have hs2 := hB.cell (i := 2) rfl; have hs3 := hB.cell (i := 3) rfl; have hsf := hB.fz; have hsl := hB.lt; clear hB
      clear hw'
      go_simp
      try rfl
    conv => arg 9; simp only [Act.put, List.setIfInBounds_toArray, List.set_cons_succ, List.set_cons_zero]
    refine wpF_specG (by rfl) rfl (fun w' hw' => ?_) ?_
    · have hb' := hw'.world
      go_simp
      refine (SM4.out w' hb').mono ?_
      rintro e w'' ⟨rfl, hb⟩
      exact ⟨_, rfl, rfl, hb⟩
    rintro _ rfl
    conv => arg 9; simp only [Act.put, List.setIfInBounds_toArray, List.set_cons_succ, List.set_cons_zero]
    refine wpF_readsG (by rfl) rfl ?_ (fun w' hw' => ?_) ?_
    rotate_left
    · have hb' := hw'.world
      skip
      clear hw'
      go_simp
      try rfl
    conv => arg 9; simp only [Act.put, List.setIfInBounds_toArray, List.set_cons_succ, List.set_cons_zero]
    refine wpF_reads rfl rfl ?_ (fun w' hw' => ?_) ?_
    rotate_left
    · have hb' := hw'.world
      skip
      clear hw'
      go_simp
      try rfl
    conv => arg 9; simp only [Act.put, List.setIfInBounds_toArray, List.set_cons_succ, List.set_cons_zero]
    refine wpF_reads rfl rfl ?_ (fun w' hw' => ?_) ?_
    rotate_left
    · have hb' := hw'.world
      skip
      clear hw'
      go_simp
      try rfl
    conv => arg 9; simp only [Act.put, List.setIfInBounds_toArray, List.set_cons_succ, List.set_cons_zero]
    refine wpF_readsG (by rfl) rfl ?_ (fun w' hw' => ?_) ?_
    rotate_left
    · have hb' := hw'.world
      skip
      clear hw'
      go_simp
      try rfl
    conv => arg 9; simp only [Act.put, List.setIfInBounds_toArray, List.set_cons_succ, List.set_cons_zero]
    refine wpF_readsG (by rfl) rfl ?_ (fun w' hw' => ?_) ?_
    rotate_left
    · have hb' := hw'.world
      skip
      clear hw'
      go_simp
      try rfl
    conv => arg 9; simp only [Act.put, List.setIfInBounds_toArray, List.set_cons_succ, List.set_cons_zero]
    refine wpF_readsG (by rfl) rfl ?_ (fun w' hw' => ?_) ?_
    rotate_left
    · have hb' := hw'.world
      skip
      clear hw'
      go_simp
      try rfl
    conv => arg 9; simp only [Act.put, List.setIfInBounds_toArray, List.set_cons_succ, List.set_cons_zero]
    refine wpF_reads rfl rfl ?_ (fun w' hw' => ?_) ?_
    rotate_left
    · have hb' := hw'.world
      skip
      clear hw'
      go_simp
      try rfl
    conv => arg 9; simp only [Act.put, List.setIfInBounds_toArray, List.set_cons_succ, List.set_cons_zero]
    refine wpF_reads rfl rfl ?_ (fun w' hw' => ?_) ?_
    rotate_left
    · have hb' := hw'.world
      skip
      clear hw'
      go_simp
      try rfl
    conv => arg 9; simp only [Act.put, List.setIfInBounds_toArray, List.set_cons_succ, List.set_cons_zero]
    refine wpF_readsG (by rfl) rfl ?_ (fun w' hw' => ?_) ?_
    rotate_left
    · have hb' := hw'.world
      have hB := HKx.out.below hb' HKx.out.lt; have hs0 := hB.cell (i := 0) rfl; have hs1 := hB.cell (i := 1) rfl; have hs2 := hB.cell (i := 2) rfl; have hs3 := hB.cell (i := 3) rfl; have hsf := hB.fz; have hsl := hB.lt; clear hB
      clear hw'
      go_simp
      try rfl
    conv => arg 9; simp only [Act.put, List.setIfInBounds_toArray, List.set_cons_succ, List.set_cons_zero]
    refine wpF_readsG (by rfl) rfl ?_ (fun w' hw' => ?_) ?_
    rotate_left
    · have hb' := hw'.world
      have hB := HB1.out.below hb' HB1.out.lt; have hs0 := hB.cell (i := 0) rfl; have hs1 := hB.cell (i := 1) rfl; have hs2 := hB.cell (i := 2) rfl; have hs3 := hB.cell (i := 3) rfl; have hsf := hB.fz; have hsl := hB.lt; clear hB
      clear hw'
      go_simp
      try rfl
    conv => arg 9; simp only [Act.put, List.setIfInBounds_toArray, List.set_cons_succ, List.set_cons_zero]
    refine wpF_specG (by rfl) rfl (fun w' hw' => ?_) ?_
    · have hb' := hw'.world
      go_simp
      refine (LFX.out w' hb').mono ?_
      rintro e w'' ⟨rfl, hb⟩
      exact ⟨_, rfl, rfl, hb⟩
    rintro _ rfl
    conv => arg 9; simp only [Act.put, List.setIfInBounds_toArray, List.set_cons_succ, List.set_cons_zero]
    refine wpF_readsG (by rfl) rfl ?_ (fun w' hw' => ?_) ?_
    rotate_left
    · have hb' := hw'.world
      skip
      clear hw'
      go_simp
      try rfl
    conv => arg 9; simp only [Act.put, List.setIfInBounds_toArray, List.set_cons_succ, List.set_cons_zero]
    refine wpF_reads rfl rfl ?_ (fun w' hw' => ?_) ?_
    rotate_left
    · have hb' := hw'.world
      skip
      clear hw'
      go_simp
      try rfl
    conv => arg 9; simp only [Act.put, List.setIfInBounds_toArray, List.set_cons_succ, List.set_cons_zero]
    refine wpF_reads rfl rfl ?_ (fun w' hw' => ?_) ?_
    rotate_left
    · have hb' := hw'.world
      skip
      clear hw'
      go_simp
      try rfl
    conv => arg 9; simp only [Act.put, List.setIfInBounds_toArray, List.set_cons_succ, List.set_cons_zero]
    refine wpF_readsG (by rfl) rfl ?_ (fun w' hw' => ?_) ?_
    rotate_left
    · have hb' := hw'.world
      have hB := HKy.out.below hb' HKy.out.lt; have hs0 := hB.cell (i := 0) rfl; have hs1 := hB.cell (i := 1) rfl; have hs2 := hB.cell (i := 2) rfl; have hs3 := hB.cell (i := 3) rfl; have hsf := hB.fz; have hsl := hB.lt; clear hB
      clear hw'
      go_simp
      try rfl
    conv => arg 9; simp only [Act.put, List.setIfInBounds_toArray, List.set_cons_succ, List.set_cons_zero]
    refine wpF_readsG (by rfl) rfl ?_ (fun w' hw' => ?_) ?_
    rotate_left
    · have hb' := hw'.world
      have hB := HB2.out.below hb' HB2.out.lt; have hs0 := hB.cell (i := 0) rfl; have hs1 := hB.cell (i := 1) rfl; have hs2 := hB.cell (i := 2) rfl; have hs3 := hB.cell (i := 3) rfl; have hsf := hB.fz; have hsl := hB.lt; clear hB
      clear hw'
      go_simp
      try rfl
    conv => arg 9; simp only [Act.put, List.setIfInBounds_toArray, List.set_cons_succ, List.set_cons_zero]
    refine wpF_specG (by rfl) rfl (fun w' hw' => ?_) ?_
    · have hb' := hw'.world
      go_simp
      refine (LFY.out w' hb').mono ?_
      rintro e w'' ⟨rfl, hb⟩
      exact ⟨_, rfl, rfl, hb⟩
    rintro _ rfl
    conv => arg 9; simp only [Act.put, List.setIfInBounds_toArray, List.set_cons_succ, List.set_cons_zero]
    refine wpF_readsG (by rfl) rfl ?_ (fun w' hw' => ?_) ?_
    rotate_left
    · have hb' := hw'.world
      skip
      clear hw'
      go_simp
      try rfl
    conv => arg 9; simp only [Act.put, List.setIfInBounds_toArray, List.set_cons_succ, List.set_cons_zero]
    refine wpF_nil (fun w5 hb5 hF5 => ?_)
    have HA := Lib.hid (HA.out.below hb5)
    have HG := Lib.hid (HG.out.trans (hb5.mono HG.out.size))
    have HLO := Lib.hid (And.intro HLO.out.1 (Nat.le_trans HLO.out.2 hb5.size))
    have HKx := Lib.hid (HKx.out.below hb5 HKx.out.lt)
    have HKy := Lib.hid (HKy.out.below hb5 HKy.out.lt)
    have HKa := Lib.hid (HKa.out.below hb5 HKa.out.lt)
    have HKb := Lib.hid (HKb.out.below hb5 HKb.out.lt)
    have HKc := Lib.hid (HKc.out.below hb5 HKc.out.lt)
    have HKd := Lib.hid (HKd.out.below hb5 HKd.out.lt)
    clear hF5 hb5 CMA CMB SGA SGB R1 R2 R3 SM1 SM2 SM3 SM4 LFX LFY HB1 HB2 HKw
    go_upto_region 13 with (fail)
    obtain ⟨W, hW⟩ : ∃ W, W = w5.alloc (.cells #[.int .i64 0, .slice none 0 0, .slice none 0 0, .slice none 0 0, .slice none 0 0, .slice none 0 0, .slice none 0 0, .slice none 0 0, .slice none 0 0, .slice none 0 0, .slice none 0 0, .slice none 0 0, .slice none 0 0] 47) := ⟨_, rfl⟩
    have HK := Lib.hid (book_nw w5)
    have HW := Lib.hid (show Below w5.heap.size w5 (w5.alloc (.cells #[.int .i64 0, .slice none 0 0, .slice none 0 0, .slice none 0 0, .slice none 0 0, .slice none 0 0, .slice none 0 0, .slice none 0 0, .slice none 0 0, .slice none 0 0, .slice none 0 0, .slice none 0 0, .slice none 0 0] 47)) from (Below.refl _ _).alloc (Nat.le_refl _) _)
    rw [← hW] at HK HW
    rw [show w5.alloc (.cells #[.int .i64 0, .slice none 0 0, .slice none 0 0, .slice none 0 0, .slice none 0 0, .slice none 0 0, .slice none 0 0, .slice none 0 0, .slice none 0 0, .slice none 0 0, .slice none 0 0, .slice none 0 0, .slice none 0 0] 47) = W from hW.symm]
    clear hW
    obtain ⟨B, hB⟩ : ∃ B, B = w5.heap.size := ⟨_, rfl⟩
    rw [← hB] at HK HW
    rw [← hB]
    have HBe := Lib.hid hB
    clear hB
    have hbz : B ≤ W.heap.size := Nat.le_trans (by rw [HBe.out]; exact Nat.le_refl _) HW.out.size
    have hBX := HKx.out.below (by rw [← HBe.out]; exact HW.out) HKx.out.lt
    have x0 := hBX.cell (i := 0) rfl
    have x1 := hBX.cell (i := 1) rfl
    have x2 := hBX.cell (i := 2) rfl
    have x3 := hBX.cell (i := 3) rfl
    have x4 := hBX.fz
    have x5 := hBX.lt
    have NM := Lib.hid (bookFrac_any B 0 _ _ s1 (some ⟨gx1, 0, none⟩) n1 (n1 + 1) s2 (some ⟨gx2, 0, none⟩) n2 (n2 + 1) W (by omega) HK.out hbz)
    clear hBX
    go_wp2_with fail
    with_reducible refine NM.out.mono ?_
    rintro e W' hk
    obtain ⟨⟨u, rfl⟩, v', hk1, hk2⟩ := hk
    have HK := Lib.hid hk1
    have HW := Lib.hid (HW.out.trans hk2)
    clear hk1 hk2 NM x0 x1 x2 x3 x4 x5 hbz
    obtain ⟨W, rfl⟩ : ∃ W, W = W' := ⟨_, rfl⟩
    have hbz : B ≤ W.heap.size := Nat.le_trans (by rw [HBe.out]; exact Nat.le_refl _) HW.out.size
    have hBX := HKy.out.below (by rw [← HBe.out]; exact HW.out) HKy.out.lt
    have x0 := hBX.cell (i := 0) rfl
    have x1 := hBX.cell (i := 1) rfl
    have x2 := hBX.cell (i := 2) rfl
    have x3 := hBX.cell (i := 3) rfl
    have x4 := hBX.fz
    have x5 := hBX.lt
    have NM := Lib.hid (bookFrac_any B 2 _ _ s3 (some ⟨gy1, 0, none⟩) n3 (n3 + 1) s4 (some ⟨gy2, 0, none⟩) n4 (n4 + 1) W (by omega) HK.out hbz)
    clear hBX
    go_wp2_with fail
    with_reducible refine NM.out.mono ?_
    rintro e W' hk
    obtain ⟨⟨u, rfl⟩, v', hk1, hk2⟩ := hk
    have HK := Lib.hid hk1
    have HW := Lib.hid (HW.out.trans hk2)
    clear hk1 hk2 NM x0 x1 x2 x3 x4 x5 hbz
    obtain ⟨W, rfl⟩ : ∃ W, W = W' := ⟨_, rfl⟩
    have hbz : B ≤ W.heap.size := Nat.le_trans (by rw [HBe.out]; exact Nat.le_refl _) HW.out.size
    have hBX := HKa.out.below (by rw [← HBe.out]; exact HW.out) HKa.out.lt
    have x0 := hBX.cell (i := 0) rfl
    have x1 := hBX.cell (i := 1) rfl
    have x2 := hBX.cell (i := 2) rfl
    have x3 := hBX.cell (i := 3) rfl
    have x4 := hBX.fz
    have x5 := hBX.lt
    have NM := Lib.hid (bookFrac_any B 4 _ _ s1' ra l1' l1' t1' ua m1' m1' W (by omega) HK.out hbz)
    clear hBX
    go_wp2_with fail
    with_reducible refine NM.out.mono ?_
    rintro e W' hk
    obtain ⟨⟨u, rfl⟩, v', hk1, hk2⟩ := hk
    have HK := Lib.hid hk1
    have HW := Lib.hid (HW.out.trans hk2)
    clear hk1 hk2 NM x0 x1 x2 x3 x4 x5 hbz
    obtain ⟨W, rfl⟩ : ∃ W, W = W' := ⟨_, rfl⟩
    have hbz : B ≤ W.heap.size := Nat.le_trans (by rw [HBe.out]; exact Nat.le_refl _) HW.out.size
    have hBX := HKb.out.below (by rw [← HBe.out]; exact HW.out) HKb.out.lt
    have x0 := hBX.cell (i := 0) rfl
    have x1 := hBX.cell (i := 1) rfl
    have x2 := hBX.cell (i := 2) rfl
    have x3 := hBX.cell (i := 3) rfl
    have x4 := hBX.fz
    have x5 := hBX.lt
    have NM := Lib.hid (bookFrac_any B 6 _ _ s2' rb l2' l2' t2' ub m2' m2' W (by omega) HK.out hbz)
    clear hBX
    go_wp2_with fail
    with_reducible refine NM.out.mono ?_
    rintro e W' hk
    obtain ⟨⟨u, rfl⟩, v', hk1, hk2⟩ := hk
    have HK := Lib.hid hk1
    have HW := Lib.hid (HW.out.trans hk2)
    clear hk1 hk2 NM x0 x1 x2 x3 x4 x5 hbz
    obtain ⟨W, rfl⟩ : ∃ W, W = W' := ⟨_, rfl⟩
    have hbz : B ≤ W.heap.size := Nat.le_trans (by rw [HBe.out]; exact Nat.le_refl _) HW.out.size
    have hBX := HKc.out.below (by rw [← HBe.out]; exact HW.out) HKc.out.lt
    have x0 := hBX.cell (i := 0) rfl
    have x1 := hBX.cell (i := 1) rfl
    have x2 := hBX.cell (i := 2) rfl
    have x3 := hBX.cell (i := 3) rfl
    have x4 := hBX.fz
    have x5 := hBX.lt
    have NM := Lib.hid (bookFrac_any B 8 _ _ s3' rc l3' l3' t3' uc m3' m3' W (by omega) HK.out hbz)
    clear hBX
    go_wp2_with fail
    with_reducible refine NM.out.mono ?_
    rintro e W' hk
    obtain ⟨⟨u, rfl⟩, v', hk1, hk2⟩ := hk
    have HK := Lib.hid hk1
    have HW := Lib.hid (HW.out.trans hk2)
    clear hk1 hk2 NM x0 x1 x2 x3 x4 x5 hbz
    obtain ⟨W, rfl⟩ : ∃ W, W = W' := ⟨_, rfl⟩
    have hbz : B ≤ W.heap.size := Nat.le_trans (by rw [HBe.out]; exact Nat.le_refl _) HW.out.size
    have hBX := HKd.out.below (by rw [← HBe.out]; exact HW.out) HKd.out.lt
    have x0 := hBX.cell (i := 0) rfl
    have x1 := hBX.cell (i := 1) rfl
    have x2 := hBX.cell (i := 2) rfl
    have x3 := hBX.cell (i := 3) rfl
    have x4 := hBX.fz
    have x5 := hBX.lt
    have NM := Lib.hid (bookFrac_any B 10 _ _ s4' rd l4' l4' t4' ud m4' m4' W (by omega) HK.out hbz)
    clear hBX
    go_wp2_with fail
    with_reducible refine NM.out.mono ?_
    rintro e W' hk
    obtain ⟨⟨u, rfl⟩, v', hk1, hk2⟩ := hk
    have HK := Lib.hid hk1
    have HW := Lib.hid (HW.out.trans hk2)
    clear hk1 hk2 NM x0 x1 x2 x3 x4 x5 hbz
    obtain ⟨W, rfl⟩ : ∃ W, W = W' := ⟨_, rfl⟩
    have AP := Lib.hid (apart_own (w0 := w) HA.out HBe.out.symm HW.out HK.out rfl (Nat.zero_lt_succ 11) (show 12 ≤ 1000 by omega) (by
      intro x hx
      simp only [List.mem_cons, List.mem_nil_iff, or_false] at hx
      have h1 := HLEN.out
      have h2 := HL4.out
      rcases hx with rfl | rfl | rfl | rfl | rfl | rfl | rfl | rfl | rfl | rfl | rfl | rfl <;> dsimp only <;> omega) HLO.out.1 (by rw [HBe.out]; exact HLO.out.2) (HG.out.trans (HW.out.mono (by rw [HBe.out]; exact HG.out.size))) (Nat.le_trans (Nat.le_trans HG.out.size (by rw [← HBe.out]; exact Nat.le_refl _)) (Nat.le_trans (by rw [HBe.out]; exact Nat.le_refl _) HW.out.size)))
    go_wp2_with fail
    with_reducible refine AP.out.mono ?_
    rintro e W' ⟨rfl, hb⟩
    have HF := Lib.hid hb
    clear hb AP
    go_wp2_with fail
    go_ret
    exact ⟨rfl, HF.out⟩
end Go.Proofs.YtaagegcidbgjmaaGreatDoor.Limb
namespace Go.Proofs.YtaagegcidbgjmaaGreatDoor.Limb
open Go.RowKit Go.Sort

/-! ### The row and the card -/
open Go.ChangeShapes Go.WideShapes Go.ChangeAt
namespace FracsPairsC
theorem own : ownKnob Tryz.prog.godebug = none := by kernel_rfl
theorem laidOut : laidOutB Tryz.prog = true := by kernel_rfl

/-- A WORLD FOR THE WITNESS: the settled one, the tables holding what their initialisers lay. -/
noncomputable def laidWorld (os : Os) : World :=
  { World.holding Tryz.prog os ⟨#[], #[], []⟩ with heap := ((((World.holding Tryz.prog os ⟨#[], #[], []⟩).heap.modify 0 fun
      | .cells _ t frozen => .cells #[.int .u64 1, .int .u64 10, .int .u64 100, .int .u64 1000, .int .u64 10000, .int .u64 100000, .int .u64 1000000, .int .u64 10000000, .int .u64 100000000, .int .u64 1000000000, .int .u64 10000000000, .int .u64 100000000000, .int .u64 1000000000000, .int .u64 10000000000000, .int .u64 100000000000000, .int .u64 1000000000000000, .int .u64 10000000000000000, .int .u64 100000000000000000, .int .u64 1000000000000000000, .int .u64 10000000000000000000] t frozen
      | o => o).modify 1 fun
      | .cells _ t frozen => .cells #[.int .u8 0, .int .u8 1, .int .u8 28, .int .u8 2, .int .u8 29, .int .u8 14, .int .u8 24, .int .u8 3, .int .u8 30, .int .u8 22, .int .u8 20, .int .u8 15, .int .u8 25, .int .u8 17, .int .u8 4, .int .u8 8, .int .u8 31, .int .u8 27, .int .u8 13, .int .u8 23, .int .u8 21, .int .u8 19, .int .u8 16, .int .u8 7, .int .u8 26, .int .u8 12, .int .u8 18, .int .u8 6, .int .u8 11, .int .u8 5, .int .u8 10, .int .u8 9] t frozen
      | o => o).modify 2 fun
      | .cells _ t frozen => .cells #[.int .u8 0, .int .u8 1, .int .u8 56, .int .u8 2, .int .u8 57, .int .u8 49, .int .u8 28, .int .u8 3, .int .u8 61, .int .u8 58, .int .u8 42, .int .u8 50, .int .u8 38, .int .u8 29, .int .u8 17, .int .u8 4, .int .u8 62, .int .u8 47, .int .u8 59, .int .u8 36, .int .u8 45, .int .u8 43, .int .u8 51, .int .u8 22, .int .u8 53, .int .u8 39, .int .u8 33, .int .u8 30, .int .u8 24, .int .u8 18, .int .u8 12, .int .u8 5, .int .u8 63, .int .u8 55, .int .u8 48, .int .u8 27, .int .u8 60, .int .u8 41, .int .u8 37, .int .u8 16, .int .u8 46, .int .u8 35, .int .u8 44, .int .u8 21, .int .u8 52, .int .u8 32, .int .u8 23, .int .u8 11, .int .u8 54, .int .u8 26, .int .u8 40, .int .u8 15, .int .u8 34, .int .u8 20, .int .u8 31, .int .u8 10, .int .u8 25, .int .u8 14, .int .u8 19, .int .u8 9, .int .u8 13, .int .u8 8, .int .u8 7, .int .u8 6] t frozen
      | o => o) }
noncomputable def witArgs : Array Value := #[fracV false none 0 0 false none 0 0, fracV false none 0 0 false none 0 0]
theorem laid_met (os : Os) : laidMet Tryz.prog Rows.fracsPairsRow.laid ((laidWorld os).forCall (fun _ _ => 0) ⟨#[], witArgs, []⟩).memory :=
  laidMet_of_run' 8 (by kernel_rfl) (by kernel_rfl)
theorem reads (os : Os) {H : Type} (enc : TypeId × Value → H) : ∃ places, DataW.whole enc Tryz.prog ((laidWorld os).forCall (fun _ _ => 0) ⟨#[], witArgs, []⟩).memory Tryz.f4.params.toList Rows.fracsPairsSpec.vars false witArgs.toList 8 = some ([.agg [.agg [.lit (.bool false), .nil], .agg [.lit (.bool false), .nil]], .agg [.agg [.lit (.bool false), .nil], .agg [.lit (.bool false), .nil]]], [], places) :=
  ⟨[], by kernel_rfl⟩

set_option maxRecDepth 100000 in
theorem lifted (os : Os) (started : os.Started) (H : Type) (enc : TypeId × Value → H) (F : Stop.Interp) :
    ReturnsInHanded {} Tryz.checked os 4 .any ((OpenSpec.ofChange Rows.fracsPairsSpec).preRow enc Tryz.prog Tryz.f4 Rows.fracsPairsRow.domain false Rows.fracsPairsRow.laid) (((OpenSpec.ofChange Rows.fracsPairsSpec).at F).post enc Tryz.prog Tryz.f4 false true false false) := by
  obtain ⟨places, hx⟩ := reads os enc
  refine returnsInHanded_of_row (C := Tryz.checked) (s := OpenSpec.ofChange Rows.fracsPairsSpec) own started (by kernel_rfl) Tryz.func4
    (witness_row_at (enc := enc) (C := Tryz.checked) false (laidWorld os) witArgs rfl (by kernel_rfl) (by kernel_rfl) (by kernel_rfl)
      (OpenSpec.preRow_of_cond 8 hx (by kernel_rfl) (fun k hk => by cases hk) (by kernel_rfl) (laid_met os))) ?_
  intro W base args ds gs before hval0 hW _ _ _ _ _ _
  have hval : ∀ (j : Nat) t v, Tryz.f4.params[j]? = some t → args[j]? = some v → Value.okWide Tryz.prog W .any base t v := hval0
  have hW' := hW
  obtain ⟨p, q, hA0, hV, rfl, hfz, hnd⟩ := hW
  have hA : DataW.TrodAll enc Tryz.prog W 0 (fun _ => true) true Tryz.f4.params.toList args.toList ds p := hA0
  rw [Tryz.params4] at hA hval
  obtain ⟨v0, v1, d0, d1, p0, p1, rfl, rfl, rfl, h0, h1⟩ := trodAll_two hA
  obtain ⟨rfl, rfl⟩ := trodVars_none hV
  obtain ⟨s1, a1, n1, c1, o1, s2, a2, n2, c2, o2, rfl, r1, l1, r2, l2⟩ := open_frac (hval 0 27 v0 rfl rfl) h0
  obtain ⟨s3, a3, n3, c3, o3, s4, a4, n4, c4, o4, rfl, r3, l3, r4, l4⟩ := open_frac (hval 1 27 v1 rfl rfl) h1
  refine (fracsPairs_law s1 a1 n1 c1 o1 s2 a2 n2 c2 o2 s3 a3 n3 c3 o3 s4 a4 n4 c4 o4 W r1 l1 r2 l2 r3 l3 r4 l4).mono fun e W' ⟨he, hg⟩ => ?_
  subst he
  exact ⟨_, rfl, LawPost.law_post laidOut (by kernel_rfl) (by kernel_rfl) Tryz.underlying4 hW' rfl rfl hg⟩

theorem said : Rows.FracsPairsSaid :=
  OpenClaim.holds_of_cond 4 Tryz.f4 rfl rfl rfl rfl rfl rfl rfl ⟨rfl, rfl, rfl, rfl, rfl⟩ rfl rfl rfl rfl rfl (by kernel_rfl) Tryz.func4 (by kernel_rfl)
    (of_decide_eq_true (by kernel_rfl)) (by unfold Func.isWrapper; first | (rw [if_pos (by decide +kernel)]; kernel_rfl) | (rw [if_neg (by decide +kernel)]; exact ⟨rfl, rfl⟩))
    (fun os started H enc _ F => by rw [OpenClaim.pre_eq_preRow]; exact lifted os started H enc F)

/-- No parameter wants a stand-in; the program's own looks are off: what the card asks. -/
theorem plain (f : FuncId) (fn : Func) (hf : Tryz.pinned.checked.prog.funcNamed "reckoner/reckonerlaw02.FracsPairs" = some f) (hfn : Tryz.pinned.checked.prog.funcs[f]? = some fn) :
    false = Tryz.pinned.checked.prog.looks [] ∧ ∀ (j : Nat) t, fn.params[j]? = some t → Tryz.pinned.checked.prog.wantsStandIn t = false := by
  obtain rfl : f = 4 := Option.some.inj ((show Tryz.prog.funcNamed "reckoner/reckonerlaw02.FracsPairs" = some 4 by kernel_rfl).symm.trans hf) |>.symm
  obtain rfl : fn = Tryz.f4 := (Option.some.inj (Tryz.func4.symm.trans hfn)).symm
  refine ⟨by kernel_rfl, fun j t ht => ?_⟩
  rw [Tryz.params4] at ht
  obtain rfl : t = 27 := by simpa using Array.mem_of_getElem? ht
  exact (show Tryz.prog.wantsStandIn 27 = false by kernel_rfl)

/-- The card. -/
theorem card : Rows.FracsPairsCardSaid :=
  Claim7.holds_tied_plain_at .later [] _ _ _ _ said (fun _ h => by cases h) (by kernel_rfl) (fun _ h => by cases h) fracsPairs_row_tie rfl ⟨rfl, rfl⟩ (by kernel_rfl) rfl plain (by kernel_rfl)
#print axioms card
end FracsPairsC
end Go.Proofs.YtaagegcidbgjmaaGreatDoor.Limb
