/-
  The law LimbsNone: whatever it is handed, it returns true, and what it was handed reads behind the call as it read before; the card ties the listed tables to the program's text.
-/
import Derived.Test.YtkpajfjjhbbieaaGreatDoorPoH
import Derived.Test.YtkpajfjjhbbieaaGreatDoorCards
import Derived.Test.YtkpajfjjhbbieaaGreatDoorTie
import Derived.Lay
import Derived.MakeChecks
import Derived.Stop.LaidErr
import Derived.Deep.DeepWitnessRowRef
import Derived.WalkKit
import Derived.ProofKit
import Derived.OpenShut
import Derived.Deep.DeepHandedRow
import Derived.Lib.LaidTab
set_option linter.unusedSimpArgs false
set_option linter.unusedVariables false
namespace Go.Proofs.YtkpajfjjhbbieaaGreatDoor.Limb
open Go.RowKit Go.Sort

set_option maxRecDepth 100000 in
set_option maxHeartbeats 8000000 in
theorem none_great (x1 : NV) (p1 : Int) (o : Nat → Int) (k : Int) (w : World) (htab : Tab w) (hr : Rd w x1.a x1.n o) (h1 : AN w x1 p1) (hg : 60 < x1.n) :
    Calls Tryz.prog 11 #[x1.v, .int .u8 k] w fun e w' => e = .returned (.bool true) ∧ Below w.heap.size w w' := by
  have HT := Lib.hid htab
  have KG := Lib.hid (Below.refl w.heap.size w)
  have R1 := Lib.hid hr
  have N1 := Lib.hid h1
  have LZp1 := Lib.hid h1.len
  have HG := Lib.hid hg
  clear htab hr h1 hg
  go_enter Tryz.func11, Tryz.ntmps11
  go_upto_region 1 with (fail)
  obtain ⟨v2, hV⟩ : ∃ V, V = w.alloc (.cells #[.bool x1.s, .slice x1.a x1.n x1.c] 24) := ⟨_, rfl⟩
  have hbV : Below w.heap.size w v2 := by rw [hV]; exact ((Below.refl _ _).alloc (Nat.le_refl _) _)
  have BX1 := Lib.hid (show Bxs v2 (w.heap.size) 24 [.bool x1.s, .slice x1.a x1.n x1.c] by have h := Bxs.new (w) 24 [.bool x1.s, .slice x1.a x1.n x1.c]; rw [hV]; exact h)
  rw [show w.alloc (.cells #[.bool x1.s, .slice x1.a x1.n x1.c] 24) = v2 from hV.symm]
  have KG := Lib.hid (KG.out.trans (hbV.mono KG.out.size))
  clear hV hbV
  go_wp2_with fail
  have CT := Lib.hid (alive_true v2 (HT.out.on KG.out))
  with_reducible refine CT.out.mono ?_
  rintro e w3 ⟨rfl, hb⟩
  clear CT
  have BX1 := Lib.hid (BX1.out.below hb BX1.out.lt)
  have KG := Lib.hid (KG.out.trans (hb.mono KG.out.size))
  clear hb
  have cBX10 := BX1.out.cell (i := 0) rfl
  have cBX11 := BX1.out.cell (i := 1) rfl
  have cBX1f := BX1.out.fz
  have cBX1l := BX1.out.lt
  go_wp2_with fail
  clear cBX10 cBX11 cBX1f cBX1l
  obtain ⟨v5, hV⟩ : ∃ V, V = w3.alloc (.cells #[.bool x1.s, .slice x1.a x1.n x1.c] 24) := ⟨_, rfl⟩
  have hbV : Below w3.heap.size w3 v5 := by rw [hV]; exact ((Below.refl _ _).alloc (Nat.le_refl _) _)
  have BX4 := Lib.hid (show Bxs v5 (w3.heap.size) 24 [.bool x1.s, .slice x1.a x1.n x1.c] by have h := Bxs.new (w3) 24 [.bool x1.s, .slice x1.a x1.n x1.c]; rw [hV]; exact h)
  rw [show w3.alloc (.cells #[.bool x1.s, .slice x1.a x1.n x1.c] 24) = v5 from hV.symm]
  have BX1 := Lib.hid (BX1.out.below hbV BX1.out.lt)
  have KG := Lib.hid (KG.out.trans (hbV.mono KG.out.size))
  clear hV hbV
  have cBX10 := BX1.out.cell (i := 0) rfl
  have cBX11 := BX1.out.cell (i := 1) rfl
  have cBX1f := BX1.out.fz
  have cBX1l := BX1.out.lt
  have CT := Lib.hid (great1N (M := 60) BX4.out)
  rw [show ((60 : Nat) : Int) = 60 from rfl, show decide (60 < x1.n) = true from decide_eq_true HG.out] at CT
  with_reducible refine CT.out.mono ?_
  rintro e w6 ⟨rfl, hb⟩
  clear CT
  clear cBX10 cBX11 cBX1f cBX1l
  clear BX1
  clear BX4
  have KG := Lib.hid (KG.out.trans (hb.mono KG.out.size))
  clear hb
  go_wp2_with fail
  have CT := Lib.hid (alive_true w6 (HT.out.on KG.out))
  with_reducible refine CT.out.mono ?_
  rintro e w7 ⟨rfl, hb⟩
  clear CT
  have KG := Lib.hid (KG.out.trans (hb.mono KG.out.size))
  clear hb
  go_wp2_with fail
  go_ret
  exact ⟨rfl, KG.out⟩

set_option maxRecDepth 100000 in
set_option maxHeartbeats 16000000 in
theorem none_walk (x1 : NV) (p1 : Int) (o : Nat → Int) (k : Int) (w : World) (htab : Tab w) (hr : Rd w x1.a x1.n o) (h1 : AN w x1 p1) (hb1 : x1.n ≤ 60) :
    Calls Tryz.prog 11 #[x1.v, .int .u8 k] w fun e w' => e = .returned (.bool true) ∧ Below w.heap.size w w' := by
  have HT := Lib.hid htab
  have KG := Lib.hid (Below.refl w.heap.size w)
  have R1 := Lib.hid hr
  have N1 := Lib.hid h1
  have LZp1 := Lib.hid h1.len
  have Bx1 := Lib.hid hb1
  have LZp1 := Lib.hid (Nat.le_trans LZp1.out hb1)
  clear htab hr h1 hb1
  have LZ0 := Lib.hid (show lenB (0 : Int).natAbs ≤ 0 from Nat.le_of_eq lenB_zero)
  obtain ⟨vc, hvc⟩ : ∃ v, v = cmpZ 0 p1 := ⟨_, rfl⟩
  have Hvc := Lib.hid hvc
  clear hvc
  obtain ⟨z0, hz0⟩ : ∃ z : Int, z = (0 : Int) := ⟨_, rfl⟩
  have Hz0 := Lib.hid hz0
  have LZz0 := Lib.hid (show lenB z0.natAbs ≤ 3 by rw [hz0]; exact len1 (by decide) (by decide))
  clear hz0
  obtain ⟨zg0, hzg0⟩ : ∃ z : Int, z = ((Int.gcd (0 : Int) p1 : Nat) : Int) := ⟨_, rfl⟩
  have Hzg0 := Lib.hid hzg0
  have LZzg0 := Lib.hid (show lenB zg0.natAbs ≤ 60 by rw [hzg0]; exact len_gcd (Nat.le_trans LZ0.out (by decide) : lenB (0 : Int).natAbs ≤ 60) (Nat.le_trans LZp1.out (by decide) : lenB p1.natAbs ≤ 60))
  clear hzg0
  go_enter Tryz.func11, Tryz.ntmps11
  go_upto_region 1 with (fail)
  obtain ⟨v2, hV⟩ : ∃ V, V = w.alloc (.cells #[.bool x1.s, .slice x1.a x1.n x1.c] 24) := ⟨_, rfl⟩
  have hbV : Below w.heap.size w v2 := by rw [hV]; exact ((Below.refl _ _).alloc (Nat.le_refl _) _)
  have BX1 := Lib.hid (show Bxs v2 (w.heap.size) 24 [.bool x1.s, .slice x1.a x1.n x1.c] by have h := Bxs.new (w) 24 [.bool x1.s, .slice x1.a x1.n x1.c]; rw [hV]; exact h)
  rw [show w.alloc (.cells #[.bool x1.s, .slice x1.a x1.n x1.c] 24) = v2 from hV.symm]
  have KG := Lib.hid (KG.out.trans (hbV.mono KG.out.size))
  clear hV hbV
  go_wp2_with fail
  have CT := Lib.hid (alive_true v2 (HT.out.on KG.out))
  with_reducible refine CT.out.mono ?_
  rintro e w3 ⟨rfl, hb⟩
  clear CT
  have BX1 := Lib.hid (BX1.out.below hb BX1.out.lt)
  have KG := Lib.hid (KG.out.trans (hb.mono KG.out.size))
  clear hb
  have cBX10 := BX1.out.cell (i := 0) rfl
  have cBX11 := BX1.out.cell (i := 1) rfl
  have cBX1f := BX1.out.fz
  have cBX1l := BX1.out.lt
  go_wp2_with fail
  clear cBX10 cBX11 cBX1f cBX1l
  obtain ⟨v5, hV⟩ : ∃ V, V = w3.alloc (.cells #[.bool x1.s, .slice x1.a x1.n x1.c] 24) := ⟨_, rfl⟩
  have hbV : Below w3.heap.size w3 v5 := by rw [hV]; exact ((Below.refl _ _).alloc (Nat.le_refl _) _)
  have BX4 := Lib.hid (show Bxs v5 (w3.heap.size) 24 [.bool x1.s, .slice x1.a x1.n x1.c] by have h := Bxs.new (w3) 24 [.bool x1.s, .slice x1.a x1.n x1.c]; rw [hV]; exact h)
  rw [show w3.alloc (.cells #[.bool x1.s, .slice x1.a x1.n x1.c] 24) = v5 from hV.symm]
  have BX1 := Lib.hid (BX1.out.below hbV BX1.out.lt)
  have KG := Lib.hid (KG.out.trans (hbV.mono KG.out.size))
  clear hV hbV
  have cBX10 := BX1.out.cell (i := 0) rfl
  have cBX11 := BX1.out.cell (i := 1) rfl
  have cBX1f := BX1.out.fz
  have cBX1l := BX1.out.lt
  have CT := Lib.hid (great1N (M := 60) BX4.out)
  rw [show ((60 : Nat) : Int) = 60 from rfl, show decide (60 < x1.n) = false from decide_eq_false (by have g0 := Bx1.out; omega)] at CT
  with_reducible refine CT.out.mono ?_
  rintro e w6 ⟨rfl, hb⟩
  clear CT
  clear cBX10 cBX11 cBX1f cBX1l
  have BX1 := Lib.hid (BX1.out.below hb BX1.out.lt)
  clear BX4
  have KG := Lib.hid (KG.out.trans (hb.mono KG.out.size))
  clear hb
  have cBX10 := BX1.out.cell (i := 0) rfl
  have cBX11 := BX1.out.cell (i := 1) rfl
  have cBX1f := BX1.out.fz
  have cBX1l := BX1.out.lt
  go_wp2_with fail
  refine (twinNum_any x1.s x1.a x1.n x1.c o w6 (R1.out.below KG.out) (by have := Bx1.out; omega)).mono ?_
  rintro e w1 ⟨g, rfl, hO, hb⟩
  have TW := Lib.hid ((hO.less (by omega : x1.n ≤ x1.n + 1)).congr fun i hi => if_pos hi)
  have TWL := Lib.hid (show g < w1.heap.size from (hO.blk rfl).2.2)
  have HAG := Lib.hid (show w.heap.size < g from Nat.lt_of_lt_of_le BX1.out.lt (hO.blk rfl).2.1)
  have HUW := Lib.hid (show w.heap.size ≤ w6.heap.size from KG.out.size)
  clear hO
  clear cBX10 cBX11 cBX1f cBX1l
  have BX1 := Lib.hid (BX1.out.below hb BX1.out.lt)
  have KG := Lib.hid (KG.out.trans (hb.mono KG.out.size))
  clear hb
  go_upto_region 4 with (fail)
  obtain ⟨v8, hV⟩ : ∃ V, V = w1.alloc (.cells #[.bool x1.s, .slice (some ⟨g, 0, none⟩) x1.n (x1.n + 1)] 24) := ⟨_, rfl⟩
  have hbV : Below w1.heap.size w1 v8 := by rw [hV]; exact ((Below.refl _ _).alloc (Nat.le_refl _) _)
  have BX7 := Lib.hid (show Bxs v8 (w1.heap.size) 24 [.bool x1.s, .slice (some ⟨g, 0, none⟩) x1.n (x1.n + 1)] by have h := Bxs.new (w1) 24 [.bool x1.s, .slice (some ⟨g, 0, none⟩) x1.n (x1.n + 1)]; rw [hV]; exact h)
  rw [show w1.alloc (.cells #[.bool x1.s, .slice (some ⟨g, 0, none⟩) x1.n (x1.n + 1)] 24) = v8 from hV.symm]
  have TW := Lib.hid (TW.out.below hbV)
  have BX1 := Lib.hid (BX1.out.below hbV BX1.out.lt)
  have KG := Lib.hid (KG.out.trans (hbV.mono KG.out.size))
  clear hV hbV
  go_cut [26] (fun m26 wx => m26 = .int .u8 (k.tmod 3) ∧ v8 = wx)
  case first =>
    go_wp2_with fail
    go_meet
    case rel => exact ⟨rfl, rfl⟩
  case rest =>
    obtain ⟨rfl, rfl⟩ := hcut
    refine ‹∀ (a : Act) (w : World), Code.wp _ _ _ a w → (_ : Act → World → Prop) a w› _ _ ?_
    go_cut [] (fun wx => ∃ y : NV, Bxs wx (w1.heap.size) 24 [.bool y.s, .slice y.a y.n y.c] ∧ XN wx y ∧ y.n ≤ 61 ∧ Bxs wx (w.heap.size) 24 [.bool x1.s, .slice x1.a x1.n x1.c] ∧ Below w.heap.size w wx)
    case first =>
      have HAW := Lib.hid (show w.heap.size < w1.heap.size by have := HAG.out; have := TWL.out; omega)
      have HAB := Lib.hid (show w.heap.size ≤ w1.heap.size by have := HAW.out; omega)
      by_cases k0 : k.tmod 3 = 0
      · skip
        have e0 : (k.tmod 3 == 0) = true := by rw [k0]; rfl
        clear k0
        have c0 := BX7.out.cell (i := 0) rfl
        have c1 := BX7.out.cell (i := 1) rfl
        have cf := BX7.out.fz
        have cl := BX7.out.lt
        go_wp2_with (first
          | (at_builtin; refine Book.wpList_push rfl _ _ rfl (by rfl) (TW.out.allocd _) (by have := Bx1.out; omega) (by have h1 := (TW.out.blk rfl).2; go_size) (v := 0) (by rfl) ?c1 (by omega) (by rfl) ?_))
        case c1 => simp
        intro a' c' w2 hown q1 q2 q3
        subst q1 q2
        have hg : ∀ i, i < v8.heap.size → i ≠ g → w2.heap[i]? = v8.heap[i]? := fun i hi hne => (q3.block i (by rw [World.size_alloc]; omega) (by intro e; cases e; exact hne rfl)).trans (heap_alloc_old _ _ hi)
        have hk := (KG.out.alloc KG.out.size (.cells #[.int .u32 0] 56)).grown q3 (by have := KG.out.size; go_size) (fun q hq => by cases hq; exact Nat.le_of_lt HAG.out)
        have hlt := TWL.out
        have BXO := Lib.hid (BX7.out.of (hg _ BX7.out.lt (by omega)))
        have BXA := Lib.hid (BX1.out.of (hg _ BX1.out.lt (by have := HAG.out; omega)))
        have NO := Lib.hid hown
        have HK := Lib.hid hk
        clear hown q3 hg hk c0 c1 cf cl hlt
        have c0 := BXO.out.cell (i := 0) rfl
        have c1 := BXO.out.cell (i := 1) rfl
        have cf := BXO.out.fz
        have cl := BXO.out.lt
        go_wp2_with fail
        go_meet
        case rel =>
          refine ⟨⟨x1.s, some ⟨g, 0, none⟩, x1.n + 1, x1.n + 1⟩, BXO.out.put 1 _, ⟨⟨_, (NO.out.setBxs BXO.out (by decide) 1 _).rd, ?_⟩, NO.out.le⟩, by have := Bx1.out; show x1.n + 1 ≤ 61; omega, BXA.out.other (Nat.ne_of_lt HAW.out) _, HK.out.setCell HAB.out _⟩
          show ¬ okN x1.s (x1.n + 1) (upd o x1.n 0)
          exact fun h => absurd (h.2.2 (by omega)) (by rw [show x1.n + 1 - 1 = x1.n by omega, upd_same]; omega)
      by_cases k1 : k.tmod 3 = 1
      · skip
        have e0 : (k.tmod 3 == 0) = false := by simpa using k0
        have e1 : (k.tmod 3 == 1) = true := by rw [k1]; rfl
        clear k0 k1
        have c0 := BX7.out.cell (i := 0) rfl
        have c1 := BX7.out.cell (i := 1) rfl
        have cf := BX7.out.fz
        have cl := BX7.out.lt
        go_wp2_with (first
          | (at_builtin; refine Book.wpList_push rfl _ _ rfl (by rfl) (TW.out.allocd _) (by have := Bx1.out; omega) (by have h1 := (TW.out.blk rfl).2; go_size) (v := 1000000000) (by rfl) ?c1 (by omega) (by rfl) ?_))
        case c1 => simp
        intro a' c' w2 hown q1 q2 q3
        subst q1 q2
        have hg : ∀ i, i < v8.heap.size → i ≠ g → w2.heap[i]? = v8.heap[i]? := fun i hi hne => (q3.block i (by rw [World.size_alloc]; omega) (by intro e; cases e; exact hne rfl)).trans (heap_alloc_old _ _ hi)
        have hk := (KG.out.alloc KG.out.size (.cells #[.int .u32 1000000000] 56)).grown q3 (by have := KG.out.size; go_size) (fun q hq => by cases hq; exact Nat.le_of_lt HAG.out)
        have hlt := TWL.out
        have BXO := Lib.hid (BX7.out.of (hg _ BX7.out.lt (by omega)))
        have BXA := Lib.hid (BX1.out.of (hg _ BX1.out.lt (by have := HAG.out; omega)))
        have NO := Lib.hid hown
        have HK := Lib.hid hk
        clear hown q3 hg hk c0 c1 cf cl hlt
        have c0 := BXO.out.cell (i := 0) rfl
        have c1 := BXO.out.cell (i := 1) rfl
        have cf := BXO.out.fz
        have cl := BXO.out.lt
        go_wp2_with fail
        go_meet
        case rel =>
          refine ⟨⟨x1.s, some ⟨g, 0, none⟩, x1.n + 1, x1.n + 1⟩, BXO.out.put 1 _, ⟨⟨_, (NO.out.setBxs BXO.out (by decide) 1 _).rd, ?_⟩, NO.out.le⟩, by have := Bx1.out; show x1.n + 1 ≤ 61; omega, BXA.out.other (Nat.ne_of_lt HAW.out) _, HK.out.setCell HAB.out _⟩
          show ¬ okN x1.s (x1.n + 1) (upd o x1.n 1000000000)
          exact fun h => absurd (h.1 x1.n (by omega)) (by rw [upd_same]; omega)
      have e0 : (k.tmod 3 == 0) = false := by simpa using k0
      have e1 : (k.tmod 3 == 1) = false := by simpa using k1
      clear k0 k1
      have c0 := BX7.out.cell (i := 0) rfl
      have c1 := BX7.out.cell (i := 1) rfl
      have cf := BX7.out.fz
      have cl := BX7.out.lt
      go_wp2_with fail
      go_meet
      case rel =>
        exact ⟨⟨true, none, 0, 0⟩, ((BX7.out.put 0 _).put 1 _), ⟨⟨fun _ => 0, Rd.nil _ _ _, fun h => absurd (h.2.1 rfl) (by decide)⟩, Nat.le_refl _⟩, by decide, (BX1.out.other (Nat.ne_of_lt HAW.out) _).other (Nat.ne_of_lt HAW.out) _, (KG.out.setCell HAB.out _).setCell HAB.out _⟩
    case rest =>
      obtain ⟨y, hy1, hy2, hy3, hy4, hy5⟩ := hcut
      clear TW TWL HAG HUW KG BX7 BX1
      have BX7 := Lib.hid hy1
      have NY := Lib.hid hy2
      have By := Lib.hid (Nat.le_trans hy3 (by decide : 61 ≤ 61))
      have BX1 := Lib.hid hy4
      have KG := Lib.hid hy5
      clear hy1 hy2 hy3 hy4 hy5
      have cBX70 := BX7.out.cell (i := 0) rfl
      have cBX71 := BX7.out.cell (i := 1) rfl
      have cBX7f := BX7.out.fz
      have cBX7l := BX7.out.lt
      go_wp2_with fail
      have CT := Lib.hid (backBN NY.out (show y.n ≤ 10000000 from Nat.le_trans By.out (by decide)))
      with_reducible refine CT.out.mono ?_
      rintro e w9 ⟨rfl, hb⟩
      clear CT
      clear cBX70 cBX71 cBX7f cBX7l
      have NY := Lib.hid (NY.out.below hb)
      have BX1 := Lib.hid (BX1.out.below hb BX1.out.lt)
      have BX7 := Lib.hid (BX7.out.below hb BX7.out.lt)
      have KG := Lib.hid (KG.out.trans (hb.mono KG.out.size))
      clear hb
      have cBX10 := BX1.out.cell (i := 0) rfl
      have cBX11 := BX1.out.cell (i := 1) rfl
      have cBX1f := BX1.out.fz
      have cBX1l := BX1.out.lt
      have cBX70 := BX7.out.cell (i := 0) rfl
      have cBX71 := BX7.out.cell (i := 1) rfl
      have cBX7f := BX7.out.fz
      have cBX7l := BX7.out.lt
      go_wp2_with fail
      have CT := Lib.hid (divB2N (N1.out.below KG.out) (show x1.n ≤ 10000000 from Nat.le_trans Bx1.out (by decide)) NY.out (show y.n ≤ 10000000 from Nat.le_trans By.out (by decide)))
      with_reducible refine CT.out.mono ?_
      rintro e w10 ⟨x11, x12, rfl, hN13, hN14, hb⟩
      have N13 := Lib.hid hN13
      clear hN13
      have N14 := Lib.hid hN14
      clear hN14
      clear CT
      clear cBX10 cBX11 cBX1f cBX1l
      clear cBX70 cBX71 cBX7f cBX7l
      have NY := Lib.hid (NY.out.below hb)
      have BX1 := Lib.hid (BX1.out.below hb BX1.out.lt)
      have BX7 := Lib.hid (BX7.out.below hb BX7.out.lt)
      have KG := Lib.hid (KG.out.trans (hb.mono KG.out.size))
      clear hb
      clear N13
      clear N14
      go_upto_region 12 with (fail)
      obtain ⟨v17, hV⟩ : ∃ V, V = (w10.alloc (.cells #[.bool x11.s, .slice x11.a x11.n x11.c] 24)).alloc (.cells #[.bool x12.s, .slice x12.a x12.n x12.c] 24) := ⟨_, rfl⟩
      have hbV : Below w10.heap.size w10 v17 := by rw [hV]; exact (((Below.refl _ _).alloc (Nat.le_refl _) _).alloc (by go_size) _)
      have BX15 := Lib.hid (show Bxs v17 (w10.heap.size) 24 [.bool x11.s, .slice x11.a x11.n x11.c] by have h := (Bxs.new (w10) 24 [.bool x11.s, .slice x11.a x11.n x11.c]).alloc (.cells #[.bool x12.s, .slice x12.a x12.n x12.c] 24); rw [hV]; exact h)
      have BX16 := Lib.hid (show Bxs v17 (w10.heap.size + 1) 24 [.bool x12.s, .slice x12.a x12.n x12.c] by have h := Bxs.new (w10.alloc (.cells #[.bool x11.s, .slice x11.a x11.n x11.c] 24)) 24 [.bool x12.s, .slice x12.a x12.n x12.c]; simp only [World.size_alloc] at h; rw [hV]; exact h)
      rw [show (w10.alloc (.cells #[.bool x11.s, .slice x11.a x11.n x11.c] 24)).alloc (.cells #[.bool x12.s, .slice x12.a x12.n x12.c] 24) = v17 from hV.symm]
      have NY := Lib.hid (NY.out.below hbV)
      have BX1 := Lib.hid (BX1.out.below hbV BX1.out.lt)
      have BX7 := Lib.hid (BX7.out.below hbV BX7.out.lt)
      have KG := Lib.hid (KG.out.trans (hbV.mono KG.out.size))
      clear hV hbV
      clear BX15
      clear BX16
      go_upto_region 12 with (fail)
      refine Go.FreshS.wp_region_fresh 11 [(9, 7), (10, 8)] (Go.FreshS.spOf [(1, Go.FreshS.Sp.made (fun x : NV => x.v) (fun x w' => DN w' v17.heap.size x z0) NV.blk), (2, Go.FreshS.Sp.made (NV2.v 1) (fun x w' => DN w' v17.heap.size x.p (0 : Int) ∧ DN w' v17.heap.size x.q (0 : Int)) NV2.blk), (7, Go.FreshS.Sp.box 24 2 v17.heap.size), (8, Go.FreshS.Sp.box 24 2 v17.heap.size)])
        (fun w' => Below v17.heap.size v17 w') (by kernel_rfl) (by kernel_rfl) (by kernel_rfl)
        (Go.FreshS.spOf_cons (Go.FreshS.Sp.made_keeps _ (fun _ _ _ h _ hk => h.kept hk) (Go.FreshS.notTaken (by kernel_rfl))) (Go.FreshS.spOf_cons (Go.FreshS.Sp.made_keeps _ (fun _ _ _ h _ hk => ⟨h.1.kept fun b hb => hk b (Or.inl hb), h.2.kept fun b hb => hk b (Or.inr hb)⟩) (Go.FreshS.notTaken (by kernel_rfl))) (Go.FreshS.spOf_cons (Go.FreshS.Sp.box_keeps _ _ _ _) (Go.FreshS.spOf_cons (Go.FreshS.Sp.box_keeps _ _ _ _) (Go.FreshS.spOf_nil))))) (fun _ _ h hb => h.trans (hb.mono h.size)) ((Below.refl _ _).drew) ?_
      simp only [List.append_eq, List.cons_append, List.nil_append, List.take_succ_cons, List.take_zero, List.drop_succ_cons, List.drop_zero]
      refine Go.FreshS.wpF_reads rfl rfl rfl ?_ (fun w' hw' => ?_) ?_
      rotate_left
      · have hb' := hw'.world
        have hs0 := (BX7.out.below hb' BX7.out.lt).cell (i := 0) rfl
        have hs1 := (BX7.out.below hb' BX7.out.lt).cell (i := 1) rfl
        have hsf := (BX7.out.below hb' BX7.out.lt).fz
        have hsl := (BX7.out.below hb' BX7.out.lt).lt
        clear hw'
        go_simp
        try rfl
      conv => arg 10; simp only [Act.put, List.setIfInBounds_toArray, List.set_cons_succ, List.set_cons_zero]
      refine Go.FreshS.wpF_spec rfl rfl rfl (fun w' hw' => ?_) ?_
      · have hb' := hw'.world
        refine Go.FreshS.gives_of (Go.FreshS.PM (fun x : NV => x.v) (fun x w' => DN w' v17.heap.size x z0) NV.blk w'.heap.size) ?_ (fun _ _ h => h.post @NV.inj)
        go_simp
        have CT := ofZ 0 z0 (Hz0.out.symm) w' (by decide) (by decide)
        refine CT.mono ?_
        rintro e w'' ⟨za, rfl, ho, hb⟩
        exact ⟨_, rfl, ⟨za, rfl, ho.mono hb'.size, ho.blks⟩, hb⟩
      rintro _ ⟨y1, rfl⟩
      conv => arg 10; simp only [Act.put, List.setIfInBounds_toArray, List.set_cons_succ, List.set_cons_zero]
      refine Go.FreshS.wpF_spec rfl rfl rfl (fun w' hw' => ?_) ?_
      · have hb' := hw'.world
        refine Go.FreshS.gives_of (Go.FreshS.PM (NV2.v 1) (fun x w' => DN w' v17.heap.size x.p (0 : Int) ∧ DN w' v17.heap.size x.q (0 : Int)) NV2.blk w'.heap.size) ?_ (fun _ _ h => h.post (NV2.inj 1))
        go_simp
        have f1 := Go.FreshS.made_of (val := fun x : NV => x.v) (Φ := fun x w' => DN w' v17.heap.size x z0) @NV.inj (hw'.fact 1 (by kernel_rfl))
        have CT := divB1N (NY.out.below hb') (show y.n ≤ 10000000 from Nat.le_trans By.out (by decide)) f1.k.any (f1.k.len LZz0.out (by decide))
        refine CT.mono ?_
        rintro e w'' ⟨za, zb, rfl, ho, ho', hb⟩
        exact ⟨_, rfl, ⟨⟨za, zb⟩, rfl, ⟨ho.mono hb'.size, ho'.mono hb'.size⟩, fun b hb => hb.elim (ho.blks b) (ho'.blks b)⟩, hb⟩
      rintro _ ⟨y2, rfl⟩
      conv => arg 10; simp only [Act.put, List.setIfInBounds_toArray, List.set_cons_succ, List.set_cons_zero]
      refine Go.FreshS.wpF_reads rfl rfl rfl ?_ (fun w' hw' => ?_) ?_
      rotate_left
      · have hb' := hw'.world
        skip
        clear hw'
        go_simp
        try rfl
      conv => arg 10; simp only [Act.put, List.setIfInBounds_toArray, List.set_cons_succ, List.set_cons_zero]
      refine Go.FreshS.wpF_reads rfl rfl rfl ?_ (fun w' hw' => ?_) ?_
      rotate_left
      · have hb' := hw'.world
        skip
        clear hw'
        go_simp
        try rfl
      conv => arg 10; simp only [Act.put, List.setIfInBounds_toArray, List.set_cons_succ, List.set_cons_zero]
      refine Go.FreshS.wpF_reads rfl rfl rfl ?_ (fun w' hw' => ?_) ?_
      rotate_left
      · have hb' := hw'.world
        skip
        clear hw'
        go_simp
        try rfl
      conv => arg 10; simp only [Act.put, List.setIfInBounds_toArray, List.set_cons_succ, List.set_cons_zero]
      refine Go.FreshS.wpF_reads rfl rfl rfl ?_ (fun w' hw' => ?_) ?_
      rotate_left
      · have hb' := hw'.world
        skip
        clear hw'
        go_simp
        try rfl
      conv => arg 10; simp only [Act.put, List.setIfInBounds_toArray, List.set_cons_succ, List.set_cons_zero]
      refine Go.FreshS.wpF_spec rfl rfl rfl (fun w' hw' => ?_) ?_
      · have hb' := hw'.world
        refine Go.FreshS.gives_of (Go.FreshS.PB 24 2 v17.heap.size w'.heap.size) ?_ (fun _ _ h => h.post)
        go_simp
        exact ⟨Go.FreshS.PB.new _ rfl hb'.size, (Below.refl _ _).alloc (Nat.le_refl _) _⟩
      rintro _ ⟨y7, rfl⟩
      conv => arg 10; simp only [Act.put, List.setIfInBounds_toArray, List.set_cons_succ, List.set_cons_zero]
      refine Go.FreshS.wpF_spec rfl rfl rfl (fun w' hw' => ?_) ?_
      · have hb' := hw'.world
        refine Go.FreshS.gives_of (Go.FreshS.PB 24 2 v17.heap.size w'.heap.size) ?_ (fun _ _ h => h.post)
        go_simp
        exact ⟨Go.FreshS.PB.new _ rfl hb'.size, (Below.refl _ _).alloc (Nat.le_refl _) _⟩
      rintro _ ⟨y8, rfl⟩
      conv => arg 10; simp only [Act.put, List.setIfInBounds_toArray, List.set_cons_succ, List.set_cons_zero]
      refine Go.FreshS.wpF_store rfl rfl 7 rfl rfl rfl rfl (fun _ => Iff.rfl) (fun w' hw' => ?_) ?_
      · have hb' := hw'.world
        have hX := Go.FreshS.box_of (hw'.fact 7 (by kernel_rfl))
        obtain ⟨c0, c1, hB⟩ := shp2 hX.1
        have m0 := hB.cell (i := 0) rfl
        have m1 := hB.cell (i := 1) rfl
        have mf := hB.fz
        have ml := hB.lt
        refine Go.FreshS.stores_of ?_ (store2 hb' hX.2 hB (.bool y2.p.s) (.slice y2.p.a y2.p.n y2.p.c))
        clear hw'
        go_simp
        try rfl
      conv => arg 10; simp only [Act.put, List.setIfInBounds_toArray, List.set_cons_succ, List.set_cons_zero]
      refine Go.FreshS.wpF_store rfl rfl 8 rfl rfl rfl rfl (fun _ => Iff.rfl) (fun w' hw' => ?_) ?_
      · have hb' := hw'.world
        have hX := Go.FreshS.box_of (hw'.fact 8 (by kernel_rfl))
        obtain ⟨c0, c1, hB⟩ := shp2 hX.1
        have m0 := hB.cell (i := 0) rfl
        have m1 := hB.cell (i := 1) rfl
        have mf := hB.fz
        have ml := hB.lt
        refine Go.FreshS.stores_of ?_ (store2 hb' hX.2 hB (.bool y2.q.s) (.slice y2.q.a y2.q.n y2.q.c))
        clear hw'
        go_simp
        try rfl
      conv => arg 10; simp only [Act.put, List.setIfInBounds_toArray, List.set_cons_succ, List.set_cons_zero]
      refine Go.FreshS.wpF_nil (fun w20 hb hF => ?_)
      have BX18 := Lib.hid (show Bxs w20 y7 24 [.bool y2.p.s, .slice y2.p.a y2.p.n y2.p.c] from stored_bxs (hF.all 9))
      have N21 := Lib.hid (show DN w20 v17.heap.size y2.p (0 : Int) from (Go.FreshS.made_of (val := NV2.v 1) (Φ := fun x w' => DN w' v17.heap.size x.p (0 : Int) ∧ DN w' v17.heap.size x.q (0 : Int)) (NV2.inj 1) (hF.all 2)).1)
      have BX19 := Lib.hid (show Bxs w20 y8 24 [.bool y2.q.s, .slice y2.q.a y2.q.n y2.q.c] from stored_bxs (hF.all 10))
      have N22 := Lib.hid (show DN w20 v17.heap.size y2.q (0 : Int) from (Go.FreshS.made_of (val := NV2.v 1) (Φ := fun x w' => DN w' v17.heap.size x.p (0 : Int) ∧ DN w' v17.heap.size x.q (0 : Int)) (NV2.inj 1) (hF.all 2)).2)
      clear hF
      have NY := Lib.hid (NY.out.below hb)
      have BX1 := Lib.hid (BX1.out.below hb BX1.out.lt)
      have BX7 := Lib.hid (BX7.out.below hb BX7.out.lt)
      have KG := Lib.hid (KG.out.trans (hb.mono KG.out.size))
      clear hb
      clear BX18
      clear BX19
      clear N21
      clear N22
      go_wp2_with fail
      have CT := Lib.hid (ofZ 0 z0 (Hz0.out.symm) w20 (by decide) (by decide))
      with_reducible refine CT.out.mono ?_
      rintro e w23 ⟨x24, rfl, hN25, hb⟩
      have N25 := Lib.hid hN25
      clear hN25
      clear CT
      have NY := Lib.hid (NY.out.below hb)
      have BX1 := Lib.hid (BX1.out.below hb BX1.out.lt)
      have BX7 := Lib.hid (BX7.out.below hb BX7.out.lt)
      have KG := Lib.hid (KG.out.trans (hb.mono KG.out.size))
      clear hb
      go_upto_region 14 with (fail)
      obtain ⟨v27, hV⟩ : ∃ V, V = w23.alloc (.cells #[.bool x24.s, .slice x24.a x24.n x24.c] 24) := ⟨_, rfl⟩
      have hbV : Below w23.heap.size w23 v27 := by rw [hV]; exact ((Below.refl _ _).alloc (Nat.le_refl _) _)
      have BX26 := Lib.hid (show Bxs v27 (w23.heap.size) 24 [.bool x24.s, .slice x24.a x24.n x24.c] by have h := Bxs.new (w23) 24 [.bool x24.s, .slice x24.a x24.n x24.c]; rw [hV]; exact h)
      rw [show w23.alloc (.cells #[.bool x24.s, .slice x24.a x24.n x24.c] 24) = v27 from hV.symm]
      have NY := Lib.hid (NY.out.below hbV)
      have N25 := Lib.hid (N25.out.below hbV)
      have BX1 := Lib.hid (BX1.out.below hbV BX1.out.lt)
      have BX7 := Lib.hid (BX7.out.below hbV BX7.out.lt)
      have KG := Lib.hid (KG.out.trans (hbV.mono KG.out.size))
      clear hV hbV
      go_upto_region 14 with (fail)
      refine Go.FreshS.wp_region_fresh 76 [] (Go.FreshS.spOf [(1, Go.FreshS.Sp.know (.bool false)), (17, Go.FreshS.Sp.know (.int .i64 0)), (22, Go.FreshS.Sp.know (.string ⟨#[48]⟩)), (28, Go.FreshS.Sp.know (.int .i64 vc)), (31, Go.FreshS.Sp.know (.int .i64 vc)), (37, Go.FreshS.Sp.made (fun x : NV => x.v) (fun x w' => DN w' v27.heap.size x p1) NV.blk), (40, Go.FreshS.Sp.made (fun x : NV => x.v) (fun x w' => DN w' v27.heap.size x p1) NV.blk), (41, Go.FreshS.Sp.know (.bool true)), (46, Go.FreshS.Sp.made (fun x : Option Addr × Nat => .agg #[.bool false, .slice x.1 0 x.2]) (fun _ _ => True) (fun _ _ => False)), (54, Go.FreshS.Sp.made (fun x : NV => x.v) (fun x w' => DN w' v27.heap.size x zg0) NV.blk), (57, Go.FreshS.Sp.made (fun x : NV => x.v) (fun x w' => DN w' v27.heap.size x zg0) NV.blk), (58, Go.FreshS.Sp.know (.bool true)), (62, Go.FreshS.Sp.made (fun x : Option Addr × Nat => .agg #[.bool false, .slice x.1 0 x.2]) (fun _ _ => True) (fun _ _ => False)), (70, Go.FreshS.Sp.made (fun x : NV => x.v) (fun x w' => DN w' v27.heap.size x p1) NV.blk), (73, Go.FreshS.Sp.made (fun x : NV => x.v) (fun x w' => DN w' v27.heap.size x p1) NV.blk), (74, Go.FreshS.Sp.know (.bool true))])
        (fun w' => Below v27.heap.size v27 w') (by kernel_rfl) (by kernel_rfl) (by kernel_rfl)
        (Go.FreshS.spOf_cons (Go.FreshS.Sp.know_keeps _ _) (Go.FreshS.spOf_cons (Go.FreshS.Sp.know_keeps _ _) (Go.FreshS.spOf_cons (Go.FreshS.Sp.know_keeps _ _) (Go.FreshS.spOf_cons (Go.FreshS.Sp.know_keeps _ _) (Go.FreshS.spOf_cons (Go.FreshS.Sp.know_keeps _ _) (Go.FreshS.spOf_cons (Go.FreshS.Sp.made_keeps _ (fun _ _ _ h _ hk => h.kept hk) (Go.FreshS.notTaken (by kernel_rfl))) (Go.FreshS.spOf_cons (Go.FreshS.Sp.made_keeps _ (fun _ _ _ h _ hk => h.kept hk) (Go.FreshS.notTaken (by kernel_rfl))) (Go.FreshS.spOf_cons (Go.FreshS.Sp.know_keeps _ _) (Go.FreshS.spOf_cons (Go.FreshS.Sp.made_keeps _ (fun _ _ _ h _ _ => h) (Go.FreshS.notTaken (by kernel_rfl))) (Go.FreshS.spOf_cons (Go.FreshS.Sp.made_keeps _ (fun _ _ _ h _ hk => h.kept hk) (Go.FreshS.notTaken (by kernel_rfl))) (Go.FreshS.spOf_cons (Go.FreshS.Sp.made_keeps _ (fun _ _ _ h _ hk => h.kept hk) (Go.FreshS.notTaken (by kernel_rfl))) (Go.FreshS.spOf_cons (Go.FreshS.Sp.know_keeps _ _) (Go.FreshS.spOf_cons (Go.FreshS.Sp.made_keeps _ (fun _ _ _ h _ _ => h) (Go.FreshS.notTaken (by kernel_rfl))) (Go.FreshS.spOf_cons (Go.FreshS.Sp.made_keeps _ (fun _ _ _ h _ hk => h.kept hk) (Go.FreshS.notTaken (by kernel_rfl))) (Go.FreshS.spOf_cons (Go.FreshS.Sp.made_keeps _ (fun _ _ _ h _ hk => h.kept hk) (Go.FreshS.notTaken (by kernel_rfl))) (Go.FreshS.spOf_cons (Go.FreshS.Sp.know_keeps _ _) (Go.FreshS.spOf_nil))))))))))))))))) (fun _ _ h hb => h.trans (hb.mono h.size)) ((Below.refl _ _).drew) ?_
      simp only [List.append_eq, List.cons_append, List.nil_append, List.take_succ_cons, List.take_zero, List.drop_succ_cons, List.drop_zero]
      refine Go.FreshS.wpF_reads rfl rfl rfl ?_ (fun w' hw' => ?_) ?_
      rotate_left
      · have hb' := hw'.world
        have hs0 := (BX7.out.below hb' BX7.out.lt).cell (i := 0) rfl
        have hs1 := (BX7.out.below hb' BX7.out.lt).cell (i := 1) rfl
        have hsf := (BX7.out.below hb' BX7.out.lt).fz
        have hsl := (BX7.out.below hb' BX7.out.lt).lt
        clear hw'
        go_simp
        try rfl
      conv => arg 10; simp only [Act.put, List.setIfInBounds_toArray, List.set_cons_succ, List.set_cons_zero]
      refine Go.FreshS.wpF_spec rfl rfl rfl (fun w' hw' => ?_) ?_
      · have hb' := hw'.world
        refine Go.FreshS.gives_of (Go.FreshS.PK (.bool false)) ?_ (fun _ _ h => h.post)
        go_simp
        have CT := checkBN (NY.out.below hb') (show y.n ≤ 10000000 from Nat.le_trans By.out (by decide))
        refine CT.mono ?_
        rintro e w'' ⟨rfl, hb⟩
        exact ⟨_, rfl, rfl, hb⟩
      rintro _ rfl
      conv => arg 10; simp only [Act.put, List.setIfInBounds_toArray, List.set_cons_succ, List.set_cons_zero]
      refine Go.FreshS.wpF_reads rfl rfl rfl ?_ (fun w' hw' => ?_) ?_
      rotate_left
      · have hb' := hw'.world
        skip
        clear hw'
        go_simp
        try rfl
      conv => arg 10; simp only [Act.put, List.setIfInBounds_toArray, List.set_cons_succ, List.set_cons_zero]
      refine Go.FreshS.wpF_reads rfl rfl rfl ?_ (fun w' hw' => ?_) ?_
      rotate_left
      · have hb' := hw'.world
        skip
        clear hw'
        go_simp
        try rfl
      conv => arg 10; simp only [Act.put, List.setIfInBounds_toArray, List.set_cons_succ, List.set_cons_zero]
      refine Go.FreshS.wpF_readsG (by rfl) rfl rfl ?_ (fun w' hw' => ?_) ?_
      rotate_left
      · have hb' := hw'.world
        skip
        clear hw'
        go_simp
        try rfl
      conv => arg 10; simp only [Act.put, List.setIfInBounds_toArray, List.set_cons_succ, List.set_cons_zero]
      refine Go.FreshS.wpF_readsG (by rfl) rfl rfl ?_ (fun w' hw' => ?_) ?_
      rotate_left
      · have hb' := hw'.world
        skip
        clear hw'
        go_simp
        try rfl
      conv => arg 10; simp only [Act.put, List.setIfInBounds_toArray, List.set_cons_succ, List.set_cons_zero]
      refine Go.FreshS.wpF_reads rfl rfl rfl ?_ (fun w' hw' => ?_) ?_
      rotate_left
      · have hb' := hw'.world
        skip
        clear hw'
        go_simp
        try rfl
      conv => arg 10; simp only [Act.put, List.setIfInBounds_toArray, List.set_cons_succ, List.set_cons_zero]
      refine Go.FreshS.wpF_reads rfl rfl rfl ?_ (fun w' hw' => ?_) ?_
      rotate_left
      · have hb' := hw'.world
        skip
        clear hw'
        go_simp
        try rfl
      conv => arg 10; simp only [Act.put, List.setIfInBounds_toArray, List.set_cons_succ, List.set_cons_zero]
      refine Go.FreshS.wpF_readsG (by rfl) rfl rfl ?_ (fun w' hw' => ?_) ?_
      rotate_left
      · have hb' := hw'.world
        skip
        clear hw'
        go_simp
        try rfl
      conv => arg 10; simp only [Act.put, List.setIfInBounds_toArray, List.set_cons_succ, List.set_cons_zero]
      refine Go.FreshS.wpF_readsG (by rfl) rfl rfl ?_ (fun w' hw' => ?_) ?_
      rotate_left
      · have hb' := hw'.world
        skip
        clear hw'
        go_simp
        try rfl
      conv => arg 10; simp only [Act.put, List.setIfInBounds_toArray, List.set_cons_succ, List.set_cons_zero]
      refine Go.FreshS.wpF_reads rfl rfl rfl ?_ (fun w' hw' => ?_) ?_
      rotate_left
      · have hb' := hw'.world
        skip
        clear hw'
        go_simp
        try rfl
      conv => arg 10; simp only [Act.put, List.setIfInBounds_toArray, List.set_cons_succ, List.set_cons_zero]
      refine Go.FreshS.wpF_reads rfl rfl rfl ?_ (fun w' hw' => ?_) ?_
      rotate_left
      · have hb' := hw'.world
        skip
        clear hw'
        go_simp
        try rfl
      conv => arg 10; simp only [Act.put, List.setIfInBounds_toArray, List.set_cons_succ, List.set_cons_zero]
      refine Go.FreshS.wpF_readsG (by rfl) rfl rfl ?_ (fun w' hw' => ?_) ?_
      rotate_left
      · have hb' := hw'.world
        skip
        clear hw'
        go_simp
        try rfl
      conv => arg 10; simp only [Act.put, List.setIfInBounds_toArray, List.set_cons_succ, List.set_cons_zero]
      refine Go.FreshS.wpF_readsG (by rfl) rfl rfl ?_ (fun w' hw' => ?_) ?_
      rotate_left
      · have hb' := hw'.world
        skip
        clear hw'
        go_simp
        try rfl
      conv => arg 10; simp only [Act.put, List.setIfInBounds_toArray, List.set_cons_succ, List.set_cons_zero]
      refine Go.FreshS.wpF_reads rfl rfl rfl ?_ (fun w' hw' => ?_) ?_
      rotate_left
      · have hb' := hw'.world
        skip
        clear hw'
        go_simp
        try rfl
      conv => arg 10; simp only [Act.put, List.setIfInBounds_toArray, List.set_cons_succ, List.set_cons_zero]
      refine Go.FreshS.wpF_reads rfl rfl rfl ?_ (fun w' hw' => ?_) ?_
      rotate_left
      · have hb' := hw'.world
        skip
        clear hw'
        go_simp
        try rfl
      conv => arg 10; simp only [Act.put, List.setIfInBounds_toArray, List.set_cons_succ, List.set_cons_zero]
      refine Go.FreshS.wpF_readsG (by rfl) rfl rfl ?_ (fun w' hw' => ?_) ?_
      rotate_left
      · have hb' := hw'.world
        have hs0 := (BX7.out.below hb' BX7.out.lt).cell (i := 0) rfl
        have hs1 := (BX7.out.below hb' BX7.out.lt).cell (i := 1) rfl
        have hsf := (BX7.out.below hb' BX7.out.lt).fz
        have hsl := (BX7.out.below hb' BX7.out.lt).lt
        clear hw'
        go_simp
        try rfl
      conv => arg 10; simp only [Act.put, List.setIfInBounds_toArray, List.set_cons_succ, List.set_cons_zero]
      refine Go.FreshS.wpF_gspec (by rfl) rfl rfl (fun w' hw' => ?_) ?_
      · have hb' := hw'.world
        refine Go.FreshS.gives_of (Go.FreshS.PK (.int .i64 0)) ?_ (fun _ _ h => h.post)
        go_simp
        have CT := signN (NY.out.below hb').any (show y.n ≤ 10000000 from Nat.le_trans By.out (by decide))
        rw [show cmpZ (0 : Int) 0 = 0 from cmpZ_eq rfl] at CT
        refine CT.mono ?_
        rintro e w'' ⟨rfl, hb⟩
        exact ⟨_, rfl, rfl, hb⟩
      rintro _ rfl
      conv => arg 10; simp only [Act.put, List.setIfInBounds_toArray, List.set_cons_succ, List.set_cons_zero]
      refine Go.FreshS.wpF_readsG (by rfl) rfl rfl ?_ (fun w' hw' => ?_) ?_
      rotate_left
      · have hb' := hw'.world
        skip
        clear hw'
        go_simp
        try rfl
      conv => arg 10; simp only [Act.put, List.setIfInBounds_toArray, List.set_cons_succ, List.set_cons_zero]
      refine Go.FreshS.wpF_reads rfl rfl rfl ?_ (fun w' hw' => ?_) ?_
      rotate_left
      · have hb' := hw'.world
        skip
        clear hw'
        go_simp
        try rfl
      conv => arg 10; simp only [Act.put, List.setIfInBounds_toArray, List.set_cons_succ, List.set_cons_zero]
      refine Go.FreshS.wpF_reads rfl rfl rfl ?_ (fun w' hw' => ?_) ?_
      rotate_left
      · have hb' := hw'.world
        skip
        clear hw'
        go_simp
        try rfl
      conv => arg 10; simp only [Act.put, List.setIfInBounds_toArray, List.set_cons_succ, List.set_cons_zero]
      refine Go.FreshS.wpF_readsG (by rfl) rfl rfl ?_ (fun w' hw' => ?_) ?_
      rotate_left
      · have hb' := hw'.world
        have hs0 := (BX7.out.below hb' BX7.out.lt).cell (i := 0) rfl
        have hs1 := (BX7.out.below hb' BX7.out.lt).cell (i := 1) rfl
        have hsf := (BX7.out.below hb' BX7.out.lt).fz
        have hsl := (BX7.out.below hb' BX7.out.lt).lt
        clear hw'
        go_simp
        try rfl
      conv => arg 10; simp only [Act.put, List.setIfInBounds_toArray, List.set_cons_succ, List.set_cons_zero]
      refine Go.FreshS.wpF_gspec (by rfl) rfl rfl (fun w' hw' => ?_) ?_
      · have hb' := hw'.world
        refine Go.FreshS.gives_of (Go.FreshS.PK (.string ⟨#[48]⟩)) ?_ (fun _ _ h => h.post)
        go_simp
        have CT := textN (NY.out.below hb').any (show y.n ≤ 10000000 from Nat.le_trans By.out (by decide)) (HT.out.on (KG.out.trans (hb'.mono KG.out.size)))
        rw [itoa_zero] at CT
        refine CT.mono ?_
        rintro e w'' ⟨rfl, hb⟩
        exact ⟨_, rfl, rfl, hb⟩
      rintro _ rfl
      conv => arg 10; simp only [Act.put, List.setIfInBounds_toArray, List.set_cons_succ, List.set_cons_zero]
      refine Go.FreshS.wpF_readsG (by rfl) rfl rfl ?_ (fun w' hw' => ?_) ?_
      rotate_left
      · have hb' := hw'.world
        skip
        clear hw'
        go_simp
        try rfl
      conv => arg 10; simp only [Act.put, List.setIfInBounds_toArray, List.set_cons_succ, List.set_cons_zero]
      refine Go.FreshS.wpF_reads rfl rfl rfl ?_ (fun w' hw' => ?_) ?_
      rotate_left
      · have hb' := hw'.world
        skip
        clear hw'
        go_simp
        try rfl
      conv => arg 10; simp only [Act.put, List.setIfInBounds_toArray, List.set_cons_succ, List.set_cons_zero]
      refine Go.FreshS.wpF_reads rfl rfl rfl ?_ (fun w' hw' => ?_) ?_
      rotate_left
      · have hb' := hw'.world
        skip
        clear hw'
        go_simp
        try rfl
      conv => arg 10; simp only [Act.put, List.setIfInBounds_toArray, List.set_cons_succ, List.set_cons_zero]
      refine Go.FreshS.wpF_readsG (by rfl) rfl rfl ?_ (fun w' hw' => ?_) ?_
      rotate_left
      · have hb' := hw'.world
        have hs0 := (BX7.out.below hb' BX7.out.lt).cell (i := 0) rfl
        have hs1 := (BX7.out.below hb' BX7.out.lt).cell (i := 1) rfl
        have hsf := (BX7.out.below hb' BX7.out.lt).fz
        have hsl := (BX7.out.below hb' BX7.out.lt).lt
        clear hw'
        go_simp
        try rfl
      conv => arg 10; simp only [Act.put, List.setIfInBounds_toArray, List.set_cons_succ, List.set_cons_zero]
      refine Go.FreshS.wpF_readsG (by rfl) rfl rfl ?_ (fun w' hw' => ?_) ?_
      rotate_left
      · have hb' := hw'.world
        have hs0 := (BX1.out.below hb' BX1.out.lt).cell (i := 0) rfl
        have hs1 := (BX1.out.below hb' BX1.out.lt).cell (i := 1) rfl
        have hsf := (BX1.out.below hb' BX1.out.lt).fz
        have hsl := (BX1.out.below hb' BX1.out.lt).lt
        clear hw'
        go_simp
        try rfl
      conv => arg 10; simp only [Act.put, List.setIfInBounds_toArray, List.set_cons_succ, List.set_cons_zero]
      refine Go.FreshS.wpF_gspec (by rfl) rfl rfl (fun w' hw' => ?_) ?_
      · have hb' := hw'.world
        refine Go.FreshS.gives_of (Go.FreshS.PK (.int .i64 vc)) ?_ (fun _ _ h => h.post)
        go_simp
        have CT := cmpN (NY.out.below hb').any (show y.n ≤ 10000000 from Nat.le_trans By.out (by decide)) (N1.out.below (KG.out.trans (hb'.mono KG.out.size))) (show x1.n ≤ 10000000 from Nat.le_trans Bx1.out (by decide))
        rw [show cmpZ (0 : Int) p1 = vc from Hvc.out.symm] at CT
        refine CT.mono ?_
        rintro e w'' ⟨rfl, hb⟩
        exact ⟨_, rfl, rfl, hb⟩
      rintro _ rfl
      conv => arg 10; simp only [Act.put, List.setIfInBounds_toArray, List.set_cons_succ, List.set_cons_zero]
      refine Go.FreshS.wpF_readsG (by rfl) rfl rfl ?_ (fun w' hw' => ?_) ?_
      rotate_left
      · have hb' := hw'.world
        have hs0 := (BX26.out.below hb' BX26.out.lt).cell (i := 0) rfl
        have hs1 := (BX26.out.below hb' BX26.out.lt).cell (i := 1) rfl
        have hsf := (BX26.out.below hb' BX26.out.lt).fz
        have hsl := (BX26.out.below hb' BX26.out.lt).lt
        clear hw'
        go_simp
        try rfl
      conv => arg 10; simp only [Act.put, List.setIfInBounds_toArray, List.set_cons_succ, List.set_cons_zero]
      refine Go.FreshS.wpF_readsG (by rfl) rfl rfl ?_ (fun w' hw' => ?_) ?_
      rotate_left
      · have hb' := hw'.world
        have hs0 := (BX1.out.below hb' BX1.out.lt).cell (i := 0) rfl
        have hs1 := (BX1.out.below hb' BX1.out.lt).cell (i := 1) rfl
        have hsf := (BX1.out.below hb' BX1.out.lt).fz
        have hsl := (BX1.out.below hb' BX1.out.lt).lt
        clear hw'
        go_simp
        try rfl
      conv => arg 10; simp only [Act.put, List.setIfInBounds_toArray, List.set_cons_succ, List.set_cons_zero]
      refine Go.FreshS.wpF_gspec (by rfl) rfl rfl (fun w' hw' => ?_) ?_
      · have hb' := hw'.world
        refine Go.FreshS.gives_of (Go.FreshS.PK (.int .i64 vc)) ?_ (fun _ _ h => h.post)
        go_simp
        have CT := cmpN (N25.out.below hb').k.any ((N25.out.below hb').k.len LZz0.out (by decide)) (N1.out.below (KG.out.trans (hb'.mono KG.out.size))) (show x1.n ≤ 10000000 from Nat.le_trans Bx1.out (by decide))
        rw [show cmpZ z0 p1 = vc from by rw [Hz0.out]; exact Hvc.out.symm] at CT
        refine CT.mono ?_
        rintro e w'' ⟨rfl, hb⟩
        exact ⟨_, rfl, rfl, hb⟩
      rintro _ rfl
      conv => arg 10; simp only [Act.put, List.setIfInBounds_toArray, List.set_cons_succ, List.set_cons_zero]
      refine Go.FreshS.wpF_readsG (by rfl) rfl rfl ?_ (fun w' hw' => ?_) ?_
      rotate_left
      · have hb' := hw'.world
        skip
        clear hw'
        go_simp
        try rfl
      conv => arg 10; simp only [Act.put, List.setIfInBounds_toArray, List.set_cons_succ, List.set_cons_zero]
      refine Go.FreshS.wpF_reads rfl rfl rfl ?_ (fun w' hw' => ?_) ?_
      rotate_left
      · have hb' := hw'.world
        skip
        clear hw'
        go_simp
        try rfl
      conv => arg 10; simp only [Act.put, List.setIfInBounds_toArray, List.set_cons_succ, List.set_cons_zero]
      refine Go.FreshS.wpF_reads rfl rfl rfl ?_ (fun w' hw' => ?_) ?_
      rotate_left
      · have hb' := hw'.world
        skip
        clear hw'
        go_simp
        try rfl
      conv => arg 10; simp only [Act.put, List.setIfInBounds_toArray, List.set_cons_succ, List.set_cons_zero]
      refine Go.FreshS.wpF_readsG (by rfl) rfl rfl ?_ (fun w' hw' => ?_) ?_
      rotate_left
      · have hb' := hw'.world
        have hs0 := (BX7.out.below hb' BX7.out.lt).cell (i := 0) rfl
        have hs1 := (BX7.out.below hb' BX7.out.lt).cell (i := 1) rfl
        have hsf := (BX7.out.below hb' BX7.out.lt).fz
        have hsl := (BX7.out.below hb' BX7.out.lt).lt
        clear hw'
        go_simp
        try rfl
      conv => arg 10; simp only [Act.put, List.setIfInBounds_toArray, List.set_cons_succ, List.set_cons_zero]
      refine Go.FreshS.wpF_readsG (by rfl) rfl rfl ?_ (fun w' hw' => ?_) ?_
      rotate_left
      · have hb' := hw'.world
        have hs0 := (BX1.out.below hb' BX1.out.lt).cell (i := 0) rfl
        have hs1 := (BX1.out.below hb' BX1.out.lt).cell (i := 1) rfl
        have hsf := (BX1.out.below hb' BX1.out.lt).fz
        have hsl := (BX1.out.below hb' BX1.out.lt).lt
        clear hw'
        go_simp
        try rfl
      conv => arg 10; simp only [Act.put, List.setIfInBounds_toArray, List.set_cons_succ, List.set_cons_zero]
      refine Go.FreshS.wpF_gspec (by rfl) rfl rfl (fun w' hw' => ?_) ?_
      · have hb' := hw'.world
        refine Go.FreshS.gives_of (Go.FreshS.PM (fun x : NV => x.v) (fun x w' => DN w' v27.heap.size x p1) NV.blk w'.heap.size) ?_ (fun _ _ h => h.post @NV.inj)
        go_simp
        have CT := addN (NY.out.below hb').any (show y.n ≤ 10000000 from Nat.le_trans By.out (by decide)) (N1.out.below (KG.out.trans (hb'.mono KG.out.size))) (show x1.n ≤ 10000000 from Nat.le_trans Bx1.out (by decide))
        rw [show (0 : Int) + p1 = p1 from Int.zero_add p1] at CT
        refine CT.mono ?_
        rintro e w'' ⟨za, rfl, ho, hb⟩
        exact ⟨_, rfl, ⟨za, rfl, ho.mono hb'.size, ho.blks⟩, hb⟩
      rintro _ ⟨y37, rfl⟩
      conv => arg 10; simp only [Act.put, List.setIfInBounds_toArray, List.set_cons_succ, List.set_cons_zero]
      refine Go.FreshS.wpF_readsG (by rfl) rfl rfl ?_ (fun w' hw' => ?_) ?_
      rotate_left
      · have hb' := hw'.world
        have hs0 := (BX26.out.below hb' BX26.out.lt).cell (i := 0) rfl
        have hs1 := (BX26.out.below hb' BX26.out.lt).cell (i := 1) rfl
        have hsf := (BX26.out.below hb' BX26.out.lt).fz
        have hsl := (BX26.out.below hb' BX26.out.lt).lt
        clear hw'
        go_simp
        try rfl
      conv => arg 10; simp only [Act.put, List.setIfInBounds_toArray, List.set_cons_succ, List.set_cons_zero]
      refine Go.FreshS.wpF_readsG (by rfl) rfl rfl ?_ (fun w' hw' => ?_) ?_
      rotate_left
      · have hb' := hw'.world
        have hs0 := (BX1.out.below hb' BX1.out.lt).cell (i := 0) rfl
        have hs1 := (BX1.out.below hb' BX1.out.lt).cell (i := 1) rfl
        have hsf := (BX1.out.below hb' BX1.out.lt).fz
        have hsl := (BX1.out.below hb' BX1.out.lt).lt
        clear hw'
        go_simp
        try rfl
      conv => arg 10; simp only [Act.put, List.setIfInBounds_toArray, List.set_cons_succ, List.set_cons_zero]
      refine Go.FreshS.wpF_gspec (by rfl) rfl rfl (fun w' hw' => ?_) ?_
      · have hb' := hw'.world
        refine Go.FreshS.gives_of (Go.FreshS.PM (fun x : NV => x.v) (fun x w' => DN w' v27.heap.size x p1) NV.blk w'.heap.size) ?_ (fun _ _ h => h.post @NV.inj)
        go_simp
        have CT := addN (N25.out.below hb').k.any ((N25.out.below hb').k.len LZz0.out (by decide)) (N1.out.below (KG.out.trans (hb'.mono KG.out.size))) (show x1.n ≤ 10000000 from Nat.le_trans Bx1.out (by decide))
        rw [show z0 + p1 = p1 from by rw [Hz0.out]; exact Int.zero_add p1] at CT
        refine CT.mono ?_
        rintro e w'' ⟨za, rfl, ho, hb⟩
        exact ⟨_, rfl, ⟨za, rfl, ho.mono hb'.size, ho.blks⟩, hb⟩
      rintro _ ⟨y40, rfl⟩
      conv => arg 10; simp only [Act.put, List.setIfInBounds_toArray, List.set_cons_succ, List.set_cons_zero]
      refine Go.FreshS.wpF_gspec (by rfl) rfl rfl (fun w' hw' => ?_) ?_
      · have hb' := hw'.world
        refine Go.FreshS.gives_of (Go.FreshS.PK (.bool true)) ?_ (fun _ _ h => h.post)
        go_simp
        have f37 := Go.FreshS.made_of (val := fun x : NV => x.v) (Φ := fun x w' => DN w' v27.heap.size x p1) @NV.inj (hw'.fact 37 (by kernel_rfl))
        have f40 := Go.FreshS.made_of (val := fun x : NV => x.v) (Φ := fun x w' => DN w' v27.heap.size x p1) @NV.inj (hw'.fact 40 (by kernel_rfl))
        have CT := sameTN f37.k (f37.k.len LZp1.out (by decide)) f40.k (f40.k.len LZp1.out (by decide)) (rfl)
        refine CT.mono ?_
        rintro e w'' ⟨rfl, hb⟩
        exact ⟨_, rfl, rfl, hb⟩
      rintro _ rfl
      conv => arg 10; simp only [Act.put, List.setIfInBounds_toArray, List.set_cons_succ, List.set_cons_zero]
      refine Go.FreshS.wpF_reads rfl rfl rfl ?_ (fun w' hw' => ?_) ?_
      rotate_left
      · have hb' := hw'.world
        skip
        clear hw'
        go_simp
        try rfl
      conv => arg 10; simp only [Act.put, List.setIfInBounds_toArray, List.set_cons_succ, List.set_cons_zero]
      refine Go.FreshS.wpF_reads rfl rfl rfl ?_ (fun w' hw' => ?_) ?_
      rotate_left
      · have hb' := hw'.world
        skip
        clear hw'
        go_simp
        try rfl
      conv => arg 10; simp only [Act.put, List.setIfInBounds_toArray, List.set_cons_succ, List.set_cons_zero]
      refine Go.FreshS.wpF_readsG (by rfl) rfl rfl ?_ (fun w' hw' => ?_) ?_
      rotate_left
      · have hb' := hw'.world
        have hs0 := (BX1.out.below hb' BX1.out.lt).cell (i := 0) rfl
        have hs1 := (BX1.out.below hb' BX1.out.lt).cell (i := 1) rfl
        have hsf := (BX1.out.below hb' BX1.out.lt).fz
        have hsl := (BX1.out.below hb' BX1.out.lt).lt
        clear hw'
        go_simp
        try rfl
      conv => arg 10; simp only [Act.put, List.setIfInBounds_toArray, List.set_cons_succ, List.set_cons_zero]
      refine Go.FreshS.wpF_readsG (by rfl) rfl rfl ?_ (fun w' hw' => ?_) ?_
      rotate_left
      · have hb' := hw'.world
        have hs0 := (BX7.out.below hb' BX7.out.lt).cell (i := 0) rfl
        have hs1 := (BX7.out.below hb' BX7.out.lt).cell (i := 1) rfl
        have hsf := (BX7.out.below hb' BX7.out.lt).fz
        have hsl := (BX7.out.below hb' BX7.out.lt).lt
        clear hw'
        go_simp
        try rfl
      conv => arg 10; simp only [Act.put, List.setIfInBounds_toArray, List.set_cons_succ, List.set_cons_zero]
      refine Go.FreshS.wpF_gspec (by rfl) rfl rfl (fun w' hw' => ?_) ?_
      · have hb' := hw'.world
        refine Go.FreshS.gives_of (Go.FreshS.PM (fun x : Option Addr × Nat => .agg #[.bool false, .slice x.1 0 x.2]) (fun _ _ => True) (fun _ _ => False) w'.heap.size) ?_ (fun _ _ h => h.post inj0)
        go_simp
        have CT := mulN (N1.out.below (KG.out.trans (hb'.mono KG.out.size))) (show x1.n ≤ 10000000 from Nat.le_trans Bx1.out (by decide)) (NY.out.below hb').any (show y.n ≤ 10000000 from Nat.le_trans By.out (by decide))
        rw [show p1 * (0 : Int) = 0 from Int.mul_zero p1] at CT
        refine CT.mono ?_
        rintro e w'' ⟨za, rfl, ho, hb⟩
        rw [ho.k.zv]
        exact ⟨_, rfl, ⟨(za.a, za.c), rfl, trivial, fun _ h => False.elim h⟩, hb⟩
      rintro _ ⟨y46, rfl⟩
      conv => arg 10; simp only [Act.put, List.setIfInBounds_toArray, List.set_cons_succ, List.set_cons_zero]
      refine Go.FreshS.wpF_readsG (by rfl) rfl rfl ?_ (fun w' hw' => ?_) ?_
      rotate_left
      · have hb' := hw'.world
        have hs := field_num false y46.1 0 y46.2 w'
        clear hw'
        go_simp
        try rfl
      conv => arg 10; simp only [Act.put, List.setIfInBounds_toArray, List.set_cons_succ, List.set_cons_zero]
      refine Go.FreshS.wpF_readsG (by rfl) rfl rfl ?_ (fun w' hw' => ?_) ?_
      rotate_left
      · have hb' := hw'.world
        skip
        clear hw'
        go_simp
        try rfl
      conv => arg 10; simp only [Act.put, List.setIfInBounds_toArray, List.set_cons_succ, List.set_cons_zero]
      refine Go.FreshS.wpF_readsG (by rfl) rfl rfl ?_ (fun w' hw' => ?_) ?_
      rotate_left
      · have hb' := hw'.world
        skip
        clear hw'
        go_simp
        try rfl
      conv => arg 10; simp only [Act.put, List.setIfInBounds_toArray, List.set_cons_succ, List.set_cons_zero]
      refine Go.FreshS.wpF_reads rfl rfl rfl ?_ (fun w' hw' => ?_) ?_
      rotate_left
      · have hb' := hw'.world
        skip
        clear hw'
        go_simp
        try rfl
      conv => arg 10; simp only [Act.put, List.setIfInBounds_toArray, List.set_cons_succ, List.set_cons_zero]
      refine Go.FreshS.wpF_reads rfl rfl rfl ?_ (fun w' hw' => ?_) ?_
      rotate_left
      · have hb' := hw'.world
        skip
        clear hw'
        go_simp
        try rfl
      conv => arg 10; simp only [Act.put, List.setIfInBounds_toArray, List.set_cons_succ, List.set_cons_zero]
      refine Go.FreshS.wpF_readsG (by rfl) rfl rfl ?_ (fun w' hw' => ?_) ?_
      rotate_left
      · have hb' := hw'.world
        have hs0 := (BX7.out.below hb' BX7.out.lt).cell (i := 0) rfl
        have hs1 := (BX7.out.below hb' BX7.out.lt).cell (i := 1) rfl
        have hsf := (BX7.out.below hb' BX7.out.lt).fz
        have hsl := (BX7.out.below hb' BX7.out.lt).lt
        clear hw'
        go_simp
        try rfl
      conv => arg 10; simp only [Act.put, List.setIfInBounds_toArray, List.set_cons_succ, List.set_cons_zero]
      refine Go.FreshS.wpF_readsG (by rfl) rfl rfl ?_ (fun w' hw' => ?_) ?_
      rotate_left
      · have hb' := hw'.world
        have hs0 := (BX1.out.below hb' BX1.out.lt).cell (i := 0) rfl
        have hs1 := (BX1.out.below hb' BX1.out.lt).cell (i := 1) rfl
        have hsf := (BX1.out.below hb' BX1.out.lt).fz
        have hsl := (BX1.out.below hb' BX1.out.lt).lt
        clear hw'
        go_simp
        try rfl
      conv => arg 10; simp only [Act.put, List.setIfInBounds_toArray, List.set_cons_succ, List.set_cons_zero]
      refine Go.FreshS.wpF_gspec (by rfl) rfl rfl (fun w' hw' => ?_) ?_
      · have hb' := hw'.world
        refine Go.FreshS.gives_of (Go.FreshS.PM (fun x : NV => x.v) (fun x w' => DN w' v27.heap.size x zg0) NV.blk w'.heap.size) ?_ (fun _ _ h => h.post @NV.inj)
        go_simp
        have CT := gcdN (NY.out.below hb').any (show y.n ≤ 10000000 from Nat.le_trans By.out (by decide)) (N1.out.below (KG.out.trans (hb'.mono KG.out.size))) (show x1.n ≤ 10000000 from Nat.le_trans Bx1.out (by decide))
        rw [show ((Int.gcd (0 : Int) p1 : Nat) : Int) = zg0 from Hzg0.out.symm] at CT
        refine CT.mono ?_
        rintro e w'' ⟨za, rfl, ho, hb⟩
        exact ⟨_, rfl, ⟨za, rfl, ho.mono hb'.size, ho.blks⟩, hb⟩
      rintro _ ⟨y54, rfl⟩
      conv => arg 10; simp only [Act.put, List.setIfInBounds_toArray, List.set_cons_succ, List.set_cons_zero]
      refine Go.FreshS.wpF_readsG (by rfl) rfl rfl ?_ (fun w' hw' => ?_) ?_
      rotate_left
      · have hb' := hw'.world
        have hs0 := (BX26.out.below hb' BX26.out.lt).cell (i := 0) rfl
        have hs1 := (BX26.out.below hb' BX26.out.lt).cell (i := 1) rfl
        have hsf := (BX26.out.below hb' BX26.out.lt).fz
        have hsl := (BX26.out.below hb' BX26.out.lt).lt
        clear hw'
        go_simp
        try rfl
      conv => arg 10; simp only [Act.put, List.setIfInBounds_toArray, List.set_cons_succ, List.set_cons_zero]
      refine Go.FreshS.wpF_readsG (by rfl) rfl rfl ?_ (fun w' hw' => ?_) ?_
      rotate_left
      · have hb' := hw'.world
        have hs0 := (BX1.out.below hb' BX1.out.lt).cell (i := 0) rfl
        have hs1 := (BX1.out.below hb' BX1.out.lt).cell (i := 1) rfl
        have hsf := (BX1.out.below hb' BX1.out.lt).fz
        have hsl := (BX1.out.below hb' BX1.out.lt).lt
        clear hw'
        go_simp
        try rfl
      conv => arg 10; simp only [Act.put, List.setIfInBounds_toArray, List.set_cons_succ, List.set_cons_zero]
      refine Go.FreshS.wpF_gspec (by rfl) rfl rfl (fun w' hw' => ?_) ?_
      · have hb' := hw'.world
        refine Go.FreshS.gives_of (Go.FreshS.PM (fun x : NV => x.v) (fun x w' => DN w' v27.heap.size x zg0) NV.blk w'.heap.size) ?_ (fun _ _ h => h.post @NV.inj)
        go_simp
        have CT := gcdN (N25.out.below hb').k.any ((N25.out.below hb').k.len LZz0.out (by decide)) (N1.out.below (KG.out.trans (hb'.mono KG.out.size))) (show x1.n ≤ 10000000 from Nat.le_trans Bx1.out (by decide))
        rw [show ((Int.gcd z0 p1 : Nat) : Int) = zg0 from by rw [Hz0.out]; exact Hzg0.out.symm] at CT
        refine CT.mono ?_
        rintro e w'' ⟨za, rfl, ho, hb⟩
        exact ⟨_, rfl, ⟨za, rfl, ho.mono hb'.size, ho.blks⟩, hb⟩
      rintro _ ⟨y57, rfl⟩
      conv => arg 10; simp only [Act.put, List.setIfInBounds_toArray, List.set_cons_succ, List.set_cons_zero]
      refine Go.FreshS.wpF_gspec (by rfl) rfl rfl (fun w' hw' => ?_) ?_
      · have hb' := hw'.world
        refine Go.FreshS.gives_of (Go.FreshS.PK (.bool true)) ?_ (fun _ _ h => h.post)
        go_simp
        have f54 := Go.FreshS.made_of (val := fun x : NV => x.v) (Φ := fun x w' => DN w' v27.heap.size x zg0) @NV.inj (hw'.fact 54 (by kernel_rfl))
        have f57 := Go.FreshS.made_of (val := fun x : NV => x.v) (Φ := fun x w' => DN w' v27.heap.size x zg0) @NV.inj (hw'.fact 57 (by kernel_rfl))
        have CT := sameTN f54.k (f54.k.len LZzg0.out (by decide)) f57.k (f57.k.len LZzg0.out (by decide)) (rfl)
        refine CT.mono ?_
        rintro e w'' ⟨rfl, hb⟩
        exact ⟨_, rfl, rfl, hb⟩
      rintro _ rfl
      conv => arg 10; simp only [Act.put, List.setIfInBounds_toArray, List.set_cons_succ, List.set_cons_zero]
      refine Go.FreshS.wpF_reads rfl rfl rfl ?_ (fun w' hw' => ?_) ?_
      rotate_left
      · have hb' := hw'.world
        skip
        clear hw'
        go_simp
        try rfl
      conv => arg 10; simp only [Act.put, List.setIfInBounds_toArray, List.set_cons_succ, List.set_cons_zero]
      refine Go.FreshS.wpF_reads rfl rfl rfl ?_ (fun w' hw' => ?_) ?_
      rotate_left
      · have hb' := hw'.world
        skip
        clear hw'
        go_simp
        try rfl
      conv => arg 10; simp only [Act.put, List.setIfInBounds_toArray, List.set_cons_succ, List.set_cons_zero]
      refine Go.FreshS.wpF_readsG (by rfl) rfl rfl ?_ (fun w' hw' => ?_) ?_
      rotate_left
      · have hb' := hw'.world
        have hs0 := (BX7.out.below hb' BX7.out.lt).cell (i := 0) rfl
        have hs1 := (BX7.out.below hb' BX7.out.lt).cell (i := 1) rfl
        have hsf := (BX7.out.below hb' BX7.out.lt).fz
        have hsl := (BX7.out.below hb' BX7.out.lt).lt
        clear hw'
        go_simp
        try rfl
      conv => arg 10; simp only [Act.put, List.setIfInBounds_toArray, List.set_cons_succ, List.set_cons_zero]
      refine Go.FreshS.wpF_gspec (by rfl) rfl rfl (fun w' hw' => ?_) ?_
      · have hb' := hw'.world
        refine Go.FreshS.gives_of (Go.FreshS.PM (fun x : Option Addr × Nat => .agg #[.bool false, .slice x.1 0 x.2]) (fun _ _ => True) (fun _ _ => False) w'.heap.size) ?_ (fun _ _ h => h.post inj0)
        go_simp
        have CT := negN (NY.out.below hb').any (show y.n ≤ 10000000 from Nat.le_trans By.out (by decide))
        rw [show -(0 : Int) = 0 from rfl] at CT
        refine CT.mono ?_
        rintro e w'' ⟨za, rfl, ho, hb⟩
        rw [ho.k.zv]
        exact ⟨_, rfl, ⟨(za.a, za.c), rfl, trivial, fun _ h => False.elim h⟩, hb⟩
      rintro _ ⟨y62, rfl⟩
      conv => arg 10; simp only [Act.put, List.setIfInBounds_toArray, List.set_cons_succ, List.set_cons_zero]
      refine Go.FreshS.wpF_readsG (by rfl) rfl rfl ?_ (fun w' hw' => ?_) ?_
      rotate_left
      · have hb' := hw'.world
        have hs := field_num false y62.1 0 y62.2 w'
        clear hw'
        go_simp
        try rfl
      conv => arg 10; simp only [Act.put, List.setIfInBounds_toArray, List.set_cons_succ, List.set_cons_zero]
      refine Go.FreshS.wpF_readsG (by rfl) rfl rfl ?_ (fun w' hw' => ?_) ?_
      rotate_left
      · have hb' := hw'.world
        skip
        clear hw'
        go_simp
        try rfl
      conv => arg 10; simp only [Act.put, List.setIfInBounds_toArray, List.set_cons_succ, List.set_cons_zero]
      refine Go.FreshS.wpF_readsG (by rfl) rfl rfl ?_ (fun w' hw' => ?_) ?_
      rotate_left
      · have hb' := hw'.world
        skip
        clear hw'
        go_simp
        try rfl
      conv => arg 10; simp only [Act.put, List.setIfInBounds_toArray, List.set_cons_succ, List.set_cons_zero]
      refine Go.FreshS.wpF_reads rfl rfl rfl ?_ (fun w' hw' => ?_) ?_
      rotate_left
      · have hb' := hw'.world
        skip
        clear hw'
        go_simp
        try rfl
      conv => arg 10; simp only [Act.put, List.setIfInBounds_toArray, List.set_cons_succ, List.set_cons_zero]
      refine Go.FreshS.wpF_reads rfl rfl rfl ?_ (fun w' hw' => ?_) ?_
      rotate_left
      · have hb' := hw'.world
        skip
        clear hw'
        go_simp
        try rfl
      conv => arg 10; simp only [Act.put, List.setIfInBounds_toArray, List.set_cons_succ, List.set_cons_zero]
      refine Go.FreshS.wpF_readsG (by rfl) rfl rfl ?_ (fun w' hw' => ?_) ?_
      rotate_left
      · have hb' := hw'.world
        have hs0 := (BX1.out.below hb' BX1.out.lt).cell (i := 0) rfl
        have hs1 := (BX1.out.below hb' BX1.out.lt).cell (i := 1) rfl
        have hsf := (BX1.out.below hb' BX1.out.lt).fz
        have hsl := (BX1.out.below hb' BX1.out.lt).lt
        clear hw'
        go_simp
        try rfl
      conv => arg 10; simp only [Act.put, List.setIfInBounds_toArray, List.set_cons_succ, List.set_cons_zero]
      refine Go.FreshS.wpF_readsG (by rfl) rfl rfl ?_ (fun w' hw' => ?_) ?_
      rotate_left
      · have hb' := hw'.world
        have hs0 := (BX7.out.below hb' BX7.out.lt).cell (i := 0) rfl
        have hs1 := (BX7.out.below hb' BX7.out.lt).cell (i := 1) rfl
        have hsf := (BX7.out.below hb' BX7.out.lt).fz
        have hsl := (BX7.out.below hb' BX7.out.lt).lt
        clear hw'
        go_simp
        try rfl
      conv => arg 10; simp only [Act.put, List.setIfInBounds_toArray, List.set_cons_succ, List.set_cons_zero]
      refine Go.FreshS.wpF_gspec (by rfl) rfl rfl (fun w' hw' => ?_) ?_
      · have hb' := hw'.world
        refine Go.FreshS.gives_of (Go.FreshS.PM (fun x : NV => x.v) (fun x w' => DN w' v27.heap.size x p1) NV.blk w'.heap.size) ?_ (fun _ _ h => h.post @NV.inj)
        go_simp
        have CT := subN (N1.out.below (KG.out.trans (hb'.mono KG.out.size))) (show x1.n ≤ 10000000 from Nat.le_trans Bx1.out (by decide)) (NY.out.below hb').any (show y.n ≤ 10000000 from Nat.le_trans By.out (by decide))
        rw [show p1 - (0 : Int) = p1 from Int.sub_zero p1] at CT
        refine CT.mono ?_
        rintro e w'' ⟨za, rfl, ho, hb⟩
        exact ⟨_, rfl, ⟨za, rfl, ho.mono hb'.size, ho.blks⟩, hb⟩
      rintro _ ⟨y70, rfl⟩
      conv => arg 10; simp only [Act.put, List.setIfInBounds_toArray, List.set_cons_succ, List.set_cons_zero]
      refine Go.FreshS.wpF_readsG (by rfl) rfl rfl ?_ (fun w' hw' => ?_) ?_
      rotate_left
      · have hb' := hw'.world
        have hs0 := (BX1.out.below hb' BX1.out.lt).cell (i := 0) rfl
        have hs1 := (BX1.out.below hb' BX1.out.lt).cell (i := 1) rfl
        have hsf := (BX1.out.below hb' BX1.out.lt).fz
        have hsl := (BX1.out.below hb' BX1.out.lt).lt
        clear hw'
        go_simp
        try rfl
      conv => arg 10; simp only [Act.put, List.setIfInBounds_toArray, List.set_cons_succ, List.set_cons_zero]
      refine Go.FreshS.wpF_readsG (by rfl) rfl rfl ?_ (fun w' hw' => ?_) ?_
      rotate_left
      · have hb' := hw'.world
        have hs0 := (BX26.out.below hb' BX26.out.lt).cell (i := 0) rfl
        have hs1 := (BX26.out.below hb' BX26.out.lt).cell (i := 1) rfl
        have hsf := (BX26.out.below hb' BX26.out.lt).fz
        have hsl := (BX26.out.below hb' BX26.out.lt).lt
        clear hw'
        go_simp
        try rfl
      conv => arg 10; simp only [Act.put, List.setIfInBounds_toArray, List.set_cons_succ, List.set_cons_zero]
      refine Go.FreshS.wpF_gspec (by rfl) rfl rfl (fun w' hw' => ?_) ?_
      · have hb' := hw'.world
        refine Go.FreshS.gives_of (Go.FreshS.PM (fun x : NV => x.v) (fun x w' => DN w' v27.heap.size x p1) NV.blk w'.heap.size) ?_ (fun _ _ h => h.post @NV.inj)
        go_simp
        have CT := subN (N1.out.below (KG.out.trans (hb'.mono KG.out.size))) (show x1.n ≤ 10000000 from Nat.le_trans Bx1.out (by decide)) (N25.out.below hb').k.any ((N25.out.below hb').k.len LZz0.out (by decide))
        rw [show p1 - z0 = p1 from by rw [Hz0.out]; exact Int.sub_zero p1] at CT
        refine CT.mono ?_
        rintro e w'' ⟨za, rfl, ho, hb⟩
        exact ⟨_, rfl, ⟨za, rfl, ho.mono hb'.size, ho.blks⟩, hb⟩
      rintro _ ⟨y73, rfl⟩
      conv => arg 10; simp only [Act.put, List.setIfInBounds_toArray, List.set_cons_succ, List.set_cons_zero]
      refine Go.FreshS.wpF_gspec (by rfl) rfl rfl (fun w' hw' => ?_) ?_
      · have hb' := hw'.world
        refine Go.FreshS.gives_of (Go.FreshS.PK (.bool true)) ?_ (fun _ _ h => h.post)
        go_simp
        have f70 := Go.FreshS.made_of (val := fun x : NV => x.v) (Φ := fun x w' => DN w' v27.heap.size x p1) @NV.inj (hw'.fact 70 (by kernel_rfl))
        have f73 := Go.FreshS.made_of (val := fun x : NV => x.v) (Φ := fun x w' => DN w' v27.heap.size x p1) @NV.inj (hw'.fact 73 (by kernel_rfl))
        have CT := sameTN f70.k (f70.k.len LZp1.out (by decide)) f73.k (f73.k.len LZp1.out (by decide)) (rfl)
        refine CT.mono ?_
        rintro e w'' ⟨rfl, hb⟩
        exact ⟨_, rfl, rfl, hb⟩
      rintro _ rfl
      conv => arg 10; simp only [Act.put, List.setIfInBounds_toArray, List.set_cons_succ, List.set_cons_zero]
      refine Go.FreshS.wpF_reads rfl rfl rfl ?_ (fun w' hw' => ?_) ?_
      rotate_left
      · have hb' := hw'.world
        skip
        clear hw'
        go_simp
        try rfl
      conv => arg 10; simp only [Act.put, List.setIfInBounds_toArray, List.set_cons_succ, List.set_cons_zero]
      refine Go.FreshS.wpF_nil (fun w28 hb hF => ?_)
      clear hF
      clear NY
      clear N25
      clear BX1
      clear BX7
      clear BX26
      have KG := Lib.hid (KG.out.trans (hb.mono KG.out.size))
      clear hb
      go_wp2_with fail
      go_ret
      exact ⟨rfl, KG.out⟩
theorem limbsNone_law (s1 : Bool) (a1 : Option Addr) (n1 c1 : Nat) (o1 : Nat → Int) (k : Int) (w : World) (htab : Tab w) (h1 : Rd w a1 n1 o1) (hc1 : n1 ≤ c1) (_ : 0 ≤ k) (_ : k ≤ 255) :
    Calls Tryz.prog 11 #[numV s1 a1 n1 c1, .int .u8 k] w fun e w' => e = .returned (.bool true) ∧ Below w.heap.size w w' := by
  by_cases hg : 60 < n1
  · exact none_great ⟨s1, a1, n1, c1⟩ _ o1 k w htab h1 (AN.raw h1 hc1) hg
  · exact none_walk ⟨s1, a1, n1, c1⟩ _ o1 k w htab h1 (AN.raw h1 hc1) (by show n1 ≤ 60; omega)
end Go.Proofs.YtkpajfjjhbbieaaGreatDoor.Limb
namespace Go.Proofs.YtkpajfjjhbbieaaGreatDoor.Limb
open Go.RowKit Go.Sort

/-! ### The row and the card -/
open Go.ChangeShapes Go.WideShapes Go.ChangeAt
namespace LimbsNoneC
theorem own : ownKnob Tryz.prog.godebug = none := by kernel_rfl
theorem laidOut : laidOutB Tryz.prog = true := by kernel_rfl

theorem tab_of_laid (W : World) (hL : laidMet Tryz.prog Rows.limbsNoneRow.laid W) : Tab W :=
  Lib.tabIs_of_head (g := 2) (by kernel_rfl) (by kernel_rfl) (t := 235) (n := 20) (e := 74) Tryz.underlying235 Tryz.underlying74 (by kernel_rfl) (by kernel_rfl) hL.tail.tail
/-- A WORLD FOR THE WITNESS: the settled one, the tables holding what their initialisers lay. -/
noncomputable def laidWorld (os : Os) : World := World.laidAll Tryz.prog os Rows.limbsNoneRow.laid
noncomputable def witArgs : Array Value := #[numV false none 0 0, .int .u8 0]
theorem laid_met (os : Os) : laidMet Tryz.prog Rows.limbsNoneRow.laid ((laidWorld os).forCall (fun _ _ => 0) ⟨#[], witArgs, []⟩).memory :=
  laidMet_laidAll _ (by kernel_rfl) (by kernel_rfl)
theorem reads (os : Os) {H : Type} (enc : TypeId × Value → H) : ∃ places, DataW.whole enc Tryz.prog ((laidWorld os).forCall (fun _ _ => 0) ⟨#[], witArgs, []⟩).memory Tryz.f11.params.toList Rows.limbsNoneSpec.vars false witArgs.toList 8 = some ([.agg [.lit (.bool false), .nil], .lit (.int .u8 0)], [], places) :=
  ⟨[], by kernel_rfl⟩

set_option maxRecDepth 100000 in
theorem lifted (os : Os) (started : os.Started) (H : Type) (enc : TypeId × Value → H) (F : Stop.Interp) :
    ReturnsInHanded {} Tryz.checked os 11 .any ((OpenSpec.ofChange Rows.limbsNoneSpec).preRow enc Tryz.prog Tryz.f11 Rows.limbsNoneRow.domain false Rows.limbsNoneRow.laid) (((OpenSpec.ofChange Rows.limbsNoneSpec).at F).post enc Tryz.prog Tryz.f11 false true false false) := by
  obtain ⟨places, hx⟩ := reads os enc
  refine returnsInHanded_of_row (C := Tryz.checked) (s := OpenSpec.ofChange Rows.limbsNoneSpec) own started (by kernel_rfl) Tryz.func11
    (witness_row_atRef (enc := enc) (C := Tryz.checked) false (laidWorld os) witArgs (World.laidAll_os _ _ _) (by kernel_rfl) (by kernel_rfl) (by kernel_rfl)
      (OpenSpec.preRow_of_cond 8 hx (by kernel_rfl) (fun k hk => by cases hk) (by kernel_rfl) (laid_met os))) ?_
  intro W base args ds gs before hval0 hW _ _ _ hL _ _
  rw [MakeChecks.laidMetH_plain _ _ _ (by kernel_rfl)] at hL
  have htab : Tab W := tab_of_laid W hL
  have hval : ∀ (j : Nat) t v, Tryz.f11.params[j]? = some t → args[j]? = some v → Value.okWide Tryz.prog W .any base t v := hval0
  have hW' := hW
  obtain ⟨p, q, hA0, hV, rfl, hfz, hnd⟩ := hW
  have hA : DataW.TrodAll enc Tryz.prog W 0 (fun _ => true) true Tryz.f11.params.toList args.toList ds p := hA0
  rw [Tryz.params11] at hA hval
  obtain ⟨v0, v1, d0, d1, p0, p1, rfl, rfl, rfl, h0, h1⟩ := trodAll_two hA
  obtain ⟨rfl, rfl⟩ := trodVars_none hV
  obtain ⟨s1, a1, n1, c1, o1, rfl, r1, l1⟩ := open_num (hval 0 24 v0 rfl rfl) h0
  obtain ⟨z1, rfl, -, -, wz1⟩ := open_int Tryz.underlying5 (hval 1 5 v1 rfl rfl) h1
  refine (limbsNone_law s1 a1 n1 c1 o1 z1 W htab r1 l1 (bounds_u8 wz1).1 (bounds_u8 wz1).2).mono fun e W' ⟨he, hg⟩ => ?_
  subst he
  exact ⟨_, rfl, LawPost.law_post laidOut (by kernel_rfl) (by kernel_rfl) Tryz.underlying4 hW' rfl rfl hg⟩

theorem said : Rows.LimbsNoneSaid :=
  OpenClaim.holds_of_cond 11 Tryz.f11 rfl rfl rfl rfl rfl rfl rfl ⟨rfl, rfl, rfl, rfl, rfl⟩ rfl rfl rfl rfl rfl (by kernel_rfl) Tryz.func11 (by kernel_rfl)
    (of_decide_eq_true (by kernel_rfl)) (by unfold Func.isWrapper; first | (rw [if_pos (by decide +kernel)]; kernel_rfl) | (rw [if_neg (by decide +kernel)]; exact ⟨rfl, rfl⟩))
    (fun os started H enc _ F => by rw [OpenClaim.pre_eq_preRow]; exact lifted os started H enc F)

/-- No parameter wants a stand-in; the program's own looks are off: what the card asks. -/
theorem plain (f : FuncId) (fn : Func) (hf : Tryz.pinned.checked.prog.funcNamed "reckoner/reckonerlaw01.LimbsNone" = some f) (hfn : Tryz.pinned.checked.prog.funcs[f]? = some fn) :
    true = Tryz.pinned.checked.prog.looks [] ∧ ∀ (j : Nat) t, fn.params[j]? = some t → Tryz.pinned.checked.prog.wantsStandIn t = false := by
  obtain rfl : f = 11 := Option.some.inj ((show Tryz.prog.funcNamed "reckoner/reckonerlaw01.LimbsNone" = some 11 by kernel_rfl).symm.trans hf) |>.symm
  obtain rfl : fn = Tryz.f11 := (Option.some.inj (Tryz.func11.symm.trans hfn)).symm
  refine ⟨by kernel_rfl, fun j t ht => ?_⟩
  rw [Tryz.params11] at ht
  have hm : t = 24 ∨ t = 5 := by simpa using Array.mem_of_getElem? ht
  rcases hm with rfl | rfl
  · exact (show Tryz.prog.wantsStandIn 24 = false by kernel_rfl)
  · exact (show Tryz.prog.wantsStandIn 5 = false by kernel_rfl)

/-- The card. -/
theorem card : Rows.LimbsNoneCardSaid :=
  Claim7.holds_tied_plain_at .later [] _ _ _ _ said (fun _ h => by cases h) (by kernel_rfl) (fun _ h => by cases h) limbsNone_row_tie rfl ⟨rfl, rfl⟩ (by kernel_rfl) rfl plain (by kernel_rfl)
#print axioms card
end LimbsNoneC
end Go.Proofs.YtkpajfjjhbbieaaGreatDoor.Limb
