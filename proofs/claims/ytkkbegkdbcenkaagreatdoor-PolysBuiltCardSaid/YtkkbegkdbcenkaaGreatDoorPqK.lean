/-
  The walks of what polys.At asks of a place.
-/
import Derived.Test.YtkkbegkdbcenkaaGreatDoorPqJ
import Derived.Lib.EndianBits
set_option linter.unusedSimpArgs false
set_option linter.unusedVariables false
namespace Go.Proofs.YtkkbegkdbcenkaaGreatDoor.Pol
open Go.RowKit Go.Sort Go.Proofs.YtkkbegkdbcenkaaGreatDoor.Limb
def IR (w : World) (e : Ending) (w' : World) : Prop := ∃ z : Int, e = .returned (.int .i64 z) ∧ Below w.heap.size w w'
theorem IR.is {w w' : World} (z : Int) (h : Below w.heap.size w w') : IR w (.returned (.int .i64 z)) w' := ⟨z, rfl, h⟩
def BR (w : World) (Φ : Prop) (e : Ending) (w' : World) : Prop := ∃ b : Bool, e = .returned (.bool b) ∧ (b = false → Φ) ∧ Below w.heap.size w w'
theorem BR.yes {w w' : World} {Φ : Prop} (h : Below w.heap.size w w') : BR w Φ (.returned (.bool true)) w' := ⟨true, rfl, nofun, h⟩
theorem BR.no {w w' : World} {Φ : Prop} (h : Below w.heap.size w w') (hp : Φ) : BR w Φ (.returned (.bool false)) w' := ⟨false, rfl, fun _ => hp, h⟩
set_option maxRecDepth 100000 in
set_option maxHeartbeats 4000000 in
theorem limbs_size (a : Option Addr) (n c : Nat) (w : World) : Calls Tryz.prog 90 #[.slice a n c] w fun e w' => IR w e w' := by
 go_enter Tryz.func90, Tryz.ntmps90
 go_wp2_with fail
 go_ret
 exact IR.is _ (Below.refl _ _)
set_option maxRecDepth 100000 in
set_option maxHeartbeats 4000000 in
theorem num_size (s : Bool) (a : Option Addr) (n c : Nat) (w : World) : Calls Tryz.prog 59 #[.agg #[.bool s, .slice a n c]] w fun e w' => IR w e w' := by
 obtain ⟨V, hV⟩ : ∃ V, V = w.alloc (.cells #[.bool s, .slice a n c] 33) := ⟨_, rfl⟩
 have hbV : Below w.heap.size w V := by rw [hV]; exact (Below.refl _ _).alloc (Nat.le_refl _) _
 have B1 := Lib.hid (show Bxs V w.heap.size 33 [.bool s, .slice a n c] by rw [hV]; exact Bxs.new w 33 [.bool s, .slice a n c])
 have KG := Lib.hid hbV
 have HV := Lib.hid hV
 clear hV hbV
 go_enter Tryz.func59, Tryz.ntmps59
 go_upto_region 1 with (fail)
 rw [show w.alloc (.cells #[.bool s, .slice a n c] 33) = V from HV.out.symm]
 have c0 := B1.out.cell (i := 0) rfl
 have c1 := B1.out.cell (i := 1) rfl
 go_wp2_with fail
 with_reducible refine (limbs_size _ _ _ _).mono ?_
 rintro e w1 ⟨zw1, rfl, hb⟩
 have KG := Lib.hid (KG.out.trans (hb.mono KG.out.size))
 have B1 := Lib.hid (B1.out.below hb B1.out.lt)
 clear hb c0 c1
 go_wp2_with fail
 go_ret
 exact IR.is _ KG.out
set_option maxRecDepth 100000 in
set_option maxHeartbeats 4000000 in
theorem frac_size (x : FV) (w : World) : Calls Tryz.prog 26 #[x.v] w fun e w' => IR w e w' := by
 obtain ⟨V, hV⟩ : ∃ V, V = w.alloc (.cells #[.bool x.t.s, .slice x.t.a x.t.n x.t.c, .bool x.l.s, .slice x.l.a x.l.n x.l.c] 35) := ⟨_, rfl⟩
 have hbV : Below w.heap.size w V := by rw [hV]; exact (Below.refl _ _).alloc (Nat.le_refl _) _
 have B1 := Lib.hid (show Bxs V w.heap.size 35 [.bool x.t.s, .slice x.t.a x.t.n x.t.c, .bool x.l.s, .slice x.l.a x.l.n x.l.c] by rw [hV]; exact Bxs.new w 35 [.bool x.t.s, .slice x.t.a x.t.n x.t.c, .bool x.l.s, .slice x.l.a x.l.n x.l.c])
 have KG := Lib.hid hbV
 have HV := Lib.hid hV
 clear hV hbV
 change Calls Tryz.prog 26 #[.agg #[.bool x.t.s, .slice x.t.a x.t.n x.t.c, .bool x.l.s, .slice x.l.a x.l.n x.l.c]] w _
 go_enter Tryz.func26, Tryz.ntmps26
 go_upto_region 1 with (fail)
 rw [show w.alloc (.cells #[.bool x.t.s, .slice x.t.a x.t.n x.t.c, .bool x.l.s, .slice x.l.a x.l.n x.l.c] 35) = V from HV.out.symm]
 have c0 := B1.out.cell (i := 0) rfl
 have c1 := B1.out.cell (i := 1) rfl
 have c2 := B1.out.cell (i := 2) rfl
 have c3 := B1.out.cell (i := 3) rfl
 go_wp2_with fail
 with_reducible refine (num_size _ _ _ _ _).mono ?_
 rintro e w1 ⟨zw1, rfl, hb⟩
 have KG := Lib.hid (KG.out.trans (hb.mono KG.out.size))
 have B1 := Lib.hid (B1.out.below hb B1.out.lt)
 clear hb c0 c1 c2 c3
 by_cases h : wrap64 (1 + zw1) ≤ 1048576
 ·have c0 := B1.out.cell (i := 0) rfl
  have c1 := B1.out.cell (i := 1) rfl
  have c2 := B1.out.cell (i := 2) rfl
  have c3 := B1.out.cell (i := 3) rfl
  go_wp2_with fail
  with_reducible refine (num_size _ _ _ _ _).mono ?_
  rintro e w2 ⟨z2, rfl, hb⟩
  have KG := Lib.hid (KG.out.trans (hb.mono KG.out.size))
  clear hb c0 c1 c2 c3
  go_wp2_with fail
  go_ret
  exact IR.is _ KG.out
 ·have h2 : 1048576 < wrap64 (1 + zw1) := by omega
  go_wp2_with fail
  go_ret
  exact IR.is _ KG.out
set_option maxRecDepth 100000 in
set_option maxHeartbeats 4000000 in
theorem term_size (t : TV) (w : World) : Calls Tryz.prog 76 #[TV.v t] w fun e w' => IR w e w' := by
 obtain ⟨V, hV⟩ : ∃ V, V = w.alloc (.cells #[.bool t.c.t.s, .slice t.c.t.a t.c.t.n t.c.t.c, .bool t.c.l.s, .slice t.c.l.a t.c.l.n t.c.l.c, .int .u16 t.m.x, .int .u16 t.m.y, .int .u16 t.m.z, .int .u16 t.m.t] 40) := ⟨_, rfl⟩
 have hbV : Below w.heap.size w V := by rw [hV]; exact (Below.refl _ _).alloc (Nat.le_refl _) _
 have B1 := Lib.hid (show Bxs V w.heap.size 40 [.bool t.c.t.s, .slice t.c.t.a t.c.t.n t.c.t.c, .bool t.c.l.s, .slice t.c.l.a t.c.l.n t.c.l.c, .int .u16 t.m.x, .int .u16 t.m.y, .int .u16 t.m.z, .int .u16 t.m.t] by rw [hV]; exact Bxs.new w 40 [.bool t.c.t.s, .slice t.c.t.a t.c.t.n t.c.t.c, .bool t.c.l.s, .slice t.c.l.a t.c.l.n t.c.l.c, .int .u16 t.m.x, .int .u16 t.m.y, .int .u16 t.m.z, .int .u16 t.m.t])
 have KG := Lib.hid hbV
 have HV := Lib.hid hV
 clear hV hbV
 change Calls Tryz.prog 76 #[.agg #[.bool t.c.t.s, .slice t.c.t.a t.c.t.n t.c.t.c, .bool t.c.l.s, .slice t.c.l.a t.c.l.n t.c.l.c, .int .u16 t.m.x, .int .u16 t.m.y, .int .u16 t.m.z, .int .u16 t.m.t]] w _
 go_enter Tryz.func76, Tryz.ntmps76
 go_upto_region 1 with (fail)
 rw [show w.alloc (.cells #[.bool t.c.t.s, .slice t.c.t.a t.c.t.n t.c.t.c, .bool t.c.l.s, .slice t.c.l.a t.c.l.n t.c.l.c, .int .u16 t.m.x, .int .u16 t.m.y, .int .u16 t.m.z, .int .u16 t.m.t] 40) = V from HV.out.symm]
 have c0 := B1.out.cell (i := 0) rfl
 have c1 := B1.out.cell (i := 1) rfl
 have c2 := B1.out.cell (i := 2) rfl
 have c3 := B1.out.cell (i := 3) rfl
 have c4 := B1.out.cell (i := 4) rfl
 have c5 := B1.out.cell (i := 5) rfl
 have c6 := B1.out.cell (i := 6) rfl
 have c7 := B1.out.cell (i := 7) rfl
 go_wp2_with fail
 with_reducible refine (frac_size t.c _).mono ?_
 rintro e w1 ⟨zw1, rfl, hb⟩
 have KG := Lib.hid (KG.out.trans (hb.mono KG.out.size))
 have B1 := Lib.hid (B1.out.below hb B1.out.lt)
 clear hb c0 c1 c2 c3 c4 c5 c6 c7
 go_wp2_with fail
 go_ret
 exact IR.is _ KG.out
set_option maxRecDepth 100000 in
set_option maxHeartbeats 16000000 in
theorem poly_size (x : PV) (ts : List TV) (w : World) (hr : RT w x.a ts) (hl : ts.length = x.n) (hn : x.n ≤ 1000000000) : Calls Tryz.prog 36 #[x.v] w fun e w' => IR w e w' := by
 obtain ⟨xa, xn, xc⟩ := x
 have HR := Lib.hid hr; have HL := Lib.hid (show ts.length = xn from hl); have HN := Lib.hid (show xn ≤ 1000000000 from hn)
 change Calls Tryz.prog 36 #[.slice xa xn xc] w _
 clear hr hl hn
 go_enter Tryz.func36, Tryz.ntmps36
 go_wp2_with fail
 go_loopw [3, 4] (fun s i wr => ∃ (j : Nat) (z : Int), j ≤ xn ∧ i = .int .i64 j ∧ s = .int .i64 z ∧ Below w.heap.size w wr) (fun _ i _ => xn - (intOf i).toNat)
 case atStart =>
  exact ⟨0, _, Nat.zero_le _, rfl, rfl, Below.refl _ _⟩
 case round =>
  obtain ⟨j, z, hj, rfl, rfl, hb0⟩ := hrel
  have HJ := Lib.hid hj; have KG := Lib.hid hb0
  clear hj hb0
  by_cases hjn : j < xn
  ·by_cases hz : z ≤ 1048576
   ·have HJN := Lib.hid hjn
    have hjl : j < ts.length := by rw [HL.out]; exact hjn
    obtain ⟨pb, po, rfl, hc⟩ := (HR.out.below KG.out).one (fun h => by rw [h] at hjl; simp at hjl)
    obtain ⟨t, he⟩ : ∃ t, ts[j]? = some t := ⟨_, List.getElem?_eq_getElem hjl⟩
    obtain ⟨c0, c1, c2, c3, c4, c5, c6, c7⟩ := (hc j t he).eight
    have ek : IntKind.i64.wrap ((j : Int) + 1) = (j : Int) + 1 := IntWalk.i64_in _ (by have := HJN.out; have := HN.out; omega)
    clear hc he hjl
    go_wp2_with fail
    with_reducible refine (term_size t _).mono ?_
    rintro e w1 ⟨z1, rfl, hb⟩
    have KG := Lib.hid (KG.out.trans (hb.mono KG.out.size))
    clear hb c0 c1 c2 c3 c4 c5 c6 c7
    go_wp2_with fail
    go_roundw
    case rel =>
     exact ⟨j + 1, _, by have := HJN.out; omega, rfl, rfl, KG.out⟩
    case measure => simp [intOf]; have := HJN.out; omega
   ·have hz2 : 1048576 < z := by omega
    go_wp2_with fail
    go_ret
    exact IR.is _ KG.out
  ·have hge : ¬ ((j : Int) < (xn : Int)) := by omega
   clear hjn
   go_wp2_with fail
   go_ret
   exact IR.is _ KG.out
def NotGreat (m : Nat) (ts : List TV) : Prop := ts.length ≤ m ∧ ∀ t ∈ ts, t.c.t.n ≤ 4 ∧ t.c.l.n ≤ 1
def NoneGreat (m : Nat) (Xs : List (PV × List TV)) : Prop := ∀ e ∈ Xs, NotGreat m e.2
set_option maxRecDepth 100000 in
set_option maxHeartbeats 16000000 in
theorem pgreat_any (g m k : Nat) (Xs : List (PV × List TV)) (w : World) (hk : Xs.length = k) (hc : ∀ i e, Xs[i]? = some e → w.cell? ⟨g, i, none⟩ = some e.1.v) (hr : ∀ e ∈ Xs, RT w e.1.a e.2 ∧ e.2.length = e.1.n)
  (hn : Xs.length ≤ 1000) (hm : m ≤ 1000) :
  Calls Tryz.prog 10 #[.int .i64 m, .slice (some ⟨g, 0, none⟩) k k] w (BR w (NoneGreat m Xs)) := by
 have HK := Lib.hid hk; have HC := Lib.hid hc; have HR := Lib.hid hr; have HN := Lib.hid hn; have HM := Lib.hid hm
 clear hk hc hr hn hm
 go_enter Tryz.func10, Tryz.ntmps10
 go_wp2_with fail
 go_loopw [5] (fun i wr => ∃ j : Nat, j ≤ k ∧ i = .int .i64 j ∧ (∀ i e, Xs[i]? = some e → i < j → NotGreat m e.2) ∧ Below w.heap.size w wr) (fun i _ => k - (intOf i).toNat)
 case atStart =>
  exact ⟨0, Nat.zero_le _, rfl, fun i e _ h => absurd h (Nat.not_lt_zero _), Below.refl _ _⟩
 case round =>
  obtain ⟨j, hj, rfl, hg, hb0⟩ := hrel
  have HJ := Lib.hid hj; have HG := Lib.hid hg; have KG := Lib.hid hb0
  clear hj hg hb0
  by_cases hjn : j < k
  ·have HJN := Lib.hid hjn
   obtain ⟨⟨⟨xa, xn, xc⟩, ts⟩, he⟩ : ∃ e, Xs[j]? = some e := ⟨_, List.getElem?_eq_getElem (by rw [HK.out]; exact hjn)⟩
   have HE := Lib.hid he
   have CG := Lib.hid (show ∀ w2, Below w.heap.size w w2 → w2.cell? ⟨g, j, none⟩ = some (.slice xa xn xc) from fun (w2 : World) (h : Below w.heap.size w w2) => (h.cell (p := ⟨g, j, none⟩) (block_lt_of_cell (HC.out j _ he))).trans (HC.out j _ he))
   have c0 := CG.out _ KG.out
   obtain ⟨r1, r2⟩ := HR.out _ (List.mem_of_getElem? he)
   have RX := Lib.hid r1; have LX := Lib.hid (show ts.length = xn from r2)
   have ek : IntKind.i64.wrap ((j : Int) + 1) = (j : Int) + 1 := IntWalk.i64_in _ (by have := HJN.out; have := HK.out; have := HN.out; omega)
   have em : IntKind.i64.wrap (40 * (m : Int)) = 40 * (m : Int) := IntWalk.i64_in _ (by have := HM.out; omega)
   clear he r1 r2
   by_cases hxm : xn ≤ m
   ·have HXM := Lib.hid hxm
    have NX := Lib.hid (show xn ≤ 1000000000 by have := HM.out; omega)
    have h1 : ¬ ((xn : Int) > (m : Int)) := by omega
    have h2 : ¬ ((m : Int) < (xn : Int)) := by omega
    have PS := Lib.hid (poly_size ⟨xa, xn, xc⟩ ts wr (RX.out.below KG.out) LX.out NX.out)
    clear hxm
    go_wp2_with fail
    with_reducible refine PS.out.mono ?_
    rintro e w1 ⟨z, rfl, hb⟩
    have KG := Lib.hid (KG.out.trans (hb.mono KG.out.size))
    clear hb PS c0
    by_cases hz : z > 40 * (m : Int)
    ·have hz2 : 40 * (m : Int) < z := hz
     go_wp2_with fail
     go_ret
     exact BR.yes KG.out
    ·have hz2 : ¬ (40 * (m : Int) < z) := hz
     go_wp2_with fail
     go_loopw [6] (fun i wr => ∃ l : Nat, l ≤ xn ∧ i = .int .i64 l ∧ (∀ i t, ts[i]? = some t → i < l → t.c.t.n ≤ 4 ∧ t.c.l.n ≤ 1) ∧ Below w.heap.size w wr) (fun i _ => xn - (intOf i).toNat)
     case atStart =>
      exact ⟨0, Nat.zero_le _, rfl, fun i e _ h => absurd h (Nat.not_lt_zero _), KG.out⟩
     case round =>
      obtain ⟨l, hl, rfl, hg2, hb0⟩ := hrel
      have HL := Lib.hid hl; have HG2 := Lib.hid hg2; have KG := Lib.hid hb0
      clear hl hg2 hb0
      have c0 := CG.out _ KG.out
      by_cases hln : l < xn
      ·have HLN := Lib.hid hln
       have hll : l < ts.length := by rw [LX.out]; exact hln
       obtain ⟨pb, po, rfl, hc⟩ := (RX.out.below KG.out).one (fun h => by rw [h] at hll; simp at hll)
       obtain ⟨t, ht⟩ : ∃ t, ts[l]? = some t := ⟨_, List.getElem?_eq_getElem hll⟩
       obtain ⟨d0, d1, d2, d3, d4, d5, d6, d7⟩ := (hc l t ht).eight
       have HT := Lib.hid ht
       have el : IntKind.i64.wrap ((l : Int) + 1) = (l : Int) + 1 := IntWalk.i64_in _ (by have := HLN.out; have := NX.out; omega)
       clear hc ht hll
       by_cases h4 : t.c.t.n ≤ 4
       ·have g1 : ¬ ((t.c.t.n : Int) > 4) := by omega
        have g2 : ¬ ((4 : Int) < (t.c.t.n : Int)) := by omega
        by_cases h5 : t.c.l.n ≤ 1
        ·have g3 : ¬ ((t.c.l.n : Int) > 1) := by omega
         have g4 : ¬ ((1 : Int) < (t.c.l.n : Int)) := by omega
         have H45 := Lib.hid (show t.c.t.n ≤ 4 ∧ t.c.l.n ≤ 1 from ⟨h4, h5⟩)
         clear h4 h5
         go_wp2_with fail
         go_roundw
         case rel =>
          refine ⟨l + 1, by have := HLN.out; omega, rfl, fun i t' h1 h2 => ?_, KG.out⟩
          by_cases h3 : i < l
          ·exact HG2.out i t' h1 h3
          ·obtain rfl : i = l := by omega
           rw [HT.out] at h1
           obtain rfl := Option.some.inj h1
           exact H45.out
         case measure => simp [intOf]; have := HLN.out; omega
        ·have g3 : (t.c.l.n : Int) > 1 := by omega
         have g4 : (1 : Int) < (t.c.l.n : Int) := by omega
         clear h4 h5
         go_wp2_with fail
         go_ret
         exact BR.yes KG.out
       ·have g1 : (t.c.t.n : Int) > 4 := by omega
        have g2 : (4 : Int) < (t.c.t.n : Int) := by omega
        clear h4
        go_wp2_with fail
        go_ret
        exact BR.yes KG.out
      ·have hge : ¬ ((l : Int) < (xn : Int)) := by omega
       have HLE := Lib.hid (show l = xn by have := HL.out; omega)
       clear hln
       go_wp2_with fail
       go_roundw
       case rel =>
        refine ⟨j + 1, by have := HJN.out; omega, rfl, fun i e' h1 h2 => ?_, KG.out⟩
        by_cases h3 : i < j
        ·exact HG.out i e' h1 h3
        ·obtain rfl : i = j := by omega
         rw [HE.out] at h1
         obtain rfl := Option.some.inj h1
         refine ⟨by have h5 := LX.out; have h6 := HXM.out; show ts.length ≤ m; omega, fun t ht => ?_⟩
         obtain ⟨i2, h7⟩ := List.mem_iff_getElem?.1 (show t ∈ ts from ht)
         exact HG2.out i2 t h7 (by have h8 := (List.getElem?_eq_some_iff.1 h7).1; have h5 := LX.out; have h9 := HLE.out; omega)
       case measure => simp [intOf]; have := HJN.out; omega
   ·have h1 : (xn : Int) > (m : Int) := by omega
    have h2 : (m : Int) < (xn : Int) := by omega
    clear hxm
    go_wp2_with fail
    go_ret
    exact BR.yes KG.out
  ·have hge : ¬ ((j : Int) < (k : Int)) := by omega
   have HJE := Lib.hid (show j = k by have := HJ.out; omega)
   clear hjn
   go_wp2_with fail
   go_ret
   refine BR.no KG.out fun e he => ?_
   obtain ⟨i, h⟩ := List.mem_iff_getElem?.1 he
   exact HG.out i e h (by have h8 := (List.getElem?_eq_some_iff.1 h).1; have h9 := HJE.out; have := HK.out; omega)
set_option maxRecDepth 100000 in
set_option maxHeartbeats 16000000 in
theorem wide_any (x : PV) (ts : List TV) (w : World) (hr : RT w x.a ts) (hl : ts.length = x.n) (hn : x.n ≤ 1000000000) :
  Calls Tryz.prog 11 #[x.v] w (BR w (∀ t ∈ ts, t.m.le 300)) := by
 obtain ⟨xa, xn, xc⟩ := x
 have RX := Lib.hid hr; have LX := Lib.hid (show ts.length = xn from hl); have NX := Lib.hid (show xn ≤ 1000000000 from hn)
 change Calls Tryz.prog 11 #[.slice xa xn xc] w _
 clear hr hl hn
 go_enter Tryz.func11, Tryz.ntmps11
 go_wp2_with fail
 go_loopw [3] (fun i wr => ∃ j : Nat, j ≤ xn ∧ i = .int .i64 j ∧ (∀ i t, ts[i]? = some t → i < j → t.m.le 300) ∧ Below w.heap.size w wr) (fun i _ => xn - (intOf i).toNat)
 case atStart =>
  exact ⟨0, Nat.zero_le _, rfl, fun i e _ h => absurd h (Nat.not_lt_zero _), Below.refl _ _⟩
 case round =>
  obtain ⟨j, hj, rfl, hg, hb0⟩ := hrel
  have HJ := Lib.hid hj; have HG := Lib.hid hg; have KG := Lib.hid hb0
  clear hj hg hb0
  by_cases hjn : j < xn
  ·have HJN := Lib.hid hjn
   have hll : j < ts.length := by rw [LX.out]; exact hjn
   obtain ⟨pb, po, rfl, hc⟩ := (RX.out.below KG.out).one (fun h => by rw [h] at hll; simp at hll)
   obtain ⟨t, ht⟩ : ∃ t, ts[j]? = some t := ⟨_, List.getElem?_eq_getElem hll⟩
   have RE1 := Lib.hid (hc j t ht)
   have HT := Lib.hid ht
   have ek : IntKind.i64.wrap ((j : Int) + 1) = (j : Int) + 1 := IntWalk.i64_in _ (by have := HJN.out; have := NX.out; omega)
   obtain ⟨W0, hW0⟩ : ∃ W, W = wr := ⟨_, rfl⟩
   have KW := Lib.hid (show Below W0.heap.size W0 wr by rw [hW0]; exact Below.refl _ _)
   have KG0 := Lib.hid (show Below w.heap.size w W0 by rw [hW0]; exact KG.out)
   rw [← hW0] at RE1
   clear hc ht hll hW0
   go_wp2_with fail
   go_loopw [4] (fun i wr => ∃ l : Nat, l ≤ 4 ∧ i = .int .i64 l ∧ (∀ i, i < l → t.m.at i ≤ 300) ∧ Below W0.heap.size W0 wr) (fun i _ => 4 - (intOf i).toNat)
   case atStart =>
    exact ⟨0, Nat.zero_le _, rfl, fun i h => absurd h (Nat.not_lt_zero _), KW.out⟩
   case round =>
    obtain ⟨l, hl, rfl, hg2, hb0⟩ := hrel
    have HG2 := Lib.hid hg2; have KW := Lib.hid hb0
    have KG := Lib.hid (KG0.out.trans (hb0.mono KG0.out.size))
    obtain ⟨d0, d1, d2, d3, d4, d5, d6, d7⟩ := (RE1.out.below hb0).eight
    clear hg2 hb0
    by_cases hl4 : l < 4
    ·have hl5 : l = 0 ∨ l = 1 ∨ l = 2 ∨ l = 3 := by omega
     clear hl hl4
     rcases hl5 with rfl | rfl | rfl | rfl
     ·by_cases hv : t.m.x ≤ 300
      ·have g1 : ¬ ((t.m.x : Int) > 300) := by omega
       have g2 : ¬ ((300 : Int) < (t.m.x : Int)) := by omega
       have HV := Lib.hid hv
       clear hv
       go_wp2_with fail
       go_roundw
       case rel =>
        refine ⟨0 + 1, by omega, rfl, fun i hi => ?_, KW.out⟩
        by_cases h3 : i < 0
        ·exact HG2.out i h3
        ·obtain rfl : i = 0 := by omega
         exact HV.out
       case measure => simp [intOf]
      ·have g1 : (t.m.x : Int) > 300 := by omega
       have g2 : (300 : Int) < (t.m.x : Int) := by omega
       clear hv
       go_wp2_with fail
       go_ret
       exact BR.yes KG.out
     ·by_cases hv : t.m.y ≤ 300
      ·have g1 : ¬ ((t.m.y : Int) > 300) := by omega
       have g2 : ¬ ((300 : Int) < (t.m.y : Int)) := by omega
       have HV := Lib.hid hv
       clear hv
       go_wp2_with fail
       go_roundw
       case rel =>
        refine ⟨1 + 1, by omega, rfl, fun i hi => ?_, KW.out⟩
        by_cases h3 : i < 1
        ·exact HG2.out i h3
        ·obtain rfl : i = 1 := by omega
         exact HV.out
       case measure => simp [intOf]
      ·have g1 : (t.m.y : Int) > 300 := by omega
       have g2 : (300 : Int) < (t.m.y : Int) := by omega
       clear hv
       go_wp2_with fail
       go_ret
       exact BR.yes KG.out
     ·by_cases hv : t.m.z ≤ 300
      ·have g1 : ¬ ((t.m.z : Int) > 300) := by omega
       have g2 : ¬ ((300 : Int) < (t.m.z : Int)) := by omega
       have HV := Lib.hid hv
       clear hv
       go_wp2_with fail
       go_roundw
       case rel =>
        refine ⟨2 + 1, by omega, rfl, fun i hi => ?_, KW.out⟩
        by_cases h3 : i < 2
        ·exact HG2.out i h3
        ·obtain rfl : i = 2 := by omega
         exact HV.out
       case measure => simp [intOf]
      ·have g1 : (t.m.z : Int) > 300 := by omega
       have g2 : (300 : Int) < (t.m.z : Int) := by omega
       clear hv
       go_wp2_with fail
       go_ret
       exact BR.yes KG.out
     ·by_cases hv : t.m.t ≤ 300
      ·have g1 : ¬ ((t.m.t : Int) > 300) := by omega
       have g2 : ¬ ((300 : Int) < (t.m.t : Int)) := by omega
       have HV := Lib.hid hv
       clear hv
       go_wp2_with fail
       go_roundw
       case rel =>
        refine ⟨3 + 1, by omega, rfl, fun i hi => ?_, KW.out⟩
        by_cases h3 : i < 3
        ·exact HG2.out i h3
        ·obtain rfl : i = 3 := by omega
         exact HV.out
       case measure => simp [intOf]
      ·have g1 : (t.m.t : Int) > 300 := by omega
       have g2 : (300 : Int) < (t.m.t : Int) := by omega
       clear hv
       go_wp2_with fail
       go_ret
       exact BR.yes KG.out
    ·obtain rfl : l = 4 := by omega
     clear hl hl4
     go_wp2_with fail
     go_roundw
     case rel =>
      refine ⟨j + 1, by have := HJN.out; omega, rfl, fun i t' h1 h2 => ?_, KG.out⟩
      by_cases h3 : i < j
      ·exact HG.out i t' h1 h3
      ·obtain rfl : i = j := by omega
       rw [HT.out] at h1
       obtain rfl := Option.some.inj h1
       exact ⟨HG2.out 0 (by omega), HG2.out 1 (by omega), HG2.out 2 (by omega), HG2.out 3 (by omega)⟩
     case measure => simp [intOf]; have := HJN.out; omega
  ·have hge : ¬ ((j : Int) < (xn : Int)) := by omega
   have HJE := Lib.hid (show j = xn by have := HJ.out; omega)
   clear hjn
   go_wp2_with fail
   go_ret
   refine BR.no KG.out fun t ht => ?_
   obtain ⟨i, h⟩ := List.mem_iff_getElem?.1 ht
   exact HG.out i t h (by have h8 := (List.getElem?_eq_some_iff.1 h).1; have h5 := LX.out; have h9 := HJE.out; omega)
set_option maxRecDepth 100000 in
set_option maxHeartbeats 16000000 in
theorem tall_any (x : PV) (ts : List TV) (w : World) (hr : RT w x.a ts) (hl : ts.length = x.n) (hn : x.n ≤ 1000000000) :
  Calls Tryz.prog 21 #[x.v] w (BR w (∀ t ∈ ts, t.m.le 12)) := by
 obtain ⟨xa, xn, xc⟩ := x
 have RX := Lib.hid hr; have LX := Lib.hid (show ts.length = xn from hl); have NX := Lib.hid (show xn ≤ 1000000000 from hn)
 change Calls Tryz.prog 21 #[.slice xa xn xc] w _
 clear hr hl hn
 go_enter Tryz.func21, Tryz.ntmps21
 go_wp2_with fail
 go_loopw [3] (fun i wr => ∃ j : Nat, j ≤ xn ∧ i = .int .i64 j ∧ (∀ i t, ts[i]? = some t → i < j → t.m.le 12) ∧ Below w.heap.size w wr) (fun i _ => xn - (intOf i).toNat)
 case atStart =>
  exact ⟨0, Nat.zero_le _, rfl, fun i e _ h => absurd h (Nat.not_lt_zero _), Below.refl _ _⟩
 case round =>
  obtain ⟨j, hj, rfl, hg, hb0⟩ := hrel
  have HJ := Lib.hid hj; have HG := Lib.hid hg; have KG := Lib.hid hb0
  clear hj hg hb0
  by_cases hjn : j < xn
  ·have HJN := Lib.hid hjn
   have hll : j < ts.length := by rw [LX.out]; exact hjn
   obtain ⟨pb, po, rfl, hc⟩ := (RX.out.below KG.out).one (fun h => by rw [h] at hll; simp at hll)
   obtain ⟨t, ht⟩ : ∃ t, ts[j]? = some t := ⟨_, List.getElem?_eq_getElem hll⟩
   have RE1 := Lib.hid (hc j t ht)
   have HT := Lib.hid ht
   have ek : IntKind.i64.wrap ((j : Int) + 1) = (j : Int) + 1 := IntWalk.i64_in _ (by have := HJN.out; have := NX.out; omega)
   obtain ⟨W0, hW0⟩ : ∃ W, W = wr := ⟨_, rfl⟩
   have KW := Lib.hid (show Below W0.heap.size W0 wr by rw [hW0]; exact Below.refl _ _)
   have KG0 := Lib.hid (show Below w.heap.size w W0 by rw [hW0]; exact KG.out)
   rw [← hW0] at RE1
   clear hc ht hll hW0
   go_wp2_with fail
   go_loopw [4] (fun i wr => ∃ l : Nat, l ≤ 4 ∧ i = .int .i64 l ∧ (∀ i, i < l → t.m.at i ≤ 12) ∧ Below W0.heap.size W0 wr) (fun i _ => 4 - (intOf i).toNat)
   case atStart =>
    exact ⟨0, Nat.zero_le _, rfl, fun i h => absurd h (Nat.not_lt_zero _), KW.out⟩
   case round =>
    obtain ⟨l, hl, rfl, hg2, hb0⟩ := hrel
    have HG2 := Lib.hid hg2; have KW := Lib.hid hb0
    have KG := Lib.hid (KG0.out.trans (hb0.mono KG0.out.size))
    obtain ⟨d0, d1, d2, d3, d4, d5, d6, d7⟩ := (RE1.out.below hb0).eight
    clear hg2 hb0
    by_cases hl4 : l < 4
    ·have hl5 : l = 0 ∨ l = 1 ∨ l = 2 ∨ l = 3 := by omega
     clear hl hl4
     rcases hl5 with rfl | rfl | rfl | rfl
     ·by_cases hv : t.m.x ≤ 12
      ·have g1 : ¬ ((t.m.x : Int) > 12) := by omega
       have g2 : ¬ ((12 : Int) < (t.m.x : Int)) := by omega
       have HV := Lib.hid hv
       clear hv
       go_wp2_with fail
       go_roundw
       case rel =>
        refine ⟨0 + 1, by omega, rfl, fun i hi => ?_, KW.out⟩
        by_cases h3 : i < 0
        ·exact HG2.out i h3
        ·obtain rfl : i = 0 := by omega
         exact HV.out
       case measure => simp [intOf]
      ·have g1 : (t.m.x : Int) > 12 := by omega
       have g2 : (12 : Int) < (t.m.x : Int) := by omega
       clear hv
       go_wp2_with fail
       go_ret
       exact BR.yes KG.out
     ·by_cases hv : t.m.y ≤ 12
      ·have g1 : ¬ ((t.m.y : Int) > 12) := by omega
       have g2 : ¬ ((12 : Int) < (t.m.y : Int)) := by omega
       have HV := Lib.hid hv
       clear hv
       go_wp2_with fail
       go_roundw
       case rel =>
        refine ⟨1 + 1, by omega, rfl, fun i hi => ?_, KW.out⟩
        by_cases h3 : i < 1
        ·exact HG2.out i h3
        ·obtain rfl : i = 1 := by omega
         exact HV.out
       case measure => simp [intOf]
      ·have g1 : (t.m.y : Int) > 12 := by omega
       have g2 : (12 : Int) < (t.m.y : Int) := by omega
       clear hv
       go_wp2_with fail
       go_ret
       exact BR.yes KG.out
     ·by_cases hv : t.m.z ≤ 12
      ·have g1 : ¬ ((t.m.z : Int) > 12) := by omega
       have g2 : ¬ ((12 : Int) < (t.m.z : Int)) := by omega
       have HV := Lib.hid hv
       clear hv
       go_wp2_with fail
       go_roundw
       case rel =>
        refine ⟨2 + 1, by omega, rfl, fun i hi => ?_, KW.out⟩
        by_cases h3 : i < 2
        ·exact HG2.out i h3
        ·obtain rfl : i = 2 := by omega
         exact HV.out
       case measure => simp [intOf]
      ·have g1 : (t.m.z : Int) > 12 := by omega
       have g2 : (12 : Int) < (t.m.z : Int) := by omega
       clear hv
       go_wp2_with fail
       go_ret
       exact BR.yes KG.out
     ·by_cases hv : t.m.t ≤ 12
      ·have g1 : ¬ ((t.m.t : Int) > 12) := by omega
       have g2 : ¬ ((12 : Int) < (t.m.t : Int)) := by omega
       have HV := Lib.hid hv
       clear hv
       go_wp2_with fail
       go_roundw
       case rel =>
        refine ⟨3 + 1, by omega, rfl, fun i hi => ?_, KW.out⟩
        by_cases h3 : i < 3
        ·exact HG2.out i h3
        ·obtain rfl : i = 3 := by omega
         exact HV.out
       case measure => simp [intOf]
      ·have g1 : (t.m.t : Int) > 12 := by omega
       have g2 : (12 : Int) < (t.m.t : Int) := by omega
       clear hv
       go_wp2_with fail
       go_ret
       exact BR.yes KG.out
    ·obtain rfl : l = 4 := by omega
     clear hl hl4
     go_wp2_with fail
     go_roundw
     case rel =>
      refine ⟨j + 1, by have := HJN.out; omega, rfl, fun i t' h1 h2 => ?_, KG.out⟩
      by_cases h3 : i < j
      ·exact HG.out i t' h1 h3
      ·obtain rfl : i = j := by omega
       rw [HT.out] at h1
       obtain rfl := Option.some.inj h1
       exact ⟨HG2.out 0 (by omega), HG2.out 1 (by omega), HG2.out 2 (by omega), HG2.out 3 (by omega)⟩
     case measure => simp [intOf]; have := HJN.out; omega
  ·have hge : ¬ ((j : Int) < (xn : Int)) := by omega
   have HJE := Lib.hid (show j = xn by have := HJ.out; omega)
   clear hjn
   go_wp2_with fail
   go_ret
   refine BR.no KG.out fun t ht => ?_
   obtain ⟨i, h⟩ := List.mem_iff_getElem?.1 ht
   exact HG.out i t h (by have h8 := (List.getElem?_eq_some_iff.1 h).1; have h5 := LX.out; have h9 := HJE.out; omega)
def letM (i : Nat) : Mo := if i = 0 then ⟨1, 0, 0, 0⟩ else if i = 1 then ⟨0, 1, 0, 0⟩ else if i = 2 then ⟨0, 0, 1, 0⟩ else ⟨0, 0, 0, 1⟩
theorem letM_small (i : Nat) : (letM i).Small := by
 unfold letM
 split
 ·exact ⟨by decide, by decide, by decide, by decide⟩
 ·split
  ·exact ⟨by decide, by decide, by decide, by decide⟩
  ·split <;> exact ⟨by decide, by decide, by decide, by decide⟩
set_option maxRecDepth 100000 in
set_option maxHeartbeats 4000000 in
theorem only_0 (w : World) : Calls Tryz.prog 70 #[.int .i64 0] w fun e w' => e = .returned (Mo.v (letM 0)) ∧ Below w.heap.size w w' := by
 obtain ⟨V, hV⟩ : ∃ V, V = w.alloc (.cells #[.int .u16 0, .int .u16 0, .int .u16 0, .int .u16 0] 38) := ⟨_, rfl⟩
 have B1 := Lib.hid (show Bxs V w.heap.size 38 [.int .u16 0, .int .u16 0, .int .u16 0, .int .u16 0] by rw [hV]; exact Bxs.new w 38 [.int .u16 0, .int .u16 0, .int .u16 0, .int .u16 0])
 have hbV : Below w.heap.size w V := by rw [hV]; exact (Below.refl _ _).alloc (Nat.le_refl _) _
 have KG := Lib.hid hbV
 have HV := Lib.hid hV
 clear hV hbV
 go_enter Tryz.func70, Tryz.ntmps70
 go_upto_region 1 with (fail)
 rw [show w.alloc (.cells #[.int .u16 0, .int .u16 0, .int .u16 0, .int .u16 0] 38) = V from HV.out.symm]
 have c0 := B1.out.cell (i := 0) rfl
 have c1 := B1.out.cell (i := 1) rfl
 have c2 := B1.out.cell (i := 2) rfl
 have c3 := B1.out.cell (i := 3) rfl
 have cf := B1.out.fz
 have cl := B1.out.lt
 go_upto_region 2 with (fail)
 clear c0 c1 c2 c3 cf cl
 obtain ⟨U, hU⟩ : ∃ U, U = V.setCell ⟨w.heap.size, 0, none⟩ (.int .u16 1) := ⟨_, rfl⟩
 have B2 := Lib.hid (show Bxs U w.heap.size 38 [.int .u16 1, .int .u16 0, .int .u16 0, .int .u16 0] by rw [hU]; exact B1.out.put 0 _)
 have KG := Lib.hid (show Below w.heap.size w U by rw [hU]; exact KG.out.setCell (Nat.le_refl _) _)
 rw [← hU]
 clear hU
 have c0 := B2.out.cell (i := 0) rfl
 have c1 := B2.out.cell (i := 1) rfl
 have c2 := B2.out.cell (i := 2) rfl
 have c3 := B2.out.cell (i := 3) rfl
 have cf := B2.out.fz
 have cl := B2.out.lt
 go_wp2_with fail
 refine bodyPost_ret (results_cell rfl _ _ _ _ _ _ _ rfl ((((B2.out.put 0 (.int .u16 1)).put 1 (.int .u16 0)).put 2 (.int .u16 0)).put 3 (.int .u16 0)) Tryz.underlying38 rfl (by kernel_rfl)) rfl ⟨rfl, ?_⟩
 exact (((KG.out.setCell (Nat.le_refl _) _).setCell (Nat.le_refl _) _).setCell (Nat.le_refl _) _).setCell (Nat.le_refl _) _
set_option maxRecDepth 100000 in
set_option maxHeartbeats 4000000 in
theorem only_1 (w : World) : Calls Tryz.prog 70 #[.int .i64 1] w fun e w' => e = .returned (Mo.v (letM 1)) ∧ Below w.heap.size w w' := by
 obtain ⟨V, hV⟩ : ∃ V, V = w.alloc (.cells #[.int .u16 0, .int .u16 0, .int .u16 0, .int .u16 0] 38) := ⟨_, rfl⟩
 have B1 := Lib.hid (show Bxs V w.heap.size 38 [.int .u16 0, .int .u16 0, .int .u16 0, .int .u16 0] by rw [hV]; exact Bxs.new w 38 [.int .u16 0, .int .u16 0, .int .u16 0, .int .u16 0])
 have hbV : Below w.heap.size w V := by rw [hV]; exact (Below.refl _ _).alloc (Nat.le_refl _) _
 have KG := Lib.hid hbV
 have HV := Lib.hid hV
 clear hV hbV
 go_enter Tryz.func70, Tryz.ntmps70
 go_upto_region 1 with (fail)
 rw [show w.alloc (.cells #[.int .u16 0, .int .u16 0, .int .u16 0, .int .u16 0] 38) = V from HV.out.symm]
 have c0 := B1.out.cell (i := 0) rfl
 have c1 := B1.out.cell (i := 1) rfl
 have c2 := B1.out.cell (i := 2) rfl
 have c3 := B1.out.cell (i := 3) rfl
 have cf := B1.out.fz
 have cl := B1.out.lt
 go_upto_region 2 with (fail)
 clear c0 c1 c2 c3 cf cl
 obtain ⟨U, hU⟩ : ∃ U, U = V.setCell ⟨w.heap.size, 1, none⟩ (.int .u16 1) := ⟨_, rfl⟩
 have B2 := Lib.hid (show Bxs U w.heap.size 38 [.int .u16 0, .int .u16 1, .int .u16 0, .int .u16 0] by rw [hU]; exact B1.out.put 1 _)
 have KG := Lib.hid (show Below w.heap.size w U by rw [hU]; exact KG.out.setCell (Nat.le_refl _) _)
 rw [← hU]
 clear hU
 have c0 := B2.out.cell (i := 0) rfl
 have c1 := B2.out.cell (i := 1) rfl
 have c2 := B2.out.cell (i := 2) rfl
 have c3 := B2.out.cell (i := 3) rfl
 have cf := B2.out.fz
 have cl := B2.out.lt
 go_wp2_with fail
 refine bodyPost_ret (results_cell rfl _ _ _ _ _ _ _ rfl ((((B2.out.put 0 (.int .u16 0)).put 1 (.int .u16 1)).put 2 (.int .u16 0)).put 3 (.int .u16 0)) Tryz.underlying38 rfl (by kernel_rfl)) rfl ⟨rfl, ?_⟩
 exact (((KG.out.setCell (Nat.le_refl _) _).setCell (Nat.le_refl _) _).setCell (Nat.le_refl _) _).setCell (Nat.le_refl _) _
set_option maxRecDepth 100000 in
set_option maxHeartbeats 4000000 in
theorem only_2 (w : World) : Calls Tryz.prog 70 #[.int .i64 2] w fun e w' => e = .returned (Mo.v (letM 2)) ∧ Below w.heap.size w w' := by
 obtain ⟨V, hV⟩ : ∃ V, V = w.alloc (.cells #[.int .u16 0, .int .u16 0, .int .u16 0, .int .u16 0] 38) := ⟨_, rfl⟩
 have B1 := Lib.hid (show Bxs V w.heap.size 38 [.int .u16 0, .int .u16 0, .int .u16 0, .int .u16 0] by rw [hV]; exact Bxs.new w 38 [.int .u16 0, .int .u16 0, .int .u16 0, .int .u16 0])
 have hbV : Below w.heap.size w V := by rw [hV]; exact (Below.refl _ _).alloc (Nat.le_refl _) _
 have KG := Lib.hid hbV
 have HV := Lib.hid hV
 clear hV hbV
 go_enter Tryz.func70, Tryz.ntmps70
 go_upto_region 1 with (fail)
 rw [show w.alloc (.cells #[.int .u16 0, .int .u16 0, .int .u16 0, .int .u16 0] 38) = V from HV.out.symm]
 have c0 := B1.out.cell (i := 0) rfl
 have c1 := B1.out.cell (i := 1) rfl
 have c2 := B1.out.cell (i := 2) rfl
 have c3 := B1.out.cell (i := 3) rfl
 have cf := B1.out.fz
 have cl := B1.out.lt
 go_upto_region 2 with (fail)
 clear c0 c1 c2 c3 cf cl
 obtain ⟨U, hU⟩ : ∃ U, U = V.setCell ⟨w.heap.size, 2, none⟩ (.int .u16 1) := ⟨_, rfl⟩
 have B2 := Lib.hid (show Bxs U w.heap.size 38 [.int .u16 0, .int .u16 0, .int .u16 1, .int .u16 0] by rw [hU]; exact B1.out.put 2 _)
 have KG := Lib.hid (show Below w.heap.size w U by rw [hU]; exact KG.out.setCell (Nat.le_refl _) _)
 rw [← hU]
 clear hU
 have c0 := B2.out.cell (i := 0) rfl
 have c1 := B2.out.cell (i := 1) rfl
 have c2 := B2.out.cell (i := 2) rfl
 have c3 := B2.out.cell (i := 3) rfl
 have cf := B2.out.fz
 have cl := B2.out.lt
 go_wp2_with fail
 refine bodyPost_ret (results_cell rfl _ _ _ _ _ _ _ rfl ((((B2.out.put 0 (.int .u16 0)).put 1 (.int .u16 0)).put 2 (.int .u16 1)).put 3 (.int .u16 0)) Tryz.underlying38 rfl (by kernel_rfl)) rfl ⟨rfl, ?_⟩
 exact (((KG.out.setCell (Nat.le_refl _) _).setCell (Nat.le_refl _) _).setCell (Nat.le_refl _) _).setCell (Nat.le_refl _) _
set_option maxRecDepth 100000 in
set_option maxHeartbeats 4000000 in
theorem only_3 (w : World) : Calls Tryz.prog 70 #[.int .i64 3] w fun e w' => e = .returned (Mo.v (letM 3)) ∧ Below w.heap.size w w' := by
 obtain ⟨V, hV⟩ : ∃ V, V = w.alloc (.cells #[.int .u16 0, .int .u16 0, .int .u16 0, .int .u16 0] 38) := ⟨_, rfl⟩
 have B1 := Lib.hid (show Bxs V w.heap.size 38 [.int .u16 0, .int .u16 0, .int .u16 0, .int .u16 0] by rw [hV]; exact Bxs.new w 38 [.int .u16 0, .int .u16 0, .int .u16 0, .int .u16 0])
 have hbV : Below w.heap.size w V := by rw [hV]; exact (Below.refl _ _).alloc (Nat.le_refl _) _
 have KG := Lib.hid hbV
 have HV := Lib.hid hV
 clear hV hbV
 go_enter Tryz.func70, Tryz.ntmps70
 go_upto_region 1 with (fail)
 rw [show w.alloc (.cells #[.int .u16 0, .int .u16 0, .int .u16 0, .int .u16 0] 38) = V from HV.out.symm]
 have c0 := B1.out.cell (i := 0) rfl
 have c1 := B1.out.cell (i := 1) rfl
 have c2 := B1.out.cell (i := 2) rfl
 have c3 := B1.out.cell (i := 3) rfl
 have cf := B1.out.fz
 have cl := B1.out.lt
 go_upto_region 2 with (fail)
 clear c0 c1 c2 c3 cf cl
 obtain ⟨U, hU⟩ : ∃ U, U = V.setCell ⟨w.heap.size, 3, none⟩ (.int .u16 1) := ⟨_, rfl⟩
 have B2 := Lib.hid (show Bxs U w.heap.size 38 [.int .u16 0, .int .u16 0, .int .u16 0, .int .u16 1] by rw [hU]; exact B1.out.put 3 _)
 have KG := Lib.hid (show Below w.heap.size w U by rw [hU]; exact KG.out.setCell (Nat.le_refl _) _)
 rw [← hU]
 clear hU
 have c0 := B2.out.cell (i := 0) rfl
 have c1 := B2.out.cell (i := 1) rfl
 have c2 := B2.out.cell (i := 2) rfl
 have c3 := B2.out.cell (i := 3) rfl
 have cf := B2.out.fz
 have cl := B2.out.lt
 go_wp2_with fail
 refine bodyPost_ret (results_cell rfl _ _ _ _ _ _ _ rfl ((((B2.out.put 0 (.int .u16 0)).put 1 (.int .u16 0)).put 2 (.int .u16 0)).put 3 (.int .u16 1)) Tryz.underlying38 rfl (by kernel_rfl)) rfl ⟨rfl, ?_⟩
 exact (((KG.out.setCell (Nat.le_refl _) _).setCell (Nat.le_refl _) _).setCell (Nat.le_refl _) _).setCell (Nat.le_refl _) _
theorem only_any (i : Nat) (hi : i < 4) (w : World) : Calls Tryz.prog 70 #[.int .i64 (i : Int)] w fun e w' => e = .returned (Mo.v (letM i)) ∧ Below w.heap.size w w' := by
 obtain rfl | rfl | rfl | rfl : i = 0 ∨ i = 1 ∨ i = 2 ∨ i = 3 := by omega
 ·exact only_0 w
 ·exact only_1 w
 ·exact only_2 w
 ·exact only_3 w
def letP (i : Nat) : List Tm := [(letM i, 1)]
theorem letP_canon (i : Nat) : Canon (letP i) := ⟨List.pairwise_singleton _ _, fun t ht => by rw [List.mem_singleton.1 ht]; show (1 : Rat) ≠ 0; decide +kernel⟩
set_option maxRecDepth 100000 in
set_option maxHeartbeats 4000000 in
theorem letter_k (i : Nat) (hi : i < 4) (w : World) : Calls Tryz.prog 33 #[.int .i64 (i : Int)] w fun e w' => ∃ z : PV, e = .returned (.tuple #[z.v, .int .i64 0]) ∧ DP w' w.heap.size z (letP i) ∧ Below w.heap.size w w' := by
 have OF := Lib.hid (qof 1 w (by decide) (by decide))
 have HI := Lib.hid hi
 have h1 : ¬ ((i : Int) < 0) := by omega
 have h2 : ¬ ((4 : Int) ≤ (i : Int)) := by omega
 have h3 : ¬ ((i : Int) ≥ 4) := by omega
 clear hi
 go_enter Tryz.func33, Tryz.ntmps33
 go_wp2_with fail
 with_reducible refine OF.out.mono ?_
 rintro e w1 ⟨c, rfl, hc, hb⟩
 have HC := Lib.hid hc
 have KG := Lib.hid hb
 have ON := Lib.hid (only_any i HI.out w1)
 clear hc hb OF
 go_wp2_with fail
 with_reducible refine ON.out.mono ?_
 rintro e w2 ⟨rfl, hb⟩
 have HC := Lib.hid (HC.out.below hb)
 have KG := Lib.hid (KG.out.trans (hb.mono KG.out.size))
 clear hb ON
 go_wp2_with fail
 go_ret2
 have hal : Below w2.heap.size w2 (w2.alloc (.cells (TV.cells ⟨c, letM i⟩).toArray 40)) := (Below.refl _ _).alloc (Nat.le_refl _) _
 refine ⟨⟨some ⟨w2.heap.size, 0, none⟩, 1, 1⟩, rfl, ?_, KG.out.trans (hal.mono KG.out.size)⟩
 refine ⟨⟨[(⟨c, letM i⟩, 1)], ?_, fun e he => ?_, List.pairwise_singleton _ _, rfl⟩, letP_canon i, fun t ht => ?_⟩
 ·show World.ownsRow _ _ _ _ _ _ _
  exact World.ownsRow_lit (base := w.heap.size) (e := 40) (size := 8) w2 (TV.cells ⟨c, letM i⟩).toArray 1 KG.out.size (by decide) rfl
 ·rw [List.mem_singleton.1 he]
  exact HC.out.below hal
 ·rw [List.mem_singleton.1 ht]
  exact letM_small i
set_option maxRecDepth 100000 in
set_option maxHeartbeats 4000000 in
theorem llet_k (i : Nat) (hi : i < 4) (w : World) : Calls Tryz.prog 25 #[.int .i64 (i : Int)] w fun e w' => ∃ z : PV, e = .returned z.v ∧ DP w' w.heap.size z (letP i) ∧ Below w.heap.size w w' := by
 have LT := Lib.hid (letter_k i hi w)
 clear hi
 go_enter Tryz.func25, Tryz.ntmps25
 go_wp2_with fail
 with_reducible refine LT.out.mono ?_
 rintro e w1 ⟨z, rfl, hz, hb⟩
 have HZ := Lib.hid hz
 have KG := Lib.hid hb
 clear hz hb LT
 go_wp2_with fail
 go_ret
 exact ⟨z, rfl, HZ.out, KG.out⟩
set_option maxRecDepth 100000 in
set_option maxHeartbeats 4000000 in
theorem lmul_k (x y : PV) (P Q : List Tm) (k1 k2 e1 e2 : Nat) (w : World) (hx : KP w x P) (hy : KP w y Q) (hp : ∀ t ∈ P, LQ t.2 k1 ∧ t.1.le e1) (hq : ∀ t ∈ Q, LQ t.2 k2 ∧ t.1.le e2)
  (hk : P.length * (k1 + k2 + 1) ≤ 900000) (h1 : k1 ≤ 900000) (h2 : k2 ≤ 900000) (hn : P.length * Q.length ≤ 1000000) (hpn : P.length ≤ 1000000) (hqn : Q.length ≤ 1000000) (he : e1 + e2 ≤ 65535) :
  Calls Tryz.prog 14 #[x.v, y.v] w fun e w' => ∃ z : PV, e = .returned z.v ∧ DP w' w.heap.size z (mulP P Q) ∧ Below w.heap.size w w' := by
 have MU := Lib.hid (mul_k x y P Q k1 k2 e1 e2 w hx hy hp hq hk h1 h2 hn hpn hqn he)
 clear hx hy hp hq hk h1 h2 hn hpn hqn he
 obtain ⟨xa, xn, xc⟩ := x
 obtain ⟨ya, yn, yc⟩ := y
 change Calls Tryz.prog 14 #[.slice xa xn xc, .slice ya yn yc] w _
 go_enter Tryz.func14, Tryz.ntmps14
 go_wp2_with fail
 with_reducible refine MU.out.mono ?_
 rintro e w1 ⟨z, rfl, hz, hb⟩
 have HZ := Lib.hid hz
 have KG := Lib.hid hb
 clear hz hb MU
 go_wp2_with fail
 go_ret
 exact ⟨z, rfl, HZ.out, KG.out⟩
set_option maxRecDepth 100000 in
set_option maxHeartbeats 4000000 in
theorem lsame_k (x y : PV) (P : List Tm) (w : World) (hx : KP w x P) (hy : KP w y P) (hp : ∀ t ∈ P, LQ t.2 900000) (hn : P.length ≤ 1000000) : Calls Tryz.prog 15 #[x.v, y.v] w fun e w' => e = .returned (.bool true) ∧ Below w.heap.size w w' := by
 have SM := Lib.hid (same_k x y P w hx hy hp hn)
 clear hx hy hp hn
 obtain ⟨xa, xn, xc⟩ := x
 obtain ⟨ya, yn, yc⟩ := y
 change Calls Tryz.prog 15 #[.slice xa xn xc, .slice ya yn yc] w _
 go_enter Tryz.func15, Tryz.ntmps15
 go_wp2_with fail
 with_reducible refine SM.out.mono ?_
 rintro e w1 ⟨rfl, hb⟩
 have KG := Lib.hid hb
 clear hb SM
 go_wp2_with fail
 go_ret
 exact ⟨rfl, KG.out⟩
theorem degP_snoc (A : List Tm) (t : Tm) (i : Nat) : degP (A ++ [t]) i = max (degP A i) (t.1.at i : Int) := by
 unfold degP
 rw [List.foldl_append]
 rfl
set_option maxRecDepth 100000 in
set_option maxHeartbeats 4000000 in
theorem degree_out (x : PV) (l : Int) (hl : l < 0 ∨ 4 ≤ l) (w : World) : Calls Tryz.prog 18 #[x.v, .int .i64 l] w fun e w' => e = .returned (.int .i64 (-1)) ∧ Below w.heap.size w w' := by
 obtain ⟨xa, xn, xc⟩ := x
 change Calls Tryz.prog 18 #[.slice xa xn xc, .int .i64 l] w _
 by_cases h : l < 0
 ·go_enter Tryz.func18, Tryz.ntmps18
  go_wp2_with fail
  go_ret
  exact ⟨rfl, Below.refl _ _⟩
 ·have h2 : 4 ≤ l := by omega
  have h3 : l ≥ 4 := by omega
  clear hl
  go_enter Tryz.func18, Tryz.ntmps18
  go_wp2_with fail
  go_ret
  exact ⟨rfl, Below.refl _ _⟩
set_option maxRecDepth 100000 in
set_option maxHeartbeats 16000000 in
theorem degree_k (li : Nat) (hi : li < 4) (x : PV) (P : List Tm) (w : World) (hx : AP w x P) (hp : ∀ t ∈ P, LQ t.2 900000) (hn : x.n ≤ 1000000) : Calls Tryz.prog 18 #[x.v, .int .i64 (li : Int)] w fun e w' => e = .returned (.int .i64 (degP P li)) ∧ Below w.heap.size w w' := by
 have HI := Lib.hid hi
 have hi1 : (li : Int) < 4 := by omega
 have hi2 : ¬ ((li : Int) < 0) := by omega
 have hi3 : (0 : Int) ≤ (li : Int) := by omega
 have hi4 : ¬ ((li : Int) ≥ 4) := by omega
 have hi5 : ¬ ((4 : Int) ≤ (li : Int)) := by omega
 have OF := Lib.hid (of_at hx (Below.refl _ _) hp (by omega))
 have HNN := Lib.hid hn; have HSM := Lib.hid hx.small
 obtain ⟨xa, xn, xc⟩ := x
 change Calls Tryz.prog 18 #[.slice xa xn xc, .int .i64 (li : Int)] w _
 clear hi hx hp hn
 go_enter Tryz.func18, Tryz.ntmps18
 go_wp2_with fail
 with_reducible refine OF.out.mono ?_
 rintro e w1 ⟨⟨pa, pn, pc⟩, he, hp, hpn, hb⟩
 obtain rfl : e = .returned (.slice pa pn pc) := he
 obtain ⟨L, g1, g2, g3, g4⟩ := hp.ex
 have R1 := Lib.hid g1; have T1 := Lib.hid g4; have N1 := Lib.hid (show L.length = pn from g2)
 have HPN := Lib.hid (show pn ≤ 1000000 from Nat.le_trans hpn HNN.out)
 have KG := Lib.hid hb
 clear hp hpn hb g1 g2 g3 g4 OF
 go_wp2_with fail
 go_loopw [5, 18] (fun s i wr => ∃ j : Nat, j ≤ pn ∧ i = .int .i64 j ∧ s = .int .i64 (degP (P.take j) li) ∧ Below w.heap.size w wr) (fun _ i _ => pn - (intOf i).toNat)
 case atStart =>
  exact ⟨0, Nat.zero_le _, rfl, rfl, KG.out⟩
 case round =>
  obtain ⟨j, hj, rfl, rfl, hb0⟩ := hrel
  have HJ := Lib.hid hj; have KG := Lib.hid hb0
  clear hj hb0
  by_cases hjn : j < pn
  ·have HJN := Lib.hid hjn
   have hjl : j < L.length := by rw [N1.out]; exact hjn
   obtain ⟨pb, po, rfl, hcs⟩ := (R1.out.below KG.out).one (fun h => by rw [List.map_eq_nil_iff] at h; rw [h] at hjl; simp at hjl)
   obtain ⟨e, he⟩ : ∃ e, L[j]? = some e := ⟨_, List.getElem?_eq_getElem hjl⟩
   obtain ⟨t, q⟩ := e
   obtain ⟨c0, c1, c2, c3, c4, c5, c6, c7⟩ := (hcs j t (by rw [List.getElem?_map, he]; rfl)).eight
   have HPJ := Lib.hid (show P[j]? = some (t.m, q) by rw [← T1.out, List.getElem?_map, he]; rfl)
   clear hcs he hjl
   go_upto_region 7 with (fail)
   obtain ⟨V, hV⟩ : ∃ V, V = wr.alloc (.cells #[.bool t.c.t.s, .slice t.c.t.a t.c.t.n t.c.t.c, .bool t.c.l.s, .slice t.c.l.a t.c.l.n t.c.l.c, .int .u16 t.m.x, .int .u16 t.m.y, .int .u16 t.m.z, .int .u16 t.m.t] 40) := ⟨_, rfl⟩
   have hbV : Below wr.heap.size wr V := by rw [hV]; exact (Below.refl _ _).alloc (Nat.le_refl _) _
   have B7 := Lib.hid (show Bxs V wr.heap.size 40 [.bool t.c.t.s, .slice t.c.t.a t.c.t.n t.c.t.c, .bool t.c.l.s, .slice t.c.l.a t.c.l.n t.c.l.c, .int .u16 t.m.x, .int .u16 t.m.y, .int .u16 t.m.z, .int .u16 t.m.t] by rw [hV]; exact Bxs.new wr 40 [.bool t.c.t.s, .slice t.c.t.a t.c.t.n t.c.t.c, .bool t.c.l.s, .slice t.c.l.a t.c.l.n t.c.l.c, .int .u16 t.m.x, .int .u16 t.m.y, .int .u16 t.m.z, .int .u16 t.m.t])
   obtain ⟨A7, hA7⟩ : ∃ A, A = wr.heap.size := ⟨_, rfl⟩
   rw [← hV, ← hA7]
   rw [← hA7] at B7
   have KG := Lib.hid (KG.out.trans (hbV.mono KG.out.size))
   have ek : IntKind.i64.wrap ((j : Int) + 1) = (j : Int) + 1 := IntWalk.i64_in _ (by have := HJN.out; have := HPN.out; omega)
   clear hV hbV hA7 c0 c1 c2 c3 c4 c5 c6 c7 hjn
   have c0 := B7.out.cell (i := 0) rfl
   have c1 := B7.out.cell (i := 1) rfl
   have c2 := B7.out.cell (i := 2) rfl
   have c3 := B7.out.cell (i := 3) rfl
   have c4 := B7.out.cell (i := 4) rfl
   have c5 := B7.out.cell (i := 5) rfl
   have c6 := B7.out.cell (i := 6) rfl
   have c7 := B7.out.cell (i := 7) rfl
   have cL := B7.out.cell (i := 4 + li) (at_cell _ _ _ _ _ HI.out)
   go_wp2_with fail
   go_roundw
   case rel =>
    refine ⟨j + 1, by have := HJN.out; omega, rfl, ?_, KG.out⟩
    rw [List.take_add_one, HPJ.out]
    show _ = Value.int .i64 (degP (P.take j ++ [(t.m, q)]) li)
    have hs : t.m.at li ≤ 65535 := at_small (HSM.out _ (List.mem_of_getElem? HPJ.out)) li
    rw [degP_snoc, show wrap64 ((t.m.at li : Nat) : Int) = ((t.m.at li : Nat) : Int) from by unfold wrap64; omega]
   case measure => simp [intOf]; have := HJN.out; omega
  ·have hge : ¬ ((j : Int) < (pn : Int)) := by omega
   have HJE := Lib.hid (show j = pn by have := HJ.out; omega)
   clear hjn
   go_wp2_with fail
   go_ret
   refine ⟨?_, KG.out⟩
   have hl : P.length = L.length := by rw [← T1.out, List.length_map]
   rw [List.take_of_length_le (by rw [hl, N1.out, HJE.out]; exact Nat.le_refl _)]
   rfl
set_option maxRecDepth 100000 in
set_option maxHeartbeats 4000000 in
theorem slope1_i (t : TV) (q : Rat) (w : World) (af : AF w t.c q) (lf : LF t.c 900000) (li : Nat) (hi : li < 4) (bc : Nat) (hc : Bxs w bc 3 [.int .i64 (li : Int)]) (hs : (t.m.at li) ≤ 65535) : Calls Tryz.prog 65 #[TV.v t, .pointer (some ⟨bc, 0, none⟩)] w fun en w' => ∃ y : FV, en = .returned (TV.v ⟨y, t.m.dec li⟩) ∧ DF w' w.heap.size y (q * ((t.m.at li) : Rat)) ∧ Below w.heap.size w w' := by
 have LQq := Lib.hid (af.len lf)
 have HLNF := Lib.hid lf
 obtain ⟨V, hV⟩ : ∃ V, V = (w.alloc (.cells #[.bool t.c.t.s, .slice t.c.t.a t.c.t.n t.c.t.c, .bool t.c.l.s, .slice t.c.l.a t.c.l.n t.c.l.c, .int .u16 t.m.x, .int .u16 t.m.y, .int .u16 t.m.z, .int .u16 t.m.t] 40)).alloc (.cells #[.bool false, .slice none 0 0, .bool false, .slice none 0 0, .int .u16 0, .int .u16 0, .int .u16 0, .int .u16 0] 40) := ⟨_, rfl⟩
 have hbV : Below w.heap.size w V := by rw [hV]; exact ((Below.refl _ _).alloc (Nat.le_refl _) _).alloc (by go_size) _
 have B1 := Lib.hid (show Bxs V w.heap.size 40 [.bool t.c.t.s, .slice t.c.t.a t.c.t.n t.c.t.c, .bool t.c.l.s, .slice t.c.l.a t.c.l.n t.c.l.c, .int .u16 t.m.x, .int .u16 t.m.y, .int .u16 t.m.z, .int .u16 t.m.t] by rw [hV]; exact (Bxs.new w 40 [.bool t.c.t.s, .slice t.c.t.a t.c.t.n t.c.t.c, .bool t.c.l.s, .slice t.c.l.a t.c.l.n t.c.l.c, .int .u16 t.m.x, .int .u16 t.m.y, .int .u16 t.m.z, .int .u16 t.m.t]).alloc _)
 have B2 := Lib.hid (show Bxs V (w.heap.size + 1) 40 [.bool false, .slice none 0 0, .bool false, .slice none 0 0, .int .u16 0, .int .u16 0, .int .u16 0, .int .u16 0] by
  have h := Bxs.new (w.alloc (.cells #[.bool t.c.t.s, .slice t.c.t.a t.c.t.n t.c.t.c, .bool t.c.l.s, .slice t.c.l.a t.c.l.n t.c.l.c, .int .u16 t.m.x, .int .u16 t.m.y, .int .u16 t.m.z, .int .u16 t.m.t] 40)) 40 [.bool false, .slice none 0 0, .bool false, .slice none 0 0, .int .u16 0, .int .u16 0, .int .u16 0, .int .u16 0]
  rw [World.size_alloc] at h
  rw [hV]; exact h)
 have KG := Lib.hid hbV
 obtain ⟨A1, hA1⟩ : ∃ A, A = w.heap.size := ⟨_, rfl⟩
 obtain ⟨A2, hA2⟩ : ∃ A, A = w.heap.size + 1 := ⟨_, rfl⟩
 have HA2 := Lib.hid (show w.heap.size ≤ A2 by omega)
 have HSZ := Lib.hid (show w.heap.size ≤ V.heap.size from hbV.size)
 have NF := Lib.hid (af.below hbV)
 have HI := Lib.hid hi
 have hi1 : (li : Int) < 4 := by omega
 have hi2 : ¬ ((li : Int) < 0) := by omega
 have hi3 : (0 : Int) ≤ (li : Int) := by omega
 have HN12 := Lib.hid (show A2 ≠ A1 by omega)
 have HA1 := Lib.hid (show w.heap.size ≤ A1 by omega)
 have HNC := Lib.hid (show bc ≠ A1 by have := hc.lt; omega)
 have BC := Lib.hid (hc.below hbV hc.lt)
 have HEW := Lib.hid (show IntKind.i64.wrap ((t.m.at li) : Int) = ((t.m.at li) : Int) from IntWalk.i64_in _ (by omega))
 have e1 : IntKind.u16.wrap (max ((t.m.at li) : Int) 1 - 1) = (((t.m.at li) - 1 : Nat) : Int) := by rw [IntWalk.u16_in _ (by omega)]; omega
 clear hc hi
 clear af lf
 change Calls Tryz.prog 65 #[.agg #[.bool t.c.t.s, .slice t.c.t.a t.c.t.n t.c.t.c, .bool t.c.l.s, .slice t.c.l.a t.c.l.n t.c.l.c, .int .u16 t.m.x, .int .u16 t.m.y, .int .u16 t.m.z, .int .u16 t.m.t], .pointer (some ⟨bc, 0, none⟩)] w _
 go_enter Tryz.func65, Tryz.ntmps65
 go_upto_region 1 with (fail)
 rw [← hV, ← hA2, ← hA1]
 rw [← hA1] at B1
 rw [← hA2] at B2
 clear hV hbV hA1 hA2
 have cB10 := B1.out.cell (i := 0) rfl
 have cB11 := B1.out.cell (i := 1) rfl
 have cB12 := B1.out.cell (i := 2) rfl
 have cB13 := B1.out.cell (i := 3) rfl
 have cB14 := B1.out.cell (i := 4) rfl
 have cB15 := B1.out.cell (i := 5) rfl
 have cB16 := B1.out.cell (i := 6) rfl
 have cB17 := B1.out.cell (i := 7) rfl
 have cB1f := B1.out.fz
 have cB1l := B1.out.lt
 have cBL := B1.out.cell (i := 4 + li) (at_cell _ _ _ _ _ HI.out)
 have cc0 := BC.out.cell (i := 0) rfl
 go_upto_region 2 with (fail)
 clear cB10 cB11 cB12 cB13 cB14 cB15 cB16 cB17 cB1f cB1l
 clear cc0 cBL
 obtain ⟨q101, hq101⟩ : ∃ z : Rat, z = ((IntKind.i64.wrap ((t.m.at li) : Int) : Int) : Rat) := ⟨_, rfl⟩
 have Hq101 := Lib.hid hq101
 have LQq101 := Lib.hid (show LQ q101 3 by rw [hq101]; exact LQ.int (by rw [HEW.out]; omega) (by rw [HEW.out]; omega))
 clear hq101
 obtain ⟨q102, hq102⟩ : ∃ z : Rat, z = q * q101 := ⟨_, rfl⟩
 have Hq102 := Lib.hid hq102
 have LQq102 := Lib.hid (show LQ q102 1800002 by rw [hq102]; exact LQ.mul (LQq.out.up (by decide : _ ≤ 900001)) (LQq101.out.up (by decide : _ ≤ 900001)) (by decide))
 clear hq102
 go_upto_region 2 with (fail)
 refine Go.FreshS.wp_region_fresh 7 [] (Go.FreshS.spOf [(4, Go.FreshS.Sp.made (fun x : FV => x.v) (fun x w' => DF w' V.heap.size x q101) FV.blk), (5, Go.FreshS.Sp.made (fun x : FV => x.v) (fun x w' => DF w' V.heap.size x q102) FV.blk)])
  (fun w' => Below V.heap.size V w') (by kernel_rfl) (by kernel_rfl) (by kernel_rfl)
  (Go.FreshS.spOf_cons (Go.FreshS.Sp.made_keeps _ (fun _ _ _ h _ hk => h.kept hk) (Go.FreshS.notTaken (by kernel_rfl))) (Go.FreshS.spOf_cons (Go.FreshS.Sp.made_keeps _ (fun _ _ _ h _ hk => h.kept hk) (Go.FreshS.notTaken (by kernel_rfl))) (Go.FreshS.spOf_nil))) (fun _ _ h hb => h.trans (hb.mono h.size)) ((Below.refl _ _).drew) ?_
 simp only [List.append_eq, List.cons_append, List.nil_append, List.take_succ_cons, List.take_zero, List.drop_succ_cons, List.drop_zero]
 refine Go.FreshS.wpF_reads rfl rfl rfl ?_ (fun w' hw' => ?_) ?_
 rotate_left
 ·have hb' := hw'.world
  skip
  clear hw'
  go_simp
  try rfl
 conv => arg 10; simp only [Act.put, List.setIfInBounds_toArray, List.set_cons_succ, List.set_cons_zero]
 refine Go.FreshS.wpF_reads rfl rfl rfl ?_ (fun w' hw' => ?_) ?_
 rotate_left
 ·have hb' := hw'.world
  have hs0 := (B1.out.below hb' B1.out.lt).cell (i := 0) rfl
  have hs1 := (B1.out.below hb' B1.out.lt).cell (i := 1) rfl
  have hs2 := (B1.out.below hb' B1.out.lt).cell (i := 2) rfl
  have hs3 := (B1.out.below hb' B1.out.lt).cell (i := 3) rfl
  have hs4 := (B1.out.below hb' B1.out.lt).cell (i := 4) rfl
  have hs5 := (B1.out.below hb' B1.out.lt).cell (i := 5) rfl
  have hs6 := (B1.out.below hb' B1.out.lt).cell (i := 6) rfl
  have hs7 := (B1.out.below hb' B1.out.lt).cell (i := 7) rfl
  have hsf := (B1.out.below hb' B1.out.lt).fz
  have hsl := (B1.out.below hb' B1.out.lt).lt
  clear hw'
  go_simp
  try rfl
 conv => arg 10; simp only [Act.put, List.setIfInBounds_toArray, List.set_cons_succ, List.set_cons_zero]
 refine Go.FreshS.wpF_reads rfl rfl rfl ?_ (fun w' hw' => ?_) ?_
 rotate_left
 ·have hb' := hw'.world
  skip
  clear hw'
  go_simp
  try rfl
 conv => arg 10; simp only [Act.put, List.setIfInBounds_toArray, List.set_cons_succ, List.set_cons_zero]
 refine Go.FreshS.wpF_reads rfl rfl rfl ?_ (fun w' hw' => ?_) ?_
 rotate_left
 ·have hb' := hw'.world
  skip
  clear hw'
  go_simp
  try rfl
 conv => arg 10; simp only [Act.put, List.setIfInBounds_toArray, List.set_cons_succ, List.set_cons_zero]
 refine Go.FreshS.wpF_spec rfl rfl rfl (fun w' hw' => ?_) ?_
 ·have hb' := hw'.world
  refine Go.FreshS.gives_of (Go.FreshS.PM (fun x : FV => x.v) (fun x w' => DF w' V.heap.size x q101) FV.blk w'.heap.size) ?_ (fun _ _ h => h.post (fun _ _ => FV.inj))
  go_simp
  have CT := qof (IntKind.i64.wrap ((t.m.at li) : Int)) w' (by rw [HEW.out]; omega) (by rw [HEW.out]; omega)
  rw [show ((IntKind.i64.wrap ((t.m.at li) : Int) : Int) : Rat) = q101 from Hq101.out.symm] at CT
  refine CT.mono ?_
  rintro e w'' ⟨za, rfl, ho, hb⟩
  exact ⟨_, rfl, ⟨za, rfl, ho.mono hb'.size, ho.blks⟩, hb⟩
 rintro _ ⟨y4, rfl⟩
 conv => arg 10; simp only [Act.put, List.setIfInBounds_toArray, List.set_cons_succ, List.set_cons_zero]
 refine Go.FreshS.wpF_spec rfl rfl rfl (fun w' hw' => ?_) ?_
 ·have hb' := hw'.world
  refine Go.FreshS.gives_of (Go.FreshS.PM (fun x : FV => x.v) (fun x w' => DF w' V.heap.size x q102) FV.blk w'.heap.size) ?_ (fun _ _ h => h.post (fun _ _ => FV.inj))
  go_simp
  have f4 := Go.FreshS.made_of (val := (fun x : FV => x.v)) (Φ := fun x w' => DF w' V.heap.size x q101) (fun _ _ => FV.inj) (hw'.fact 4 (by kernel_rfl))
  have CT := qmul (NF.out.below hb') (LF.up HLNF.out (by decide : _ ≤ 900000)) (f4).k.any (((f4).k).len LQq101.out (by decide : _ ≤ 900000))
  rw [show q * q101 = q102 from Hq102.out.symm] at CT
  refine CT.mono ?_
  rintro e w'' ⟨za, rfl, ho, hb⟩
  exact ⟨_, rfl, ⟨za, rfl, ho.mono hb'.size, ho.blks⟩, hb⟩
 rintro _ ⟨y5, rfl⟩
 conv => arg 10; simp only [Act.put, List.setIfInBounds_toArray, List.set_cons_succ, List.set_cons_zero]
 refine Go.FreshS.wpF_reads rfl rfl rfl ?_ (fun w' hw' => ?_) ?_
 rotate_left
 ·have hb' := hw'.world
  skip
  clear hw'
  go_simp
  try rfl
 conv => arg 10; simp only [Act.put, List.setIfInBounds_toArray, List.set_cons_succ, List.set_cons_zero]
 refine Go.FreshS.wpF_nil (fun w103 hb hF => ?_)
 have N104 := Lib.hid (show DF w103 V.heap.size y5 q102 from (Go.FreshS.made_of (val := (fun x : FV => x.v)) (Φ := fun x w' => DF w' V.heap.size x q102) (fun _ _ => FV.inj) (hF.all 5)))
 clear hF
 have NF := Lib.hid (NF.out.below hb)
 have B1 := Lib.hid (B1.out.below hb B1.out.lt)
 have B2 := Lib.hid (B2.out.below hb B2.out.lt)
 have BC := Lib.hid (BC.out.below hb BC.out.lt)
 have KG := Lib.hid (KG.out.trans (hb.mono KG.out.size))
 clear hb
 have cB10 := B1.out.cell (i := 0) rfl
 have cB11 := B1.out.cell (i := 1) rfl
 have cB12 := B1.out.cell (i := 2) rfl
 have cB13 := B1.out.cell (i := 3) rfl
 have cB14 := B1.out.cell (i := 4) rfl
 have cB15 := B1.out.cell (i := 5) rfl
 have cB16 := B1.out.cell (i := 6) rfl
 have cB17 := B1.out.cell (i := 7) rfl
 have cB1f := B1.out.fz
 have cB1l := B1.out.lt
 go_upto_region 3 with (fail)
 clear cB10 cB11 cB12 cB13 cB14 cB15 cB16 cB17 cB1f cB1l
 obtain ⟨U, hU⟩ : ∃ U, U = (((w103.setCell ⟨A1, 0, none⟩ (.bool y5.t.s)).setCell ⟨A1, 1, none⟩ (.slice y5.t.a y5.t.n y5.t.c)).setCell ⟨A1, 2, none⟩ (.bool y5.l.s)).setCell ⟨A1, 3, none⟩ (.slice y5.l.a y5.l.n y5.l.c) := ⟨_, rfl⟩
 have HD := Lib.hid (show DF U V.heap.size y5 q102 by rw [hU]; exact ((((N104.out.setBxs B1.out (by decide) 0 _).setBxs (B1.out.put 0 _) (by decide) 1 _).setBxs ((B1.out.put 0 _).put 1 _) (by decide) 2 _).setBxs (((B1.out.put 0 _).put 1 _).put 2 _) (by decide) 3 _))
 have KG := Lib.hid (show Below w.heap.size w U by rw [hU]; exact ((((KG.out.setCell HA1.out _).setCell HA1.out _).setCell HA1.out _).setCell HA1.out _))
 have B2 := Lib.hid (show Bxs U A2 40 [.bool false, .slice none 0 0, .bool false, .slice none 0 0, .int .u16 0, .int .u16 0, .int .u16 0, .int .u16 0] by rw [hU]; exact ((((B2.out.other HN12.out _).other HN12.out _).other HN12.out _).other HN12.out _))
 have BC := Lib.hid (show Bxs U bc 3 [.int .i64 (li : Int)] by rw [hU]; exact ((((BC.out.other HNC.out _).other HNC.out _).other HNC.out _).other HNC.out _))
 have B1 := Lib.hid (show Bxs U A1 40 [.bool y5.t.s, .slice y5.t.a y5.t.n y5.t.c, .bool y5.l.s, .slice y5.l.a y5.l.n y5.l.c, .int .u16 t.m.x, .int .u16 t.m.y, .int .u16 t.m.z, .int .u16 t.m.t] by rw [hU]; exact ((((B1.out.put 0 _).put 1 _).put 2 _).put 3 _))
 rw [← hU]
 clear hU
 have cB10 := B1.out.cell (i := 0) rfl
 have cB11 := B1.out.cell (i := 1) rfl
 have cB12 := B1.out.cell (i := 2) rfl
 have cB13 := B1.out.cell (i := 3) rfl
 have cB14 := B1.out.cell (i := 4) rfl
 have cB15 := B1.out.cell (i := 5) rfl
 have cB16 := B1.out.cell (i := 6) rfl
 have cB17 := B1.out.cell (i := 7) rfl
 have cB1f := B1.out.fz
 have cB1l := B1.out.lt
 have cBL := B1.out.cell (i := 4 + li) (at_cell _ _ _ _ _ HI.out)
 have cc0 := BC.out.cell (i := 0) rfl
 go_upto_region 4 with (fail)
 clear cB10 cB11 cB12 cB13 cB14 cB15 cB16 cB17 cB1f cB1l
 clear cc0 cBL
 obtain ⟨U2, hU2⟩ : ∃ U2, U2 = U.setCell ⟨A1, 4 + li, none⟩ (.int .u16 (((t.m.at li) - 1 : Nat) : Int)) := ⟨_, rfl⟩
 have HD := Lib.hid (show DF U2 V.heap.size y5 q102 by rw [hU2]; exact HD.out.setBxs B1.out (by decide) (4 + li) _)
 have KG := Lib.hid (show Below w.heap.size w U2 by rw [hU2]; exact KG.out.setCell HA1.out _)
 have B2 := Lib.hid (show Bxs U2 A2 40 [.bool false, .slice none 0 0, .bool false, .slice none 0 0, .int .u16 0, .int .u16 0, .int .u16 0, .int .u16 0] by rw [hU2]; exact B2.out.other HN12.out _)
 have B1 := Lib.hid (show Bxs U2 A1 40 [.bool y5.t.s, .slice y5.t.a y5.t.n y5.t.c, .bool y5.l.s, .slice y5.l.a y5.l.n y5.l.c, .int .u16 (t.m.dec li).x, .int .u16 (t.m.dec li).y, .int .u16 (t.m.dec li).z, .int .u16 (t.m.dec li).t] by rw [hU2]; exact put_dec B1.out HI.out)
 rw [← hU2]
 clear hU2
 have cB10 := B1.out.cell (i := 0) rfl
 have cB11 := B1.out.cell (i := 1) rfl
 have cB12 := B1.out.cell (i := 2) rfl
 have cB13 := B1.out.cell (i := 3) rfl
 have cB14 := B1.out.cell (i := 4) rfl
 have cB15 := B1.out.cell (i := 5) rfl
 have cB16 := B1.out.cell (i := 6) rfl
 have cB17 := B1.out.cell (i := 7) rfl
 have cB1f := B1.out.fz
 have cB1l := B1.out.lt
 have cB20 := B2.out.cell (i := 0) rfl
 have cB21 := B2.out.cell (i := 1) rfl
 have cB22 := B2.out.cell (i := 2) rfl
 have cB23 := B2.out.cell (i := 3) rfl
 have cB24 := B2.out.cell (i := 4) rfl
 have cB25 := B2.out.cell (i := 5) rfl
 have cB26 := B2.out.cell (i := 6) rfl
 have cB27 := B2.out.cell (i := 7) rfl
 have cB2f := B2.out.fz
 have cB2l := B2.out.lt
 have HQ := Lib.hid (show q102 = q * ((t.m.at li) : Rat) by rw [Hq102.out, Hq101.out, HEW.out]; rfl)
 have HD2 := Lib.hid (show DF (put8 U2 A2 (.bool y5.t.s) (.slice y5.t.a y5.t.n y5.t.c) (.bool y5.l.s) (.slice y5.l.a y5.l.n y5.l.c) (.int .u16 (t.m.dec li).x) (.int .u16 (t.m.dec li).y) (.int .u16 (t.m.dec li).z) (.int .u16 (t.m.dec li).t)) w.heap.size y5 (q * ((t.m.at li) : Rat)) from by rw [← HQ.out]; exact put8_df (HD.out.mono HSZ.out) B2.out (by decide) ..)
 have HB := Lib.hid (show Below w.heap.size w (put8 U2 A2 (.bool y5.t.s) (.slice y5.t.a y5.t.n y5.t.c) (.bool y5.l.s) (.slice y5.l.a y5.l.n y5.l.c) (.int .u16 (t.m.dec li).x) (.int .u16 (t.m.dec li).y) (.int .u16 (t.m.dec li).z) (.int .u16 (t.m.dec li).t)) from put8_below KG.out HA2.out ..)
 go_wp2_with fail
 exact bodyPost_ret (results_cell rfl _ _ _ _ _ _ _ rfl (put8_bxs B2.out ..) Tryz.underlying40 rfl (by kernel_rfl)) rfl ⟨y5, rfl, HD2.out, HB.out⟩
theorem slope1_any (i : Nat) (hi : i < 4) (t : TV) (q : Rat) (w : World) (af : AF w t.c q) (lf : LF t.c 900000) (bc : Nat) (hc : Bxs w bc 3 [.int .i64 (i : Int)]) (hs : t.m.Small) :
  Calls Tryz.prog 65 #[TV.v t, .pointer (some ⟨bc, 0, none⟩)] w fun en w' => ∃ y : FV, en = .returned (TV.v ⟨y, t.m.dec i⟩) ∧ DF w' w.heap.size y (q * (t.m.at i : Rat)) ∧ Below w.heap.size w w' := by
 exact slope1_i t q w af lf i hi bc hc (at_small hs i)
theorem dec_small {m : Mo} (h : m.Small) (i : Nat) : (m.dec i).Small := by
 obtain ⟨h1, h2, h3, h4⟩ := h
 unfold Mo.dec
 split
 ·exact ⟨by show m.x - 1 ≤ _; omega, h2, h3, h4⟩
 ·split
  ·exact ⟨h1, by show m.y - 1 ≤ _; omega, h3, h4⟩
  ·split
   ·exact ⟨h1, h2, by show m.z - 1 ≤ _; omega, h4⟩
   ·exact ⟨h1, h2, h3, by show m.t - 1 ≤ _; omega⟩
theorem lq_at {m : Mo} (h : m.Small) (i : Nat) {q : Rat} {k : Nat} (hq : LQ q k) : LQ (q * (m.at i : Rat)) (k + 3) := by
 have h1 := at_small h i
 have h2 : LQ (((m.at i : Nat) : Int) : Rat) 3 := LQ.int (by omega) (by omega)
 exact (hq.ls.mul h2.ls).lq (Nat.le_refl _) (Nat.le_refl _)
set_option maxRecDepth 100000 in
set_option maxHeartbeats 4000000 in
theorem slope_k (i : Nat) (hi : i < 4) (x : PV) (P : List Tm) (k : Nat) (w : World) (hx : KP w x P) (hp : ∀ t ∈ P, LQ t.2 k) (hn : P.length ≤ 1000000) (hk : P.length * (k + 4) ≤ 900000) (hk9 : k ≤ 900000) :
  Calls Tryz.prog 29 #[x.v, .int .i64 (i : Int)] w fun e w' => ∃ y : PV, e = .returned (.tuple #[y.v, .int .i64 0]) ∧ DP w' w.heap.size y (slopeP P i) ∧ Below w.heap.size w w' := by
 have B1 := Lib.hid (Bxs.new w 3 [.int .i64 (i : Int)])
 obtain ⟨V, hV⟩ : ∃ V, V = w.alloc (.cells #[.int .i64 (i : Int)] 3) := ⟨_, rfl⟩
 have hbV : Below w.heap.size w V := by rw [hV]; exact (Below.refl _ _).alloc (Nat.le_refl _) _
 have B1 := Lib.hid (show Bxs V w.heap.size 3 [.int .i64 (i : Int)] by rw [hV]; exact B1.out)
 have hxl := hx.len
 have CK := Lib.hid (check_k (hx.below hbV) (fun t ht => (hp t ht).up hk9) (by omega))
 have HX := Lib.hid hx; have HP := Lib.hid hp; have HN := Lib.hid hn; have HK := Lib.hid hk; have HI := Lib.hid hi; have HK9 := Lib.hid hk9
 have HXL := Lib.hid hxl
 have KG := Lib.hid hbV
 have HV := Lib.hid hV
 have h1 : ¬ ((i : Int) < 0) := by omega
 have h2 : ¬ ((4 : Int) ≤ (i : Int)) := by omega
 have h3 : ¬ ((i : Int) ≥ 4) := by omega
 obtain ⟨xa, xn, xc⟩ := x
 clear hV hbV hx hp hn hk hi hxl hk9
 change Calls Tryz.prog 29 #[.slice xa xn xc, .int .i64 (i : Int)] w _
 go_enter Tryz.func29, Tryz.ntmps29
 go_upto_region 1 with (fail)
 rw [show w.alloc (.cells #[.int .i64 (i : Int)] 3) = V from HV.out.symm]
 have c0 := B1.out.cell (i := 0) rfl
 go_wp2_with fail
 with_reducible refine CK.out.mono ?_
 rintro e w1 ⟨rfl, hb⟩
 have KG := Lib.hid (KG.out.trans (hb.mono KG.out.size))
 have B1 := Lib.hid (B1.out.below hb B1.out.lt)
 clear hb CK c0
 have c0 := B1.out.cell (i := 0) rfl
 obtain ⟨L, hR, hK, hLP⟩ := (HX.out.below KG.out).rowA (fun t ht => (HP.out t ht).up HK9.out)
 have hl : L.length = P.length := by rw [← hLP, List.length_map]
 have hmem : ∀ e ∈ L, tm e ∈ P := fun e he => by rw [← hLP]; exact List.mem_map_of_mem he
 have WT := Lib.hid (with_any 65 #[.pointer (some ⟨w.heap.size, 0, none⟩)] ⟨xa, xn, xc⟩ L (fun e => (e.1.m.dec i, e.2 * (e.1.m.at i : Rat))) (k + 3) w1 hR (by rw [hl]; exact HN.out)
  (by rw [hl]; exact HK.out) (fun _ _ => by kernel_rfl)
  (fun e he w2 hb2 ha hl2 => slope1_any i HI.out e.1 e.2 w2 ha hl2 w.heap.size (B1.out.below hb2 B1.out.lt) (HX.out.small _ (hmem e he)))
  (fun e he => dec_small (HX.out.small _ (hmem e he)) i) (fun e he => lq_at (HX.out.small _ (hmem e he)) i (HP.out _ (hmem e he))))
 have HL := Lib.hid hLP
 clear hR hK hLP hl hmem
 go_wp2_with fail
 with_reducible refine WT.out.mono ?_
 rintro e w2 ⟨y, rfl, hy, hb2⟩
 have HY := Lib.hid hy
 have HB2 := Lib.hid hb2
 clear hy hb2 WT c0
 go_wp2_with fail
 go_ret2
 refine ⟨y, rfl, ?_, KG.out.trans (HB2.out.mono KG.out.size)⟩
 have e1 : slopeP P i = nf (L.map fun e => (e.1.m.dec i, e.2 * (e.1.m.at i : Rat))) := by
  unfold slopeP slopeL
  rw [← HL.out, List.map_map]
  rfl
 rw [e1]
 exact HY.out.mono KG.out.size
def moF (m : Mo) : Nat → Int := fun i => ((m.at i : Nat) : Int)
theorem moF_small {m : Mo} (h : m.Small) : Mono.Small (moF m) := fun i _ => ⟨Int.natCast_nonneg _, by have := at_small h i; unfold moF; omega⟩
def keyO (o : Int) (m : Mo) : Int := Mono.KO o (moF m)
theorem cmpZ_dec {a b : Int} : Mono.cmpZ a b > 0 ↔ b < a := by
 rcases Int.lt_trichotomy a b with h | h | h
 ·rw [Mono.cmpZ_lt h]; omega
 ·rw [Mono.cmpZ_eq h]; omega
 ·rw [Mono.cmpZ_gt h]; omega
set_option maxRecDepth 100000 in
set_option maxHeartbeats 16000000 in
theorem max_any (G : Nat) (cs : Array Value) (x : PV) (ts : List TV) (K : Mo → Int) (w : World) (hr : RT w x.a ts) (hl : ts.length = x.n) (hn : x.n ≤ 1000000) (hne : ts ≠ []) (hs : ∀ t ∈ ts, t.m.Small)
  (hcf : ∀ (args : Array Value) (w : World), (callFunc G args).run Tryz.prog w = .ok (.enter G args) w)
  (hF : ∀ t u : TV, t.m.Small → u.m.Small → ∀ w1, Below w.heap.size w w1 → Calls Tryz.prog G (#[TV.v t, TV.v u] ++ cs) w1 fun e w' => e = .returned (.int .i64 (Mono.cmpZ (K t.m) (K u.m))) ∧ Below w1.heap.size w1 w') :
  Calls Tryz.prog 46 #[x.v, .func (.func G) #[] cs] w fun e w' => ∃ t, t ∈ ts ∧ (∀ u ∈ ts, K u.m ≤ K t.m) ∧ e = .returned (TV.v t) ∧ Below w.heap.size w w' := by
 obtain ⟨xa, xn, xc⟩ := x
 change Calls Tryz.prog 46 #[.slice xa xn xc, .func (.func G) #[] cs] w _
 have HL := Lib.hid (show ts.length = xn from hl); have HN := Lib.hid (show xn ≤ 1000000 from hn); have HS := Lib.hid hs; have HF := Lib.hid hF
 obtain ⟨pb, po, rfl, hc⟩ := RT.one hr hne
 have HE := Lib.hid hc
 have HP := Lib.hid (show 0 < xn by rw [← HL.out]; exact List.length_pos_iff.2 hne)
 obtain ⟨t0, ht0⟩ : ∃ t, ts[0]? = some t := ⟨_, List.getElem?_eq_getElem (List.length_pos_iff.2 hne)⟩
 have HT0 := Lib.hid ht0
 have h1 : ¬ ((xn : Int) < 1) := by have := HP.out; omega
 obtain ⟨V, hV⟩ : ∃ V, V = w.alloc (.cells #[.bool false, .slice none 0 0, .bool false, .slice none 0 0, .int .u16 0, .int .u16 0, .int .u16 0, .int .u16 0] 40) := ⟨_, rfl⟩
 have hbV : Below w.heap.size w V := by rw [hV]; exact (Below.refl _ _).alloc (Nat.le_refl _) _
 have B4 := Lib.hid (show Bxs V w.heap.size 40 [.bool false, .slice none 0 0, .bool false, .slice none 0 0, .int .u16 0, .int .u16 0, .int .u16 0, .int .u16 0] by rw [hV]; exact Bxs.new w 40 [.bool false, .slice none 0 0, .bool false, .slice none 0 0, .int .u16 0, .int .u16 0, .int .u16 0, .int .u16 0])
 have E0 := Lib.hid ((hc 0 t0 ht0).below hbV)
 have KG := Lib.hid hbV
 have HV := Lib.hid hV
 have HP0 : (0 : Int) < (xn : Int) := by have := HP.out; omega
 clear hr hl hn hs hF hc ht0 hV hbV
 go_enter Tryz.func46, Tryz.ntmps46
 go_upto_region 1 with (fail)
 rw [show w.alloc (.cells #[.bool false, .slice none 0 0, .bool false, .slice none 0 0, .int .u16 0, .int .u16 0, .int .u16 0, .int .u16 0] 40) = V from HV.out.symm]
 obtain ⟨c0, c1, c2, c3, c4, c5, c6, c7⟩ := E0.out.eight
 simp only [Nat.zero_mul, Nat.add_zero] at c0 c1 c2 c3 c4 c5 c6 c7
 go_upto_region 4 with (fail)
 obtain ⟨U, hU⟩ : ∃ U, U = V.alloc (.cells #[.bool t0.c.t.s, .slice t0.c.t.a t0.c.t.n t0.c.t.c, .bool t0.c.l.s, .slice t0.c.l.a t0.c.l.n t0.c.l.c, .int .u16 t0.m.x, .int .u16 t0.m.y, .int .u16 t0.m.z, .int .u16 t0.m.t] 40) := ⟨_, rfl⟩
 have hbU : Below V.heap.size V U := by rw [hU]; exact (Below.refl _ _).alloc (Nat.le_refl _) _
 have B5 := Lib.hid (show Bxs U V.heap.size 40 [.bool t0.c.t.s, .slice t0.c.t.a t0.c.t.n t0.c.t.c, .bool t0.c.l.s, .slice t0.c.l.a t0.c.l.n t0.c.l.c, .int .u16 t0.m.x, .int .u16 t0.m.y, .int .u16 t0.m.z, .int .u16 t0.m.t] by rw [hU]; exact Bxs.new V 40 [.bool t0.c.t.s, .slice t0.c.t.a t0.c.t.n t0.c.t.c, .bool t0.c.l.s, .slice t0.c.l.a t0.c.l.n t0.c.l.c, .int .u16 t0.m.x, .int .u16 t0.m.y, .int .u16 t0.m.z, .int .u16 t0.m.t])
 obtain ⟨A1, hA1⟩ : ∃ A, A = w.heap.size := ⟨_, rfl⟩
 obtain ⟨A2, hA2⟩ : ∃ A, A = V.heap.size := ⟨_, rfl⟩
 have HA1 := Lib.hid (show w.heap.size ≤ A1 by omega)
 have HA2 := Lib.hid (show w.heap.size ≤ A2 by rw [hA2]; exact KG.out.size)
 have HNE := Lib.hid (show A1 ≠ A2 by have := B4.out.lt; omega)
 have B4 := Lib.hid (B4.out.below hbU B4.out.lt)
 have KG := Lib.hid (KG.out.trans (hbU.mono KG.out.size))
 rw [← hU, ← hA2, ← hA1]
 rw [← hA2] at B5
 rw [← hA1] at B4
 clear hU hbU hA1 hA2 c0 c1 c2 c3 c4 c5 c6 c7 h1 HP0
 go_wp2_with fail
 go_loopw [6] (fun i wr => ∃ (j : Nat) (t : TV), 1 ≤ j ∧ j ≤ xn ∧ i = .int .i64 j ∧ t ∈ ts ∧ (∀ i u, ts[i]? = some u → i < j → K u.m ≤ K t.m) ∧ Bxs wr A2 40 [.bool t.c.t.s, .slice t.c.t.a t.c.t.n t.c.t.c, .bool t.c.l.s, .slice t.c.l.a t.c.l.n t.c.l.c, .int .u16 t.m.x, .int .u16 t.m.y, .int .u16 t.m.z, .int .u16 t.m.t] ∧ Bxs wr A1 40 [.bool false, .slice none 0 0, .bool false, .slice none 0 0, .int .u16 0, .int .u16 0, .int .u16 0, .int .u16 0] ∧ Below w.heap.size w wr) (fun i _ => xn - (intOf i).toNat)
 case atStart =>
  refine ⟨1, t0, Nat.le_refl _, HP.out, rfl, List.mem_of_getElem? HT0.out, fun i u h1 h2 => ?_, B5.out, B4.out, KG.out⟩
  obtain rfl : i = 0 := by omega
  rw [HT0.out] at h1
  obtain rfl := Option.some.inj h1
  exact Int.le_refl _
 case round =>
  obtain ⟨j, t, hj1, hj, rfl, hmem, hmax, hB5, hB4, hb0⟩ := hrel
  have HJ1 := Lib.hid hj1; have HJ := Lib.hid hj; have HME := Lib.hid hmem; have HMX := Lib.hid hmax; have B5 := Lib.hid hB5; have B4 := Lib.hid hB4; have KG := Lib.hid hb0
  clear hj1 hj hmem hmax hB5 hB4 hb0
  by_cases hjn : j < xn
  ·have HJN := Lib.hid hjn
   obtain ⟨u, hu⟩ : ∃ u, ts[j]? = some u := ⟨_, List.getElem?_eq_getElem (by rw [HL.out]; exact hjn)⟩
   have HU := Lib.hid hu
   have E1 := Lib.hid ((HE.out j u hu).below KG.out)
   have HST := Lib.hid (HS.out t HME.out)
   have HSU := Lib.hid (HS.out u (List.mem_of_getElem? hu))
   obtain ⟨cv, hcv⟩ : ∃ c, c = Mono.cmpZ (K u.m) (K t.m) := ⟨_, rfl⟩
   have HCV := Lib.hid hcv
   have ek : IntKind.i64.wrap ((j : Int) + 1) = (j : Int) + 1 := IntWalk.i64_in _ (by have := HJN.out; have := HN.out; omega)
   clear hu hcv
   go_upto_region 7 with (fail)
   refine Go.FreshS.wp_region_fresh 7 [] (Go.FreshS.spOf [(6, Go.FreshS.Sp.know (.int .i64 cv))])
    (fun w' => Below wr.heap.size wr w') (by kernel_rfl) (by kernel_rfl) (by kernel_rfl)
    (Go.FreshS.spOf_cons (Go.FreshS.Sp.know_keeps _ _) (Go.FreshS.spOf_nil)) (fun _ _ h hb => h.trans (hb.mono h.size)) ((Below.refl _ _).drew) ?_
   simp only [List.append_eq, List.cons_append, List.nil_append, List.take_succ_cons, List.take_zero, List.drop_succ_cons, List.drop_zero]
   refine Go.FreshS.wpF_reads rfl rfl rfl ?_ (fun w' hw' => ?_) ?_
   rotate_left
   ·have hb' := hw'.world
    skip
    clear hw'
    go_simp
    try rfl
   conv => arg 10; simp only [Act.put, List.setIfInBounds_toArray, List.set_cons_succ, List.set_cons_zero]
   refine Go.FreshS.wpF_reads rfl rfl rfl ?_ (fun w' hw' => ?_) ?_
   rotate_left
   ·have hb' := hw'.world
    skip
    clear hw'
    go_simp
    try rfl
   conv => arg 10; simp only [Act.put, List.setIfInBounds_toArray, List.set_cons_succ, List.set_cons_zero]
   refine Go.FreshS.wpF_reads rfl rfl rfl ?_ (fun w' hw' => ?_) ?_
   rotate_left
   ·have hb' := hw'.world
    skip
    clear hw'
    go_simp
    try rfl
   conv => arg 10; simp only [Act.put, List.setIfInBounds_toArray, List.set_cons_succ, List.set_cons_zero]
   refine Go.FreshS.wpF_reads rfl rfl rfl ?_ (fun w' hw' => ?_) ?_
   rotate_left
   ·have hb' := hw'.world
    skip
    clear hw'
    go_simp
    try rfl
   conv => arg 10; simp only [Act.put, List.setIfInBounds_toArray, List.set_cons_succ, List.set_cons_zero]
   refine Go.FreshS.wpF_reads rfl rfl rfl ?_ (fun w' hw' => ?_) ?_
   rotate_left
   ·have hb' := hw'.world
    obtain ⟨hs0, hs1, hs2, hs3, hs4, hs5, hs6, hs7⟩ := (E1.out.below hb').eight
    clear hw'
    go_simp
    try rfl
   conv => arg 10; simp only [Act.put, List.setIfInBounds_toArray, List.set_cons_succ, List.set_cons_zero]
   refine Go.FreshS.wpF_reads rfl rfl rfl ?_ (fun w' hw' => ?_) ?_
   rotate_left
   ·have hb' := hw'.world
    have hs0 := (B5.out.below hb' B5.out.lt).cell (i := 0) rfl
    have hs1 := (B5.out.below hb' B5.out.lt).cell (i := 1) rfl
    have hs2 := (B5.out.below hb' B5.out.lt).cell (i := 2) rfl
    have hs3 := (B5.out.below hb' B5.out.lt).cell (i := 3) rfl
    have hs4 := (B5.out.below hb' B5.out.lt).cell (i := 4) rfl
    have hs5 := (B5.out.below hb' B5.out.lt).cell (i := 5) rfl
    have hs6 := (B5.out.below hb' B5.out.lt).cell (i := 6) rfl
    have hs7 := (B5.out.below hb' B5.out.lt).cell (i := 7) rfl
    have hsf := (B5.out.below hb' B5.out.lt).fz
    have hsl := (B5.out.below hb' B5.out.lt).lt
    clear hw'
    go_simp
    try rfl
   conv => arg 10; simp only [Act.put, List.setIfInBounds_toArray, List.set_cons_succ, List.set_cons_zero]
   refine Go.FreshS.wpF_spec rfl rfl rfl (fun w' hw' => ?_) ?_
   ·have hb' := hw'.world
    refine Go.FreshS.gives_of (Go.FreshS.PK (.int .i64 cv)) ?_ (fun _ _ h => h.post)
    go_simp
    have CT := HF.out u t HSU.out HST.out w' (KG.out.trans (hb'.mono KG.out.size))
    rw [show Mono.cmpZ (K u.m) (K t.m) = cv from HCV.out.symm] at CT
    refine CT.mono ?_
    rintro e w'' ⟨rfl, hb⟩
    exact ⟨_, rfl, rfl, hb⟩
   rintro _ rfl
   conv => arg 10; simp only [Act.put, List.setIfInBounds_toArray, List.set_cons_succ, List.set_cons_zero]
   refine Go.FreshS.wpF_nil (fun w101 hb hF => ?_)
   clear hF
   have B5 := Lib.hid (B5.out.below hb B5.out.lt)
   have B4 := Lib.hid (B4.out.below hb B4.out.lt)
   have KG := Lib.hid (KG.out.trans (hb.mono KG.out.size))
   clear hb
   by_cases hcp : cv > 0
   ·have hcq : 0 < cv := hcp
    have HCP := Lib.hid hcp
    have E1 := Lib.hid ((HE.out j u HU.out).below KG.out)
    obtain ⟨c0, c1, c2, c3, c4, c5, c6, c7⟩ := E1.out.eight
    have cf := B5.out.fz
    have cl := B5.out.lt
    have c50 := B5.out.cell (i := 0) rfl
    have c51 := B5.out.cell (i := 1) rfl
    have c52 := B5.out.cell (i := 2) rfl
    have c53 := B5.out.cell (i := 3) rfl
    have c54 := B5.out.cell (i := 4) rfl
    have c55 := B5.out.cell (i := 5) rfl
    have c56 := B5.out.cell (i := 6) rfl
    have c57 := B5.out.cell (i := 7) rfl
    go_wp2_with fail
    go_roundw
    case rel =>
     refine ⟨j + 1, u, by omega, by have := HJN.out; omega, rfl, List.mem_of_getElem? HU.out, fun i v h1 h2 => ?_, put8_bxs B5.out .., ?_, put8_below KG.out HA2.out ..⟩
     ·have h3 : K t.m < K u.m := cmpZ_dec.1 (by rw [← HCV.out]; exact HCP.out)
      by_cases h4 : i < j
      ·have := HMX.out i v h1 h4; omega
      ·obtain rfl : i = j := by omega
       rw [HU.out] at h1
       obtain rfl := Option.some.inj h1
       exact Int.le_refl _
     ·exact ((((((((B4.out.other HNE.out _).other HNE.out _).other HNE.out _).other HNE.out _).other HNE.out _).other HNE.out _).other HNE.out _).other HNE.out _)
    case measure => simp [intOf]; have := HJN.out; omega
   ·have hcq : ¬ (0 < cv) := hcp
    have HCP := Lib.hid hcp
    go_wp2_with fail
    go_roundw
    case rel =>
     refine ⟨j + 1, t, by omega, by have := HJN.out; omega, rfl, HME.out, fun i v h1 h2 => ?_, B5.out, B4.out, KG.out⟩
     by_cases h4 : i < j
     ·exact HMX.out i v h1 h4
     ·obtain rfl : i = j := by omega
      rw [HU.out] at h1
      obtain rfl := Option.some.inj h1
      have h3 : ¬ (K t.m < K u.m) := fun h => HCP.out (by rw [HCV.out]; exact cmpZ_dec.2 h)
      omega
    case measure => simp [intOf]; have := HJN.out; omega
  ·have hge : ¬ ((j : Int) < (xn : Int)) := by omega
   have HJE := Lib.hid (show j = xn by have := HJ.out; omega)
   clear hjn
   have c0 := B5.out.cell (i := 0) rfl
   have c1 := B5.out.cell (i := 1) rfl
   have c2 := B5.out.cell (i := 2) rfl
   have c3 := B5.out.cell (i := 3) rfl
   have c4 := B5.out.cell (i := 4) rfl
   have c5 := B5.out.cell (i := 5) rfl
   have c6 := B5.out.cell (i := 6) rfl
   have c7 := B5.out.cell (i := 7) rfl
   have cf := B4.out.fz
   have cl := B4.out.lt
   have c40 := B4.out.cell (i := 0) rfl
   have c41 := B4.out.cell (i := 1) rfl
   have c42 := B4.out.cell (i := 2) rfl
   have c43 := B4.out.cell (i := 3) rfl
   have c44 := B4.out.cell (i := 4) rfl
   have c45 := B4.out.cell (i := 5) rfl
   have c46 := B4.out.cell (i := 6) rfl
   have c47 := B4.out.cell (i := 7) rfl
   go_wp2_with fail
   refine bodyPost_ret (results_cell rfl _ _ _ _ _ _ _ rfl (put8_bxs B4.out ..) Tryz.underlying40 rfl (by kernel_rfl)) rfl ⟨t, HME.out, fun u hu => ?_, rfl, put8_below KG.out HA1.out ..⟩
   obtain ⟨i, h⟩ := List.mem_iff_getElem?.1 hu
   exact HMX.out i u h (by have h8 := (List.getElem?_eq_some_iff.1 h).1; have h5 := HL.out; have h9 := HJE.out; omega)
set_option maxRecDepth 100000 in
set_option maxHeartbeats 4000000 in
theorem lead1_any (o : Int) (t u : TV) (w : World) (bo : Nat) (hb : Bxs w bo 30 [.int .u8 o]) (ht : t.m.Small) (hu : u.m.Small) :
  Calls Tryz.prog 47 #[TV.v t, TV.v u, .pointer (some ⟨bo, 0, none⟩)] w fun e w' => e = .returned (.int .i64 (Mono.cmpZ (keyO o t.m) (keyO o u.m))) ∧ Below w.heap.size w w' := by
 obtain ⟨V, hV⟩ : ∃ V, V = (w.alloc (.cells #[.bool t.c.t.s, .slice t.c.t.a t.c.t.n t.c.t.c, .bool t.c.l.s, .slice t.c.l.a t.c.l.n t.c.l.c, .int .u16 t.m.x, .int .u16 t.m.y, .int .u16 t.m.z, .int .u16 t.m.t] 40)).alloc (.cells #[.bool u.c.t.s, .slice u.c.t.a u.c.t.n u.c.t.c, .bool u.c.l.s, .slice u.c.l.a u.c.l.n u.c.l.c, .int .u16 u.m.x, .int .u16 u.m.y, .int .u16 u.m.z, .int .u16 u.m.t] 40) := ⟨_, rfl⟩
 have hbV : Below w.heap.size w V := by rw [hV]; exact ((Below.refl _ _).alloc (Nat.le_refl _) _).alloc (by go_size) _
 have B1 := Lib.hid (show Bxs V w.heap.size 40 [.bool t.c.t.s, .slice t.c.t.a t.c.t.n t.c.t.c, .bool t.c.l.s, .slice t.c.l.a t.c.l.n t.c.l.c, .int .u16 t.m.x, .int .u16 t.m.y, .int .u16 t.m.z, .int .u16 t.m.t] by rw [hV]; exact (Bxs.new w 40 [.bool t.c.t.s, .slice t.c.t.a t.c.t.n t.c.t.c, .bool t.c.l.s, .slice t.c.l.a t.c.l.n t.c.l.c, .int .u16 t.m.x, .int .u16 t.m.y, .int .u16 t.m.z, .int .u16 t.m.t]).alloc _)
 have B2 := Lib.hid (show Bxs V (w.heap.size + 1) 40 [.bool u.c.t.s, .slice u.c.t.a u.c.t.n u.c.t.c, .bool u.c.l.s, .slice u.c.l.a u.c.l.n u.c.l.c, .int .u16 u.m.x, .int .u16 u.m.y, .int .u16 u.m.z, .int .u16 u.m.t] by
  have h := Bxs.new (w.alloc (.cells #[.bool t.c.t.s, .slice t.c.t.a t.c.t.n t.c.t.c, .bool t.c.l.s, .slice t.c.l.a t.c.l.n t.c.l.c, .int .u16 t.m.x, .int .u16 t.m.y, .int .u16 t.m.z, .int .u16 t.m.t] 40)) 40 [.bool u.c.t.s, .slice u.c.t.a u.c.t.n u.c.t.c, .bool u.c.l.s, .slice u.c.l.a u.c.l.n u.c.l.c, .int .u16 u.m.x, .int .u16 u.m.y, .int .u16 u.m.z, .int .u16 u.m.t]
  rw [World.size_alloc] at h
  rw [hV]; exact h)
 have BO := Lib.hid (hb.below hbV hb.lt)
 have KG := Lib.hid hbV
 have HV := Lib.hid hV
 have CM := Lib.hid (show Calls Tryz.prog 48 #[.int .u8 o, Mo.v t.m, Mo.v u.m] V _ from Mono.cmp_any o (moF t.m) (moF u.m) V (moF_small ht) (moF_small hu))
 have HK := Lib.hid (Mono.cmp_key (o := o) (moF_small ht) (moF_small hu))
 clear hV hbV hb ht hu
 change Calls Tryz.prog 47 #[.agg #[.bool t.c.t.s, .slice t.c.t.a t.c.t.n t.c.t.c, .bool t.c.l.s, .slice t.c.l.a t.c.l.n t.c.l.c, .int .u16 t.m.x, .int .u16 t.m.y, .int .u16 t.m.z, .int .u16 t.m.t], .agg #[.bool u.c.t.s, .slice u.c.t.a u.c.t.n u.c.t.c, .bool u.c.l.s, .slice u.c.l.a u.c.l.n u.c.l.c, .int .u16 u.m.x, .int .u16 u.m.y, .int .u16 u.m.z, .int .u16 u.m.t], .pointer (some ⟨bo, 0, none⟩)] w _
 go_enter Tryz.func47, Tryz.ntmps47
 go_upto_region 1 with (fail)
 rw [show (w.alloc (.cells #[.bool t.c.t.s, .slice t.c.t.a t.c.t.n t.c.t.c, .bool t.c.l.s, .slice t.c.l.a t.c.l.n t.c.l.c, .int .u16 t.m.x, .int .u16 t.m.y, .int .u16 t.m.z, .int .u16 t.m.t] 40)).alloc (.cells #[.bool u.c.t.s, .slice u.c.t.a u.c.t.n u.c.t.c, .bool u.c.l.s, .slice u.c.l.a u.c.l.n u.c.l.c, .int .u16 u.m.x, .int .u16 u.m.y, .int .u16 u.m.z, .int .u16 u.m.t] 40) = V from HV.out.symm]
 have c10 := B1.out.cell (i := 0) rfl
 have c11 := B1.out.cell (i := 1) rfl
 have c12 := B1.out.cell (i := 2) rfl
 have c13 := B1.out.cell (i := 3) rfl
 have c14 := B1.out.cell (i := 4) rfl
 have c15 := B1.out.cell (i := 5) rfl
 have c16 := B1.out.cell (i := 6) rfl
 have c17 := B1.out.cell (i := 7) rfl
 have c20 := B2.out.cell (i := 0) rfl
 have c21 := B2.out.cell (i := 1) rfl
 have c22 := B2.out.cell (i := 2) rfl
 have c23 := B2.out.cell (i := 3) rfl
 have c24 := B2.out.cell (i := 4) rfl
 have c25 := B2.out.cell (i := 5) rfl
 have c26 := B2.out.cell (i := 6) rfl
 have c27 := B2.out.cell (i := 7) rfl
 have co := BO.out.cell (i := 0) rfl
 go_wp2_with fail
 with_reducible refine CM.out.mono ?_
 rintro e w1 ⟨rfl, hb⟩
 have KG := Lib.hid (KG.out.trans (hb.mono KG.out.size))
 clear hb CM c10 c11 c12 c13 c14 c15 c16 c17 c20 c21 c22 c23 c24 c25 c26 c27 co
 go_wp2_with fail
 go_ret
 refine ⟨?_, KG.out⟩
 rw [HK.out]
 rfl
set_option maxRecDepth 100000 in
set_option maxHeartbeats 16000000 in
theorem lead_k (o : Int) (x : PV) (P : List Tm) (w : World) (hx : AP w x P) (hp : ∀ t ∈ P, LQ t.2 900000) (hn : x.n ≤ 1000000) (hne : P ≠ []) :
  Calls Tryz.prog 16 #[.int .u8 o, x.v] w fun e w' => ∃ (y : FV) (t : Tm), e = .returned (.tuple #[TV.v ⟨y, t.1⟩, .bool true]) ∧ DF w' w.heap.size y t.2 ∧ Lead (keyO o) P t ∧ Below w.heap.size w w' := by
 obtain ⟨V0, hV⟩ : ∃ V, V = (w.alloc (.cells #[.int .u8 o] 30)).alloc (.cells #[.bool false, .slice none 0 0, .bool false, .slice none 0 0, .int .u16 0, .int .u16 0, .int .u16 0, .int .u16 0] 40) := ⟨_, rfl⟩
 have hbV : Below w.heap.size w V0 := by rw [hV]; exact ((Below.refl _ _).alloc (Nat.le_refl _) _).alloc (by go_size) _
 have BO := Lib.hid (show Bxs V0 w.heap.size 30 [.int .u8 o] by rw [hV]; exact (Bxs.new w 30 [.int .u8 o]).alloc _)
 have B4 := Lib.hid (show Bxs V0 (w.heap.size + 1) 40 [.bool false, .slice none 0 0, .bool false, .slice none 0 0, .int .u16 0, .int .u16 0, .int .u16 0, .int .u16 0] by
  have h := Bxs.new (w.alloc (.cells #[.int .u8 o] 30)) 40 [.bool false, .slice none 0 0, .bool false, .slice none 0 0, .int .u16 0, .int .u16 0, .int .u16 0, .int .u16 0]
  rw [World.size_alloc] at h
  rw [hV]; exact h)
 have OF := Lib.hid (of_at hx hbV hp (by omega))
 have HP := Lib.hid hp; have HN := Lib.hid hn; have HNE := Lib.hid hne
 have KG := Lib.hid hbV
 have HV := Lib.hid hV
 obtain ⟨A4, hA4⟩ : ∃ A, A = w.heap.size + 1 := ⟨_, rfl⟩
 have HA4 := Lib.hid (show w.heap.size ≤ A4 by omega)
 rw [← hA4] at B4
 have HA5 := Lib.hid hA4
 obtain ⟨xa, xn, xc⟩ := x
 change Calls Tryz.prog 16 #[.int .u8 o, .slice xa xn xc] w _
 clear hV hbV hx hp hn hne hA4
 go_enter Tryz.func16, Tryz.ntmps16
 go_upto_region 1 with (fail)
 rw [show (w.alloc (.cells #[.int .u8 o] 30)).alloc (.cells #[.bool false, .slice none 0 0, .bool false, .slice none 0 0, .int .u16 0, .int .u16 0, .int .u16 0, .int .u16 0] 40) = V0 from HV.out.symm, show w.heap.size + 1 = A4 from HA5.out.symm]
 go_wp2_with fail
 with_reducible refine OF.out.mono ?_
 rintro e w1 ⟨⟨pa, pn, pc⟩, he, hkp, hpn, hb⟩
 obtain rfl : e = .returned (.slice pa pn pc) := he
 have BO := Lib.hid (BO.out.below hb BO.out.lt)
 have B4 := Lib.hid (B4.out.below hb B4.out.lt)
 have KG := Lib.hid (KG.out.trans (hb.mono KG.out.size))
 have HX := Lib.hid hkp
 obtain ⟨L, g1, g2, g3, g4⟩ := hkp.ex
 have g2 : L.length = pn := g2
 have hlne : L ≠ [] := fun h => HNE.out (by rw [← g4, h]; rfl)
 have hne2 : L.map Prod.fst ≠ [] := fun h => hlne (List.map_eq_nil_iff.1 h)
 have h0 : ¬ ((pn : Int) = 0) := by have := List.length_pos_iff.2 hlne; omega
 have T1 := Lib.hid g4; have F1 := Lib.hid g3
 have hcf : ∀ (args : Array Value) (w : World), (callFunc 47 args).run Tryz.prog w = .ok (.enter 47 args) w := fun _ _ => by kernel_rfl
 have MX := Lib.hid (max_any 47 #[.pointer (some ⟨w.heap.size, 0, none⟩)] ⟨pa, pn, pc⟩ (L.map Prod.fst) (keyO o) w1 (g1.below KG.out) (by rw [List.length_map]; exact g2) (Nat.le_trans hpn HN.out) hne2
  (fun t ht => by
   obtain ⟨e, he, rfl⟩ := List.mem_map.1 ht
   exact HX.out.small (tm e) (by rw [← g4]; exact List.mem_map_of_mem he))
  hcf (fun t u ht hu w2 hb2 => lead1_any o t u w2 w.heap.size (BO.out.below hb2 BO.out.lt) ht hu))
 clear hkp hpn hb g1 g2 g3 g4 OF hlne hne2 hcf
 go_wp2_with fail
 with_reducible refine MX.out.mono ?_
 rintro e w2 ⟨t, htm, htx, rfl, hb⟩
 have B4 := Lib.hid (B4.out.below hb B4.out.lt)
 have KG := Lib.hid (KG.out.trans (hb.mono KG.out.size))
 obtain ⟨⟨t', q⟩, he, e1⟩ := List.mem_map.1 htm
 obtain rfl : t' = t := e1
 have hmem : (t'.m, q) ∈ P := by rw [← T1.out]; exact List.mem_map_of_mem he
 have HLD := Lib.hid (show Lead (keyO o) P (t'.m, q) from ⟨hmem, fun s hs => by
  rw [← T1.out] at hs
  obtain ⟨e, he, rfl⟩ := List.mem_map.1 hs
  exact htx e.1 (List.mem_map_of_mem he)⟩)
 have LQq := Lib.hid (HP.out _ hmem)
 have NT0 := Lib.hid (F1.out _ he)
 obtain ⟨t, ht⟩ : ∃ t, t = t' := ⟨_, rfl⟩
 rw [← ht] at HLD NT0 ⊢
 clear htm htx hb he hmem MX ht h0
 have c40 := B4.out.cell (i := 0) rfl
 have c41 := B4.out.cell (i := 1) rfl
 have c42 := B4.out.cell (i := 2) rfl
 have c43 := B4.out.cell (i := 3) rfl
 have c44 := B4.out.cell (i := 4) rfl
 have c45 := B4.out.cell (i := 5) rfl
 have c46 := B4.out.cell (i := 6) rfl
 have c47 := B4.out.cell (i := 7) rfl
 have c4f := B4.out.fz
 have c4l := B4.out.lt
 go_upto_region 5 with (fail)
 clear c40 c41 c42 c43 c44 c45 c46 c47 c4f c4l
 obtain ⟨V, hV⟩ : ∃ V, V = put8 w2 A4 (.bool t.c.t.s) (.slice t.c.t.a t.c.t.n t.c.t.c) (.bool t.c.l.s) (.slice t.c.l.a t.c.l.n t.c.l.c) (.int .u16 t.m.x) (.int .u16 t.m.y) (.int .u16 t.m.z) (.int .u16 t.m.t) := ⟨_, rfl⟩
 have B4 := Lib.hid (show Bxs V A4 40 [.bool t.c.t.s, .slice t.c.t.a t.c.t.n t.c.t.c, .bool t.c.l.s, .slice t.c.l.a t.c.l.n t.c.l.c, .int .u16 t.m.x, .int .u16 t.m.y, .int .u16 t.m.z, .int .u16 t.m.t] by rw [hV]; exact put8_bxs B4.out ..)
 have KG := Lib.hid (show Below w.heap.size w V by rw [hV]; exact put8_below KG.out HA4.out ..)
 unfold put8 at hV
 rw [← hV]
 have NT := Lib.hid (show KF V t.c q from NT0.out.below KG.out)
 have HSZ := Lib.hid (show w.heap.size ≤ V.heap.size from KG.out.size)
 clear hV NT0
 obtain ⟨q101, hq101⟩ : ∃ z : Rat, z = ((1 : Int) : Rat) := ⟨_, rfl⟩
 have Hq101 := Lib.hid hq101
 have LQq101 := Lib.hid (show LQ q101 3 by rw [hq101]; exact LQ.int (by decide) (by decide))
 clear hq101
 obtain ⟨q102, hq102⟩ : ∃ z : Rat, z = q * q101 := ⟨_, rfl⟩
 have Hq102 := Lib.hid hq102
 have LQq102 := Lib.hid (show LQ q102 1800000 by rw [hq102]; exact LQ.mul (LQq.out.up (by decide : _ ≤ 900000)) (LQq101.out.up (by decide : _ ≤ 900000)) (by decide))
 clear hq102
 go_upto_region 5 with (fail)
 refine Go.FreshS.wp_region_fresh 7 [] (Go.FreshS.spOf [(2, Go.FreshS.Sp.made (fun x : FV => x.v) (fun x w' => DF w' V.heap.size x q101) FV.blk), (3, Go.FreshS.Sp.made (fun x : FV => x.v) (fun x w' => DF w' V.heap.size x q102) FV.blk)])
  (fun w' => Below V.heap.size V w') (by kernel_rfl) (by kernel_rfl) (by kernel_rfl)
  (Go.FreshS.spOf_cons (Go.FreshS.Sp.made_keeps _ (fun _ _ _ h _ hk => h.kept hk) (Go.FreshS.notTaken (by kernel_rfl))) (Go.FreshS.spOf_cons (Go.FreshS.Sp.made_keeps _ (fun _ _ _ h _ hk => h.kept hk) (Go.FreshS.notTaken (by kernel_rfl))) (Go.FreshS.spOf_nil))) (fun _ _ h hb => h.trans (hb.mono h.size)) ((Below.refl _ _).drew) ?_
 simp only [List.append_eq, List.cons_append, List.nil_append, List.take_succ_cons, List.take_zero, List.drop_succ_cons, List.drop_zero]
 refine Go.FreshS.wpF_reads rfl rfl rfl ?_ (fun w' hw' => ?_) ?_
 rotate_left
 ·have hb' := hw'.world
  skip
  clear hw'
  go_simp
  try rfl
 conv => arg 10; simp only [Act.put, List.setIfInBounds_toArray, List.set_cons_succ, List.set_cons_zero]
 refine Go.FreshS.wpF_reads rfl rfl rfl ?_ (fun w' hw' => ?_) ?_
 rotate_left
 ·have hb' := hw'.world
  have hs0 := (B4.out.below hb' B4.out.lt).cell (i := 0) rfl
  have hs1 := (B4.out.below hb' B4.out.lt).cell (i := 1) rfl
  have hs2 := (B4.out.below hb' B4.out.lt).cell (i := 2) rfl
  have hs3 := (B4.out.below hb' B4.out.lt).cell (i := 3) rfl
  have hs4 := (B4.out.below hb' B4.out.lt).cell (i := 4) rfl
  have hs5 := (B4.out.below hb' B4.out.lt).cell (i := 5) rfl
  have hs6 := (B4.out.below hb' B4.out.lt).cell (i := 6) rfl
  have hs7 := (B4.out.below hb' B4.out.lt).cell (i := 7) rfl
  have hsf := (B4.out.below hb' B4.out.lt).fz
  have hsl := (B4.out.below hb' B4.out.lt).lt
  clear hw'
  go_simp
  try rfl
 conv => arg 10; simp only [Act.put, List.setIfInBounds_toArray, List.set_cons_succ, List.set_cons_zero]
 refine Go.FreshS.wpF_spec rfl rfl rfl (fun w' hw' => ?_) ?_
 ·have hb' := hw'.world
  refine Go.FreshS.gives_of (Go.FreshS.PM (fun x : FV => x.v) (fun x w' => DF w' V.heap.size x q101) FV.blk w'.heap.size) ?_ (fun _ _ h => h.post (fun _ _ => FV.inj))
  go_simp
  have CT := qof 1 w' (by decide) (by decide)
  rw [show ((1 : Int) : Rat) = q101 from Hq101.out.symm] at CT
  refine CT.mono ?_
  rintro e w'' ⟨za, rfl, ho, hb⟩
  exact ⟨_, rfl, ⟨za, rfl, ho.mono hb'.size, ho.blks⟩, hb⟩
 rintro _ ⟨y2, rfl⟩
 conv => arg 10; simp only [Act.put, List.setIfInBounds_toArray, List.set_cons_succ, List.set_cons_zero]
 refine Go.FreshS.wpF_spec rfl rfl rfl (fun w' hw' => ?_) ?_
 ·have hb' := hw'.world
  refine Go.FreshS.gives_of (Go.FreshS.PM (fun x : FV => x.v) (fun x w' => DF w' V.heap.size x q102) FV.blk w'.heap.size) ?_ (fun _ _ h => h.post (fun _ _ => FV.inj))
  go_simp
  have f2 := Go.FreshS.made_of (val := (fun x : FV => x.v)) (Φ := fun x w' => DF w' V.heap.size x q101) (fun _ _ => FV.inj) (hw'.fact 2 (by kernel_rfl))
  have CT := qmul ((NT.out.below hb')).any (((NT.out.below hb')).len LQq.out (by decide : _ ≤ 900000)) (f2).k.any (((f2).k).len LQq101.out (by decide : _ ≤ 900000))
  rw [show q * q101 = q102 from Hq102.out.symm] at CT
  refine CT.mono ?_
  rintro e w'' ⟨za, rfl, ho, hb⟩
  exact ⟨_, rfl, ⟨za, rfl, ho.mono hb'.size, ho.blks⟩, hb⟩
 rintro _ ⟨y3, rfl⟩
 conv => arg 10; simp only [Act.put, List.setIfInBounds_toArray, List.set_cons_succ, List.set_cons_zero]
 refine Go.FreshS.wpF_reads rfl rfl rfl ?_ (fun w' hw' => ?_) ?_
 rotate_left
 ·have hb' := hw'.world
  skip
  clear hw'
  go_simp
  try rfl
 conv => arg 10; simp only [Act.put, List.setIfInBounds_toArray, List.set_cons_succ, List.set_cons_zero]
 refine Go.FreshS.wpF_reads rfl rfl rfl ?_ (fun w' hw' => ?_) ?_
 rotate_left
 ·have hb' := hw'.world
  have hs0 := (B4.out.below hb' B4.out.lt).cell (i := 0) rfl
  have hs1 := (B4.out.below hb' B4.out.lt).cell (i := 1) rfl
  have hs2 := (B4.out.below hb' B4.out.lt).cell (i := 2) rfl
  have hs3 := (B4.out.below hb' B4.out.lt).cell (i := 3) rfl
  have hs4 := (B4.out.below hb' B4.out.lt).cell (i := 4) rfl
  have hs5 := (B4.out.below hb' B4.out.lt).cell (i := 5) rfl
  have hs6 := (B4.out.below hb' B4.out.lt).cell (i := 6) rfl
  have hs7 := (B4.out.below hb' B4.out.lt).cell (i := 7) rfl
  have hsf := (B4.out.below hb' B4.out.lt).fz
  have hsl := (B4.out.below hb' B4.out.lt).lt
  clear hw'
  go_simp
  try rfl
 conv => arg 10; simp only [Act.put, List.setIfInBounds_toArray, List.set_cons_succ, List.set_cons_zero]
 refine Go.FreshS.wpF_reads rfl rfl rfl ?_ (fun w' hw' => ?_) ?_
 rotate_left
 ·have hb' := hw'.world
  skip
  clear hw'
  go_simp
  try rfl
 conv => arg 10; simp only [Act.put, List.setIfInBounds_toArray, List.set_cons_succ, List.set_cons_zero]
 refine Go.FreshS.wpF_nil (fun w103 hb hF => ?_)
 have N104 := Lib.hid (show DF w103 V.heap.size y3 q102 from (Go.FreshS.made_of (val := (fun x : FV => x.v)) (Φ := fun x w' => DF w' V.heap.size x q102) (fun _ _ => FV.inj) (hF.all 3)))
 clear hF
 have NT := Lib.hid (NT.out.below hb)
 have B4 := Lib.hid (B4.out.below hb B4.out.lt)
 have KG := Lib.hid (KG.out.trans (hb.mono KG.out.size))
 clear hb
 have HQ := Lib.hid (show q102 = q by rw [Hq102.out, Hq101.out]; grind)
 have HD := Lib.hid (show DF (put8 w103 A4 (.bool y3.t.s) (.slice y3.t.a y3.t.n y3.t.c) (.bool y3.l.s) (.slice y3.l.a y3.l.n y3.l.c) (.int .u16 t.m.x) (.int .u16 t.m.y) (.int .u16 t.m.z) (.int .u16 t.m.t)) w.heap.size y3 q from by rw [← HQ.out]; exact put8_df (N104.out.mono HSZ.out) B4.out (by decide) ..)
 have HB := Lib.hid (show Below w.heap.size w (put8 w103 A4 (.bool y3.t.s) (.slice y3.t.a y3.t.n y3.t.c) (.bool y3.l.s) (.slice y3.l.a y3.l.n y3.l.c) (.int .u16 t.m.x) (.int .u16 t.m.y) (.int .u16 t.m.z) (.int .u16 t.m.t)) from put8_below KG.out HA4.out ..)
 have c40 := B4.out.cell (i := 0) rfl
 have c41 := B4.out.cell (i := 1) rfl
 have c42 := B4.out.cell (i := 2) rfl
 have c43 := B4.out.cell (i := 3) rfl
 have c44 := B4.out.cell (i := 4) rfl
 have c45 := B4.out.cell (i := 5) rfl
 have c46 := B4.out.cell (i := 6) rfl
 have c47 := B4.out.cell (i := 7) rfl
 have c4f := B4.out.fz
 have c4l := B4.out.lt
 go_wp2_with fail
 exact bodyPost_ret (results_ct rfl _ _ _ _ _ _ _ rfl (put8_bxs B4.out ..) Tryz.underlying40 rfl (by kernel_rfl)) rfl ⟨y3, (t.m, q), rfl, HD.out, HLD.out, HB.out⟩
set_option maxRecDepth 100000 in
set_option maxHeartbeats 4000000 in
theorem lead_nil (o : Int) (x : PV) (w : World) (hx : AP w x []) (hn : x.n ≤ 1000000) :
  Calls Tryz.prog 16 #[.int .u8 o, x.v] w fun e w' => e = .returned (.tuple #[.agg #[.bool false, .slice none 0 0, .bool false, .slice none 0 0, .int .u16 0, .int .u16 0, .int .u16 0, .int .u16 0], .bool false]) ∧ Below w.heap.size w w' := by
 obtain ⟨V0, hV⟩ : ∃ V, V = (w.alloc (.cells #[.int .u8 o] 30)).alloc (.cells #[.bool false, .slice none 0 0, .bool false, .slice none 0 0, .int .u16 0, .int .u16 0, .int .u16 0, .int .u16 0] 40) := ⟨_, rfl⟩
 have hbV : Below w.heap.size w V0 := by rw [hV]; exact ((Below.refl _ _).alloc (Nat.le_refl _) _).alloc (by go_size) _
 have B4 := Lib.hid (show Bxs V0 (w.heap.size + 1) 40 [.bool false, .slice none 0 0, .bool false, .slice none 0 0, .int .u16 0, .int .u16 0, .int .u16 0, .int .u16 0] by
  have h := Bxs.new (w.alloc (.cells #[.int .u8 o] 30)) 40 [.bool false, .slice none 0 0, .bool false, .slice none 0 0, .int .u16 0, .int .u16 0, .int .u16 0, .int .u16 0]
  rw [World.size_alloc] at h
  rw [hV]; exact h)
 have OF := Lib.hid (of_at hx hbV (fun t ht => by cases ht) (by omega))
 have KG := Lib.hid hbV
 have HV := Lib.hid hV
 obtain ⟨A4, hA4⟩ : ∃ A, A = w.heap.size + 1 := ⟨_, rfl⟩
 have HA4 := Lib.hid (show w.heap.size ≤ A4 by omega)
 rw [← hA4] at B4
 have HA5 := Lib.hid hA4
 obtain ⟨xa, xn, xc⟩ := x
 change Calls Tryz.prog 16 #[.int .u8 o, .slice xa xn xc] w _
 clear hV hbV hx hn hA4
 go_enter Tryz.func16, Tryz.ntmps16
 go_upto_region 1 with (fail)
 rw [show (w.alloc (.cells #[.int .u8 o] 30)).alloc (.cells #[.bool false, .slice none 0 0, .bool false, .slice none 0 0, .int .u16 0, .int .u16 0, .int .u16 0, .int .u16 0] 40) = V0 from HV.out.symm, show w.heap.size + 1 = A4 from HA5.out.symm]
 go_wp2_with fail
 with_reducible refine OF.out.mono ?_
 rintro e w1 ⟨⟨pa, pn, pc⟩, he, hkp, hpn, hb⟩
 obtain rfl : e = .returned (.slice pa pn pc) := he
 have B4 := Lib.hid (B4.out.below hb B4.out.lt)
 have KG := Lib.hid (KG.out.trans (hb.mono KG.out.size))
 have h0 := hkp.len
 obtain rfl : pn = 0 := h0
 clear hkp hpn hb OF
 have c40 := B4.out.cell (i := 0) rfl
 have c41 := B4.out.cell (i := 1) rfl
 have c42 := B4.out.cell (i := 2) rfl
 have c43 := B4.out.cell (i := 3) rfl
 have c44 := B4.out.cell (i := 4) rfl
 have c45 := B4.out.cell (i := 5) rfl
 have c46 := B4.out.cell (i := 6) rfl
 have c47 := B4.out.cell (i := 7) rfl
 have c4f := B4.out.fz
 have c4l := B4.out.lt
 go_wp2_with fail
 exact bodyPost_ret (results_ct rfl _ _ _ _ _ _ _ rfl (put8_bxs B4.out ..) Tryz.underlying40 rfl (by kernel_rfl)) rfl ⟨rfl, put8_below KG.out HA4.out ..⟩
def put4 (w : World) (b : Nat) (v0 v1 v2 v3 : Value) : World := (((w.setCell ⟨b, 0, none⟩ v0).setCell ⟨b, 1, none⟩ v1).setCell ⟨b, 2, none⟩ v2).setCell ⟨b, 3, none⟩ v3
theorem put4_bxs {w : World} {b : Nat} {t : TypeId} {u0 u1 u2 u3 : Value} (h : Bxs w b t [u0, u1, u2, u3]) (v0 v1 v2 v3 : Value) : Bxs (put4 w b v0 v1 v2 v3) b t [v0, v1, v2, v3] := (((h.put 0 v0).put 1 v1).put 2 v2).put 3 v3
theorem put4_other {w : World} {b g : Nat} {t : TypeId} {l : List Value} (h : Bxs w g t l) (hn : g ≠ b) (v0 v1 v2 v3 : Value) : Bxs (put4 w b v0 v1 v2 v3) g t l := (((h.other (a := ⟨b, 0, none⟩) hn v0).other (a := ⟨b, 1, none⟩) hn v1).other (a := ⟨b, 2, none⟩) hn v2).other (a := ⟨b, 3, none⟩) hn v3
theorem put4_df {w : World} {lo b : Nat} {x : FV} {q : Rat} {t : TypeId} {u0 u1 u2 u3 : Value} (h : DF w lo x q) (hb : Bxs w b t [u0, u1, u2, u3]) (ht : 122 ≠ t) (v0 v1 v2 v3 : Value) : DF (put4 w b v0 v1 v2 v3) lo x q :=
 (((h.setBxs hb ht 0 v0).setBxs (hb.put 0 v0) ht 1 v1).setBxs ((hb.put 0 v0).put 1 v1) ht 2 v2).setBxs (((hb.put 0 v0).put 1 v1).put 2 v2) ht 3 v3
theorem put4_kf {w : World} {b : Nat} {x : FV} {q : Rat} {t : TypeId} {u0 u1 u2 u3 : Value} (h : KF w x q) (hb : Bxs w b t [u0, u1, u2, u3]) (n0 : notInt u0 = true) (n1 : notInt u1 = true) (n2 : notInt u2 = true) (n3 : notInt u3 = true) {v0 v1 v2 v3 : Value} (m0 : notInt v0 = true) (m1 : notInt v1 = true) (m2 : notInt v2 = true) : KF (put4 w b v0 v1 v2 v3) x q :=
 (((h.setBxs hb (by simp [n0, n1, n2, n3]) 0 v0).setBxs (hb.put 0 v0) (by simp [m0, n1, n2, n3]) 1 v1).setBxs ((hb.put 0 v0).put 1 v1) (by simp [m0, m1, n2, n3]) 2 v2).setBxs (((hb.put 0 v0).put 1 v1).put 2 v2) (by simp [m0, m1, m2, n3]) 3 v3
theorem put4_below {B : Nat} {u w : World} {b : Nat} (h : Below B u w) (hb : B ≤ b) (v0 v1 v2 v3 : Value) : Below B u (put4 w b v0 v1 v2 v3) := (((h.setCell hb v0).setCell hb v1).setCell hb v2).setCell hb v3
theorem and1_u16 (e : Nat) (h : e ≤ 65535) : bits BinOp.and IntKind.u16 (e : Int) 1 = ((e % 2 : Nat) : Int) := by
 have h2 := bits_mask .u16 16 (by decide) wraps_u16 1 (by decide) (e : Int) (by omega) (by omega)
 have e1 : ((2 : Int) ^ 1 - 1) = 1 := by decide
 rw [e1] at h2
 rw [h2]
 omega
theorem rat_pow_lq {q : Rat} {k : Nat} (h : LQ q k) : ∀ m : Nat, LQ (q ^ m) (m * k + 1)
 | 0 => by
  have h1 : LQ ((1 : Int) : Rat) 1 := by constructor <;> decide +kernel
  rw [Rat.pow_zero, Nat.zero_mul, Nat.zero_add]
  exact h1
 | m + 1 => by
  rw [Rat.pow_succ]
  exact ((rat_pow_lq h m).ls.mul h.ls).lq (by rw [Nat.add_mul]; omega) (by rw [Nat.add_mul]; omega)
set_option maxRecDepth 100000 in
set_option maxHeartbeats 16000000 in
theorem power_any (x : FV) (q : Rat) (n k : Nat) (w : World) (hx : KF w x q) (hq : LQ q k) (hn : n ≤ 65535) (hk : n * k + 1 ≤ 900000) :
  Calls Tryz.prog 62 #[x.v, .int .u16 (n : Int)] w (RF w (q ^ n)) := by
 obtain ⟨V0, hV⟩ : ∃ V, V = (w.alloc (.cells #[.bool x.t.s, .slice x.t.a x.t.n x.t.c, .bool x.l.s, .slice x.l.a x.l.n x.l.c] 35)).alloc (.cells #[.bool false, .slice none 0 0, .bool false, .slice none 0 0] 35) := ⟨_, rfl⟩
 have hbV : Below w.heap.size w V0 := by rw [hV]; exact ((Below.refl _ _).alloc (Nat.le_refl _) _).alloc (by go_size) _
 have B2 := Lib.hid (show Bxs V0 w.heap.size 35 [.bool x.t.s, .slice x.t.a x.t.n x.t.c, .bool x.l.s, .slice x.l.a x.l.n x.l.c] by rw [hV]; exact (Bxs.new w 35 [.bool x.t.s, .slice x.t.a x.t.n x.t.c, .bool x.l.s, .slice x.l.a x.l.n x.l.c]).alloc _)
 have B4 := Lib.hid (show Bxs V0 (w.heap.size + 1) 35 [.bool false, .slice none 0 0, .bool false, .slice none 0 0] by
  have h := Bxs.new (w.alloc (.cells #[.bool x.t.s, .slice x.t.a x.t.n x.t.c, .bool x.l.s, .slice x.l.a x.l.n x.l.c] 35)) 35 [.bool false, .slice none 0 0, .bool false, .slice none 0 0]
  rw [World.size_alloc] at h
  rw [hV]; exact h)
 have OF := Lib.hid (qof 1 V0 (by decide) (by decide))
 have NX := Lib.hid hx; have HQ := Lib.hid hq; have HN := Lib.hid hn; have HK := Lib.hid hk
 have HL := Lib.hid (show ∀ m, m ≤ n → LQ (q ^ m) 900000 from fun m hm => (rat_pow_lq hq m).up (by have := Nat.mul_le_mul_right k hm; omega))
 have KG := Lib.hid hbV
 have HV := Lib.hid hV
 obtain ⟨A2, hA2⟩ : ∃ A, A = w.heap.size := ⟨_, rfl⟩
 obtain ⟨A4, hA4⟩ : ∃ A, A = w.heap.size + 1 := ⟨_, rfl⟩
 have HA2 := Lib.hid (show w.heap.size ≤ A2 by omega)
 have HA4 := Lib.hid (show w.heap.size ≤ A4 by omega)
 have HN24 := Lib.hid (show A2 ≠ A4 by omega)
 rw [← hA4] at B4
 rw [← hA2] at B2
 have HE4 := Lib.hid hA4; have HE2 := Lib.hid hA2
 change Calls Tryz.prog 62 #[.agg #[.bool x.t.s, .slice x.t.a x.t.n x.t.c, .bool x.l.s, .slice x.l.a x.l.n x.l.c], .int .u16 (n : Int)] w _
 clear hV hbV hx hq hn hk hA4 hA2
 go_enter Tryz.func62, Tryz.ntmps62
 go_upto_region 1 with (fail)
 rw [show (w.alloc (.cells #[.bool x.t.s, .slice x.t.a x.t.n x.t.c, .bool x.l.s, .slice x.l.a x.l.n x.l.c] 35)).alloc (.cells #[.bool false, .slice none 0 0, .bool false, .slice none 0 0] 35) = V0 from HV.out.symm, show w.heap.size + 1 = A4 from HE4.out.symm, show w.heap.size = A2 from HE2.out.symm]
 go_wp2_with fail
 with_reducible refine OF.out.mono ?_
 rintro e w1 ⟨y, rfl, hy, hb⟩
 have HY0 := Lib.hid hy
 have B2 := Lib.hid (B2.out.below hb B2.out.lt)
 have B4 := Lib.hid (B4.out.below hb B4.out.lt)
 have KG := Lib.hid (KG.out.trans (hb.mono KG.out.size))
 have HSZ := Lib.hid (show w.heap.size ≤ V0.heap.size by rw [HV.out]; simp; omega)
 clear hy hb OF
 go_upto_region 2 with (fail)
 obtain ⟨V, hV⟩ : ∃ V, V = w1.alloc (.cells #[.bool y.t.s, .slice y.t.a y.t.n y.t.c, .bool y.l.s, .slice y.l.a y.l.n y.l.c] 35) := ⟨_, rfl⟩
 have hbV : Below w1.heap.size w1 V := by rw [hV]; exact (Below.refl _ _).alloc (Nat.le_refl _) _
 have B5 := Lib.hid (show Bxs V w1.heap.size 35 [.bool y.t.s, .slice y.t.a y.t.n y.t.c, .bool y.l.s, .slice y.l.a y.l.n y.l.c] by rw [hV]; exact Bxs.new w1 35 [.bool y.t.s, .slice y.t.a y.t.n y.t.c, .bool y.l.s, .slice y.l.a y.l.n y.l.c])
 obtain ⟨A5, hA5⟩ : ∃ A, A = w1.heap.size := ⟨_, rfl⟩
 have HN25 := Lib.hid (show A2 ≠ A5 by have := B2.out.lt; omega)
 have HN45 := Lib.hid (show A4 ≠ A5 by have := B4.out.lt; omega)
 have HA5 := Lib.hid (show w.heap.size ≤ A5 by have := KG.out.size; omega)
 have B2 := Lib.hid (B2.out.below hbV B2.out.lt)
 have B4 := Lib.hid (B4.out.below hbV B4.out.lt)
 have KG := Lib.hid (KG.out.trans (hbV.mono KG.out.size))
 have HY := Lib.hid (show DF V w.heap.size y (q ^ 0) from by rw [Rat.pow_zero]; exact (HY0.out.below hbV).mono HSZ.out)
 have NX := Lib.hid (NX.out.below KG.out)
 rw [← hV, ← hA5]
 rw [← hA5] at B5
 clear hV hbV hA5 HY0
 go_loopw [1] (fun s wr => ∃ (j m e : Nat) (xa xr : FV), s = .int .u16 (e : Int) ∧ j + m * e = n ∧ (e = 0 ∨ m ≤ n) ∧ j ≤ n ∧ e ≤ n ∧ KF wr xa (q ^ m) ∧ DF wr w.heap.size xr (q ^ j) ∧ Bxs wr A2 35 [.bool xa.t.s, .slice xa.t.a xa.t.n xa.t.c, .bool xa.l.s, .slice xa.l.a xa.l.n xa.l.c] ∧ Bxs wr A5 35 [.bool xr.t.s, .slice xr.t.a xr.t.n xr.t.c, .bool xr.l.s, .slice xr.l.a xr.l.n xr.l.c] ∧ Bxs wr A4 35 [.bool false, .slice none 0 0, .bool false, .slice none 0 0] ∧ Below w.heap.size w wr) (fun s _ => (intOf s).toNat)
 case atStart =>
  refine ⟨0, 1, n, x, y, rfl, by omega, by omega, by omega, Nat.le_refl _, ?_, HY.out, B2.out, B5.out, B4.out, KG.out⟩
  rw [Rat.pow_succ, Rat.pow_zero, Rat.one_mul]; exact NX.out
 case round =>
  obtain ⟨j, m, e, xa, xr, rfl, hje, hm0, hj, hen, ha, hr, hB2, hB5, hB4, hb0⟩ := hrel
  have HJE := Lib.hid hje; have HM0 := Lib.hid hm0; have HEN := Lib.hid hen; have HJ := Lib.hid hj; have NA := Lib.hid ha; have NR := Lib.hid hr
  have B2 := Lib.hid hB2; have B5 := Lib.hid hB5; have B4 := Lib.hid hB4; have KG := Lib.hid hb0
  clear hje hm0 hen hj ha hr hB2 hB5 hB4 hb0
  by_cases he0 : 0 < e
  ·have h1 : (0 : Int) < (e : Int) := by omega
   have HM := Lib.hid (show m ≤ n from HM0.out.elim (fun h => absurd h (by omega)) id)
   have HE6 := Lib.hid (show e ≤ 65535 from Nat.le_trans HEN.out HN.out)
   have eb := and1_u16 e HE6.out
   by_cases hodd : e % 2 = 1
   ·have g0 : ((e : Int) % 2 == 1) = true := by simp; omega
    have HJM := Lib.hid (show j + m ≤ n by have h := HJE.out; have h2 := Nat.le_mul_of_pos_right m he0; omega)
    have MU := Lib.hid (qmul NR.out.k.any (NR.out.k.len (HL.out _ HJ.out) (Nat.le_refl _)) NA.out.any (NA.out.len (HL.out _ HM.out) (Nat.le_refl _)))
    have c50 := B5.out.cell (i := 0) rfl
    have c51 := B5.out.cell (i := 1) rfl
    have c52 := B5.out.cell (i := 2) rfl
    have c53 := B5.out.cell (i := 3) rfl
    have c5f := B5.out.fz
    have c5l := B5.out.lt
    have c20 := B2.out.cell (i := 0) rfl
    have c21 := B2.out.cell (i := 1) rfl
    have c22 := B2.out.cell (i := 2) rfl
    have c23 := B2.out.cell (i := 3) rfl
    have c2f := B2.out.fz
    have c2l := B2.out.lt
    go_wp2_with fail
    with_reducible refine MU.out.mono ?_
    rintro _ w2 ⟨y2, rfl, hy, hb⟩
    have B2 := Lib.hid (B2.out.below hb B2.out.lt)
    have B4 := Lib.hid (B4.out.below hb B4.out.lt)
    have B5 := Lib.hid (B5.out.below hb B5.out.lt)
    have NA := Lib.hid (NA.out.below hb)
    have NR := Lib.hid (show DF w2 w.heap.size y2 (q ^ (j + m)) from by rw [rat_pow_add]; exact hy.mono KG.out.size)
    have KG := Lib.hid (KG.out.trans (hb.mono KG.out.size))
    clear hy hb MU
    clear c50 c51 c52 c53 c5f c5l
    clear c20 c21 c22 c23 c2f c2l
    have c50 := B5.out.cell (i := 0) rfl
    have c51 := B5.out.cell (i := 1) rfl
    have c52 := B5.out.cell (i := 2) rfl
    have c53 := B5.out.cell (i := 3) rfl
    have c5f := B5.out.fz
    have c5l := B5.out.lt
    go_upto_region 6 with (fail)
    clear c50 c51 c52 c53 c5f c5l
    obtain ⟨U, hU⟩ : ∃ U, U = put4 w2 A5 (.bool y2.t.s) (.slice y2.t.a y2.t.n y2.t.c) (.bool y2.l.s) (.slice y2.l.a y2.l.n y2.l.c) := ⟨_, rfl⟩
    have NR := Lib.hid (show DF U w.heap.size y2 _ by rw [hU]; exact put4_df NR.out B5.out (by decide) ..)
    have NA := Lib.hid (show KF U xa _ by rw [hU]; exact put4_kf NA.out B5.out rfl rfl rfl rfl rfl rfl rfl)
    have B2 := Lib.hid (show Bxs U A2 35 _ by rw [hU]; exact put4_other B2.out HN25.out ..)
    have B4 := Lib.hid (show Bxs U A4 35 _ by rw [hU]; exact put4_other B4.out HN45.out ..)
    have KG := Lib.hid (show Below w.heap.size w U by rw [hU]; exact put4_below KG.out HA5.out ..)
    have B5 := Lib.hid (show Bxs U A5 35 [.bool y2.t.s, .slice y2.t.a y2.t.n y2.t.c, .bool y2.l.s, .slice y2.l.a y2.l.n y2.l.c] by rw [hU]; exact put4_bxs B5.out ..)
    unfold put4 at hU
    rw [← hU]
    clear hU
    by_cases he1 : 1 < e
    ·have g3 : (1 : Int) < (e : Int) := by omega
     have HE1 := Lib.hid he1
     have HM2 := Lib.hid (show m + m ≤ n by have h := HJE.out; have h2 := Nat.mul_le_mul_left m (show 2 ≤ e by omega); omega)
     have MV := Lib.hid (qmul NA.out.any (NA.out.len (HL.out _ HM.out) (Nat.le_refl _)) NA.out.any (NA.out.len (HL.out _ HM.out) (Nat.le_refl _)))
     have c20 := B2.out.cell (i := 0) rfl
     have c21 := B2.out.cell (i := 1) rfl
     have c22 := B2.out.cell (i := 2) rfl
     have c23 := B2.out.cell (i := 3) rfl
     have c2f := B2.out.fz
     have c2l := B2.out.lt
     go_wp2_with fail
     with_reducible refine MV.out.mono ?_
     rintro _ w3 ⟨y3, rfl, hy, hb⟩
     have B2 := Lib.hid (B2.out.below hb B2.out.lt)
     have B4 := Lib.hid (B4.out.below hb B4.out.lt)
     have B5 := Lib.hid (B5.out.below hb B5.out.lt)
     have NA := Lib.hid (NA.out.below hb)
     have NR := Lib.hid (NR.out.below hb)
     have NB := Lib.hid (show KF w3 y3 (q ^ (m + m)) from by rw [rat_pow_add]; exact hy.k)
     have KG := Lib.hid (KG.out.trans (hb.mono KG.out.size))
     clear hy hb MV
     clear c20 c21 c22 c23 c2f c2l
     have c20 := B2.out.cell (i := 0) rfl
     have c21 := B2.out.cell (i := 1) rfl
     have c22 := B2.out.cell (i := 2) rfl
     have c23 := B2.out.cell (i := 3) rfl
     have c2f := B2.out.fz
     have c2l := B2.out.lt
     go_wp2_with fail
     go_roundw
     case rel =>
      refine ⟨j + m, m + m, e / 2, y3, y2, ?_, ?_, Or.inr HM2.out, HJM.out, by have := HEN.out; omega, put4_kf NB.out B2.out rfl rfl rfl rfl rfl rfl rfl, put4_df NR.out B2.out (by decide) .., put4_bxs B2.out .., put4_other B5.out HN25.out.symm .., put4_other B4.out HN24.out.symm .., put4_below KG.out HA2.out ..⟩
      ·exact congrArg (Value.int .u16) (by omega)
      ·obtain ⟨f, hf⟩ : ∃ f, f = e / 2 := ⟨_, rfl⟩
       have he : e = 2 * f + 1 := by omega
       have h := HJE.out
       rw [he] at h
       rw [← hf, ← h]
       grind
     case measure => simp [intOf]; omega
    ·have g3 : ¬ ((1 : Int) < (e : Int)) := by omega
     have HE1 := Lib.hid (show e = 1 by omega)
     go_wp2_with fail
     go_roundw
     case rel =>
      refine ⟨j + m, m, e / 2, xa, y2, ?_, ?_, Or.inr HM.out, HJM.out, by have := HEN.out; omega, NA.out, NR.out, B2.out, B5.out, B4.out, KG.out⟩
      ·exact congrArg (Value.int .u16) (by omega)
      ·have h := HJE.out
       rw [HE1.out] at h ⊢
       omega
     case measure => simp [intOf]; omega
   ·have g0 : ((e : Int) % 2 == 1) = false := by simp; omega
    by_cases he1 : 1 < e
    ·have g3 : (1 : Int) < (e : Int) := by omega
     have HE1 := Lib.hid he1
     have HM2 := Lib.hid (show m + m ≤ n by have h := HJE.out; have h2 := Nat.mul_le_mul_left m (show 2 ≤ e by omega); omega)
     have MV := Lib.hid (qmul NA.out.any (NA.out.len (HL.out _ HM.out) (Nat.le_refl _)) NA.out.any (NA.out.len (HL.out _ HM.out) (Nat.le_refl _)))
     have c20 := B2.out.cell (i := 0) rfl
     have c21 := B2.out.cell (i := 1) rfl
     have c22 := B2.out.cell (i := 2) rfl
     have c23 := B2.out.cell (i := 3) rfl
     have c2f := B2.out.fz
     have c2l := B2.out.lt
     go_wp2_with fail
     with_reducible refine MV.out.mono ?_
     rintro _ w3 ⟨y3, rfl, hy, hb⟩
     have B2 := Lib.hid (B2.out.below hb B2.out.lt)
     have B4 := Lib.hid (B4.out.below hb B4.out.lt)
     have B5 := Lib.hid (B5.out.below hb B5.out.lt)
     have NA := Lib.hid (NA.out.below hb)
     have NR := Lib.hid (NR.out.below hb)
     have NB := Lib.hid (show KF w3 y3 (q ^ (m + m)) from by rw [rat_pow_add]; exact hy.k)
     have KG := Lib.hid (KG.out.trans (hb.mono KG.out.size))
     clear hy hb MV
     clear c20 c21 c22 c23 c2f c2l
     have c20 := B2.out.cell (i := 0) rfl
     have c21 := B2.out.cell (i := 1) rfl
     have c22 := B2.out.cell (i := 2) rfl
     have c23 := B2.out.cell (i := 3) rfl
     have c2f := B2.out.fz
     have c2l := B2.out.lt
     go_wp2_with fail
     go_roundw
     case rel =>
      refine ⟨j, m + m, e / 2, y3, xr, ?_, ?_, Or.inr HM2.out, HJ.out, by have := HEN.out; omega, put4_kf NB.out B2.out rfl rfl rfl rfl rfl rfl rfl, put4_df NR.out B2.out (by decide) .., put4_bxs B2.out .., put4_other B5.out HN25.out.symm .., put4_other B4.out HN24.out.symm .., put4_below KG.out HA2.out ..⟩
      ·exact congrArg (Value.int .u16) (by omega)
      ·obtain ⟨f, hf⟩ : ∃ f, f = e / 2 := ⟨_, rfl⟩
       have he : e = 2 * f := by omega
       have h := HJE.out
       rw [he] at h
       rw [← hf, ← h]
       grind
     case measure => simp [intOf]; omega
    ·have g3 : ¬ ((1 : Int) < (e : Int)) := by omega
     have HE1 := Lib.hid (show e = 1 by omega)
     go_wp2_with fail
     go_roundw
     case rel =>
      refine ⟨j, m, e / 2, xa, xr, ?_, ?_, Or.inr HM.out, HJ.out, by have := HEN.out; omega, NA.out, NR.out, B2.out, B5.out, B4.out, KG.out⟩
      ·exact absurd HE1.out (by omega)
      ·exact absurd HE1.out (by omega)
     case measure => simp [intOf]; omega
  ·have h0 : e = 0 := by omega
   subst h0
   have HJN := Lib.hid (show j = n by have h := HJE.out; omega)
   have HR := Lib.hid (show DF (put4 wr A4 (.bool xr.t.s) (.slice xr.t.a xr.t.n xr.t.c) (.bool xr.l.s) (.slice xr.l.a xr.l.n xr.l.c)) w.heap.size xr (q ^ n) from by rw [← HJN.out]; exact put4_df NR.out B4.out (by decide) ..)
   have c50 := B5.out.cell (i := 0) rfl
   have c51 := B5.out.cell (i := 1) rfl
   have c52 := B5.out.cell (i := 2) rfl
   have c53 := B5.out.cell (i := 3) rfl
   have c5f := B5.out.fz
   have c5l := B5.out.lt
   have c40 := B4.out.cell (i := 0) rfl
   have c41 := B4.out.cell (i := 1) rfl
   have c42 := B4.out.cell (i := 2) rfl
   have c43 := B4.out.cell (i := 3) rfl
   have c4f := B4.out.fz
   have c4l := B4.out.lt
   go_wp2_with fail
   exact bodyPost_ret (results_cell rfl _ _ _ _ _ _ _ rfl (put4_bxs B4.out ..) Tryz.underlying35 rfl (by kernel_rfl)) rfl ⟨xr, rfl, HR.out, put4_below KG.out HA4.out ..⟩
set_option maxRecDepth 100000 in
set_option maxHeartbeats 4000000 in
theorem at1_k (x : FV) (q : Rat) (w : World) (h : KF w x q) (hq : LQ q 900000) : Calls Tryz.prog 61 #[x.v] w fun e w' => e = .returned (.bool false) ∧ Below w.heap.size w w' := by
 obtain ⟨V, hV⟩ : ∃ V, V = w.alloc (.cells #[.bool x.t.s, .slice x.t.a x.t.n x.t.c, .bool x.l.s, .slice x.l.a x.l.n x.l.c] 35) := ⟨_, rfl⟩
 have hbV : Below w.heap.size w V := by rw [hV]; exact (Below.refl _ _).alloc (Nat.le_refl _) _
 have B1 := Lib.hid (show Bxs V w.heap.size 35 [.bool x.t.s, .slice x.t.a x.t.n x.t.c, .bool x.l.s, .slice x.l.a x.l.n x.l.c] by rw [hV]; exact Bxs.new w 35 [.bool x.t.s, .slice x.t.a x.t.n x.t.c, .bool x.l.s, .slice x.l.a x.l.n x.l.c])
 have KG := Lib.hid hbV
 have HV := Lib.hid hV
 have CK := Lib.hid (qcheck (h.below hbV) (h.len hq (Nat.le_refl _)))
 clear hV hbV h hq
 change Calls Tryz.prog 61 #[.agg #[.bool x.t.s, .slice x.t.a x.t.n x.t.c, .bool x.l.s, .slice x.l.a x.l.n x.l.c]] w _
 go_enter Tryz.func61, Tryz.ntmps61
 go_upto_region 1 with (fail)
 rw [show w.alloc (.cells #[.bool x.t.s, .slice x.t.a x.t.n x.t.c, .bool x.l.s, .slice x.l.a x.l.n x.l.c] 35) = V from HV.out.symm]
 have c0 := B1.out.cell (i := 0) rfl
 have c1 := B1.out.cell (i := 1) rfl
 have c2 := B1.out.cell (i := 2) rfl
 have c3 := B1.out.cell (i := 3) rfl
 go_wp2_with fail
 with_reducible refine CK.out.mono ?_
 rintro e w1 ⟨rfl, hb⟩
 have KG := Lib.hid (KG.out.trans (hb.mono KG.out.size))
 clear hb CK c0 c1 c2 c3
 go_wp2_with fail
 go_ret
 exact ⟨rfl, KG.out⟩
structure K4 (w : World) (x0 x1 x2 x3 : FV) (l : Nat → Rat) : Prop where
 k0 : KF w x0 (l 0)
 k1 : KF w x1 (l 1)
 k2 : KF w x2 (l 2)
 k3 : KF w x3 (l 3)
theorem K4.below {w w' : World} {x0 x1 x2 x3 : FV} {l : Nat → Rat} (h : K4 w x0 x1 x2 x3 l) (hb : Below w.heap.size w w') : K4 w' x0 x1 x2 x3 l := ⟨h.k0.below hb, h.k1.below hb, h.k2.below hb, h.k3.below hb⟩
set_option maxRecDepth 100000 in
set_option maxHeartbeats 16000000 in
theorem idx_k (b : Nat) (x0 x1 x2 x3 : FV) (l : Nat → Rat) (w : World) (hb : Bxs w b 56 [.bool x0.t.s, .slice x0.t.a x0.t.n x0.t.c, .bool x0.l.s, .slice x0.l.a x0.l.n x0.l.c, .bool x1.t.s, .slice x1.t.a x1.t.n x1.t.c, .bool x1.l.s, .slice x1.l.a x1.l.n x1.l.c, .bool x2.t.s, .slice x2.t.a x2.t.n x2.t.c, .bool x2.l.s, .slice x2.l.a x2.l.n x2.l.c, .bool x3.t.s, .slice x3.t.a x3.t.n x3.t.c, .bool x3.l.s, .slice x3.l.a x3.l.n x3.l.c]) (h : K4 w x0 x1 x2 x3 l) (hq : ∀ i, LQ (l i) 900000) :
  Calls Tryz.prog 91 #[.slice (some ⟨b, 0, none⟩) 4 4, .func (.func 61) #[] #[]] w fun e w' => e = .returned (.int .i64 (-1)) ∧ Below w.heap.size w w' := by
 have BB := Lib.hid hb; have HH := Lib.hid h; have HQ := Lib.hid hq
 have hcf : ∀ (args : Array Value) (w : World), (callFunc 61 args).run Tryz.prog w = .ok (.enter 61 args) w := fun _ _ => by kernel_rfl
 clear hb h hq
 go_enter Tryz.func91, Tryz.ntmps91
 go_wp2_with fail
 go_loopw [8] (fun i wr => ∃ j : Nat, j ≤ 4 ∧ i = .int .i64 j ∧ Below w.heap.size w wr) (fun i _ => 4 - (intOf i).toNat)
 case atStart => exact ⟨0, Nat.zero_le _, rfl, Below.refl _ _⟩
 case round =>
  obtain ⟨j, hj, rfl, hb0⟩ := hrel
  have KG := Lib.hid hb0
  have B1 := Lib.hid (BB.out.below hb0 BB.out.lt)
  have H4 := Lib.hid (HH.out.below hb0)
  clear hb0
  by_cases hjn : j < 4
  ·have hl5 : j = 0 ∨ j = 1 ∨ j = 2 ∨ j = 3 := by omega
   clear hj hjn
   have c0 := B1.out.cell (i := 0) rfl
   have c1 := B1.out.cell (i := 1) rfl
   have c2 := B1.out.cell (i := 2) rfl
   have c3 := B1.out.cell (i := 3) rfl
   have c4 := B1.out.cell (i := 4) rfl
   have c5 := B1.out.cell (i := 5) rfl
   have c6 := B1.out.cell (i := 6) rfl
   have c7 := B1.out.cell (i := 7) rfl
   have c8 := B1.out.cell (i := 8) rfl
   have c9 := B1.out.cell (i := 9) rfl
   have c10 := B1.out.cell (i := 10) rfl
   have c11 := B1.out.cell (i := 11) rfl
   have c12 := B1.out.cell (i := 12) rfl
   have c13 := B1.out.cell (i := 13) rfl
   have c14 := B1.out.cell (i := 14) rfl
   have c15 := B1.out.cell (i := 15) rfl
   rcases hl5 with rfl | rfl | rfl | rfl
   ·have AK := Lib.hid (at1_k x0 (l 0) wr H4.out.k0 (HQ.out 0))
    go_wp2_with fail
    with_reducible refine AK.out.mono ?_
    rintro e w1 ⟨rfl, hb⟩
    have KG := Lib.hid (KG.out.trans (hb.mono KG.out.size))
    clear hb AK c0 c1 c2 c3 c4 c5 c6 c7 c8 c9 c10 c11 c12 c13 c14 c15
    go_wp2_with fail
    go_roundw
    case rel => exact ⟨1, by omega, rfl, KG.out⟩
    case measure => simp [intOf]
   ·have AK := Lib.hid (at1_k x1 (l 1) wr H4.out.k1 (HQ.out 1))
    go_wp2_with fail
    with_reducible refine AK.out.mono ?_
    rintro e w1 ⟨rfl, hb⟩
    have KG := Lib.hid (KG.out.trans (hb.mono KG.out.size))
    clear hb AK c0 c1 c2 c3 c4 c5 c6 c7 c8 c9 c10 c11 c12 c13 c14 c15
    go_wp2_with fail
    go_roundw
    case rel => exact ⟨2, by omega, rfl, KG.out⟩
    case measure => simp [intOf]
   ·have AK := Lib.hid (at1_k x2 (l 2) wr H4.out.k2 (HQ.out 2))
    go_wp2_with fail
    with_reducible refine AK.out.mono ?_
    rintro e w1 ⟨rfl, hb⟩
    have KG := Lib.hid (KG.out.trans (hb.mono KG.out.size))
    clear hb AK c0 c1 c2 c3 c4 c5 c6 c7 c8 c9 c10 c11 c12 c13 c14 c15
    go_wp2_with fail
    go_roundw
    case rel => exact ⟨3, by omega, rfl, KG.out⟩
    case measure => simp [intOf]
   ·have AK := Lib.hid (at1_k x3 (l 3) wr H4.out.k3 (HQ.out 3))
    go_wp2_with fail
    with_reducible refine AK.out.mono ?_
    rintro e w1 ⟨rfl, hb⟩
    have KG := Lib.hid (KG.out.trans (hb.mono KG.out.size))
    clear hb AK c0 c1 c2 c3 c4 c5 c6 c7 c8 c9 c10 c11 c12 c13 c14 c15
    go_wp2_with fail
    go_roundw
    case rel => exact ⟨4, by omega, rfl, KG.out⟩
    case measure => simp [intOf]
  ·obtain rfl : j = 4 := by omega
   clear hj hjn
   go_wp2_with fail
   go_ret
   exact ⟨rfl, KG.out⟩
set_option maxRecDepth 100000 in
set_option maxHeartbeats 4000000 in
theorem con_k (b : Nat) (x0 x1 x2 x3 : FV) (l : Nat → Rat) (w : World) (hb : Bxs w b 56 [.bool x0.t.s, .slice x0.t.a x0.t.n x0.t.c, .bool x0.l.s, .slice x0.l.a x0.l.n x0.l.c, .bool x1.t.s, .slice x1.t.a x1.t.n x1.t.c, .bool x1.l.s, .slice x1.l.a x1.l.n x1.l.c, .bool x2.t.s, .slice x2.t.a x2.t.n x2.t.c, .bool x2.l.s, .slice x2.l.a x2.l.n x2.l.c, .bool x3.t.s, .slice x3.t.a x3.t.n x3.t.c, .bool x3.l.s, .slice x3.l.a x3.l.n x3.l.c]) (h : K4 w x0 x1 x2 x3 l) (hq : ∀ i, LQ (l i) 900000) :
  Calls Tryz.prog 60 #[.slice (some ⟨b, 0, none⟩) 4 4, .func (.func 61) #[] #[]] w fun e w' => e = .returned (.bool false) ∧ Below w.heap.size w w' := by
 have IK := Lib.hid (idx_k b x0 x1 x2 x3 l w hb h hq)
 clear hb h hq
 go_enter Tryz.func60, Tryz.ntmps60
 go_wp2_with fail
 with_reducible refine IK.out.mono ?_
 rintro e w1 ⟨rfl, hb⟩
 have KG := Lib.hid hb
 clear hb IK
 go_wp2_with fail
 go_ret
 exact ⟨rfl, KG.out⟩
end Go.Proofs.YtkkbegkdbcenkaaGreatDoor.Pol
