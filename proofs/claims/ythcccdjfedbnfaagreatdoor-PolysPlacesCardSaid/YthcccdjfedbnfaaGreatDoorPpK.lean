/-
  The walks of what polys.At asks of a place.
-/
import Derived.Test.YthcccdjfedbnfaaGreatDoorPpJ
import Derived.SizedLaws
import Derived.Lib.EndianBits
set_option linter.unusedSimpArgs false
set_option linter.unusedVariables false
namespace Go.Proofs.YthcccdjfedbnfaaGreatDoor.Pol
open Go.RowKit Go.Sort Go.Proofs.YthcccdjfedbnfaaGreatDoor.Limb Go.ChangeShapes Go.WideShapes Go.ChangeAt
set_option maxRecDepth 100000 in
set_option maxHeartbeats 4000000 in
theorem limbs_sizeX (a : Option Addr) (n c : Nat) (w : World) : Calls Tryz.prog 84 #[.slice a n c] w fun e w' => e = .returned (.int .i64 n) ∧ Below w.heap.size w w' := by
 go_enter Tryz.func84, Tryz.ntmps84
 go_wp2_with fail
 go_ret
 exact ⟨rfl, Below.refl _ _⟩
set_option maxRecDepth 100000 in
set_option maxHeartbeats 4000000 in
theorem num_sizeX (s : Bool) (a : Option Addr) (n c : Nat) (w : World) (hn : n ≤ 281474976710656) : Calls Tryz.prog 39 #[.agg #[.bool s, .slice a n c]] w fun e w' => e = .returned (.int .i64 (1 + (n : Int))) ∧ Below w.heap.size w w' := by
 have en : IntKind.i64.wrap (1 + (n : Int)) = 1 + (n : Int) := IntWalk.i64_in _ (by omega)
 have en2 : wrap64 (1 + (n : Int)) = 1 + (n : Int) := by unfold wrap64; omega
 obtain ⟨V, hV⟩ : ∃ V, V = w.alloc (.cells #[.bool s, .slice a n c] 26) := ⟨_, rfl⟩
 have hbV : Below w.heap.size w V := by rw [hV]; exact (Below.refl _ _).alloc (Nat.le_refl _) _
 have B1 := Lib.hid (show Bxs V w.heap.size 26 [.bool s, .slice a n c] by rw [hV]; exact Bxs.new w 26 [.bool s, .slice a n c])
 have KG := Lib.hid hbV
 have HV := Lib.hid hV
 clear hV hbV
 go_enter Tryz.func39, Tryz.ntmps39
 go_upto_region 1 with (fail)
 rw [show w.alloc (.cells #[.bool s, .slice a n c] 26) = V from HV.out.symm]
 have c0 := B1.out.cell (i := 0) rfl
 have c1 := B1.out.cell (i := 1) rfl
 go_wp2_with fail
 with_reducible refine (limbs_sizeX _ _ _ _).mono ?_
 rintro e w1 ⟨rfl, hb⟩
 have KG := Lib.hid (KG.out.trans (hb.mono KG.out.size))
 have B1 := Lib.hid (B1.out.below hb B1.out.lt)
 clear hb c0 c1
 go_wp2_with fail
 go_ret
 exact ⟨rfl, KG.out⟩
structure FZ (x : FV) (z : Int) : Prop where
 lo : 0 ≤ z
 hi : z ≤ 1000000000000000
 is : z ≤ 1000 → x.t.n ≤ z.toNat ∧ x.l.n ≤ z.toNat
def FSz (w : World) (x : FV) (e : Ending) (w' : World) : Prop := ∃ z : Int, e = .returned (.int .i64 z) ∧ FZ x z ∧ Below w.heap.size w w'
set_option maxRecDepth 100000 in
set_option maxHeartbeats 4000000 in
theorem frac_sizeX (x : FV) (w : World) (ht : x.t.n ≤ 281474976710656) (hl : x.l.n ≤ 281474976710656) : Calls Tryz.prog 10 #[x.v] w (FSz w x) := by
 have e1 : IntKind.i64.wrap (1 + (1 + (x.t.n : Int))) = 1 + (1 + (x.t.n : Int)) := IntWalk.i64_in _ (by omega)
 have e1b : wrap64 (1 + (1 + (x.t.n : Int))) = 1 + (1 + (x.t.n : Int)) := by unfold wrap64; omega
 have e2 : IntKind.i64.wrap (1 + (1 + (x.t.n : Int)) + (1 + (x.l.n : Int))) = 1 + (1 + (x.t.n : Int)) + (1 + (x.l.n : Int)) := IntWalk.i64_in _ (by omega)
 have e2b : wrap64 (1 + (1 + (x.t.n : Int)) + (1 + (x.l.n : Int))) = 1 + (1 + (x.t.n : Int)) + (1 + (x.l.n : Int)) := by unfold wrap64; omega
 obtain ⟨V, hV⟩ : ∃ V, V = w.alloc (.cells #[.bool x.t.s, .slice x.t.a x.t.n x.t.c, .bool x.l.s, .slice x.l.a x.l.n x.l.c] 28) := ⟨_, rfl⟩
 have hbV : Below w.heap.size w V := by rw [hV]; exact (Below.refl _ _).alloc (Nat.le_refl _) _
 have B1 := Lib.hid (show Bxs V w.heap.size 28 [.bool x.t.s, .slice x.t.a x.t.n x.t.c, .bool x.l.s, .slice x.l.a x.l.n x.l.c] by rw [hV]; exact Bxs.new w 28 [.bool x.t.s, .slice x.t.a x.t.n x.t.c, .bool x.l.s, .slice x.l.a x.l.n x.l.c])
 have KG := Lib.hid hbV
 have HV := Lib.hid hV
 clear hV hbV
 change Calls Tryz.prog 10 #[.agg #[.bool x.t.s, .slice x.t.a x.t.n x.t.c, .bool x.l.s, .slice x.l.a x.l.n x.l.c]] w _
 go_enter Tryz.func10, Tryz.ntmps10
 go_upto_region 1 with (fail)
 rw [show w.alloc (.cells #[.bool x.t.s, .slice x.t.a x.t.n x.t.c, .bool x.l.s, .slice x.l.a x.l.n x.l.c] 28) = V from HV.out.symm]
 have c0 := B1.out.cell (i := 0) rfl
 have c1 := B1.out.cell (i := 1) rfl
 have c2 := B1.out.cell (i := 2) rfl
 have c3 := B1.out.cell (i := 3) rfl
 go_wp2_with fail
 with_reducible refine (num_sizeX _ _ _ _ _ ht).mono ?_
 rintro e w1 ⟨rfl, hb⟩
 have KG := Lib.hid (KG.out.trans (hb.mono KG.out.size))
 have B1 := Lib.hid (B1.out.below hb B1.out.lt)
 clear hb c0 c1 c2 c3
 by_cases h : 1 + (1 + (x.t.n : Int)) ≤ 1048576
 ·have c0 := B1.out.cell (i := 0) rfl
  have c1 := B1.out.cell (i := 1) rfl
  have c2 := B1.out.cell (i := 2) rfl
  have c3 := B1.out.cell (i := 3) rfl
  go_wp2_with fail
  with_reducible refine (num_sizeX _ _ _ _ _ hl).mono ?_
  rintro e w2 ⟨rfl, hb⟩
  have KG := Lib.hid (KG.out.trans (hb.mono KG.out.size))
  clear hb c0 c1 c2 c3
  go_wp2_with fail
  go_ret
  exact ⟨_, rfl, ⟨by omega, by omega, fun _ => ⟨by omega, by omega⟩⟩, KG.out⟩
 ·have h2 : 1048576 < 1 + (1 + (x.t.n : Int)) := by omega
  go_wp2_with fail
  go_ret
  exact ⟨_, rfl, ⟨by omega, by omega, fun h => by omega⟩, KG.out⟩
theorem open_listW {H : Type} {enc : TypeId × Value → H} {W : World} {sp : Nat → Bool} {hd : Bool} {fuel : Nat} {v : Value} {x : DataW H × List MemPlace}
  (h : DataW.trod enc Tryz.prog W 0 sp hd fuel 24 [v] = some x) (hw : ∀ k ∈ x.1.weights Tryz.prog 24, k ≤ reachBytes) {a : Option Addr} {n c : Nat} (hv : v = .slice a n c) : n ≤ 281474976710656 := by
 rcases DataW.trod_slice Tryz.underlying24 h with ⟨e, _⟩ | ⟨a', len, cap, elems, rest, m, _, e, hx, _, hl, _, hel, _, _⟩
 ·rw [hv] at e
  simp only [List.cons.injEq, Value.slice.injEq, and_true] at e
  omega
 ·rw [hv] at e
  simp only [List.cons.injEq, Value.slice.injEq, and_true] at e
  have h1 := hw ((elems.map (·.1)).length * 1 + 0) 
  rw [hx] at hw
  have h2 := hw (((elems.map (·.1)).length + (rest.map (·.1)).length) * Tryz.prog.bytesOf 110) (by unfold DataW.weights; rw [Tryz.underlying24]; exact List.mem_cons_self)
  rw [show Tryz.prog.bytesOf 110 = 4 by kernel_rfl, List.length_map, List.length_map] at h2
  have h3 : reachBytes = 140737488351232 := by decide
  omega
theorem weights_part {H : Type} {t : TypeId} {fs : Array Field} (ht : Tryz.prog.underlying t = some (.struct fs)) {parts : List (DataW H)} {B : Nat} (hw : ∀ k ∈ (DataW.agg parts).weights Tryz.prog t, k ≤ B) {i : Nat} {f : Field} (hf : fs[i]? = some f) {d : DataW H} (hd : parts[i]? = some d) : ∀ k ∈ d.weights Tryz.prog f.type, k ≤ B := fun k hk => by
 refine hw k ?_
 unfold DataW.weights
 rw [ht]
 exact DataW.weights_mem_each (t := f.type) (by rw [List.getElem?_map, Array.getElem?_toList, hf]; rfl) hd k hk
theorem weights_all {H : Type} {e : TypeId} {k : Nat} : ∀ {parts : List (DataW H)} {i : Nat} {d : DataW H}, parts[i]? = some d → k ∈ d.weights Tryz.prog e → k ∈ DataW.weightsAll Tryz.prog e parts
 | [], _, _, h, _ => by simp at h
 | p :: r, 0, d, h, hk => by
  obtain rfl : p = d := by simpa using h
  unfold DataW.weightsAll
  exact List.mem_append_left _ hk
 | p :: r, i + 1, d, h, hk => by
  unfold DataW.weightsAll
  exact List.mem_append_right _ (weights_all (by simpa using h) hk)
theorem weights_arr {H : Type} {t e : TypeId} {n : Nat} (ht : Tryz.prog.underlying t = some (.array n e)) {parts : List (DataW H)} {B : Nat} (hw : ∀ k ∈ (DataW.agg parts).weights Tryz.prog t, k ≤ B) {i : Nat} {d : DataW H} (hd : parts[i]? = some d) : ∀ k ∈ d.weights Tryz.prog e, k ≤ B := fun k hk => by
 refine hw k ?_
 unfold DataW.weights
 rw [ht]
 exact weights_all hd hk
set_option maxRecDepth 100000 in
theorem open_numW {H : Type} {enc : TypeId × Value → H} {W : World} {sp : Nat → Bool} {hd : Bool} {fuel : Nat} {l : List Value} {x : DataW H × List MemPlace}
  (hf : DataW.trod enc Tryz.prog W 0 sp hd fuel 26 l = some x) (hw : ∀ k ∈ x.1.weights Tryz.prog 26, k ≤ reachBytes) : ∃ s a n c o, l = [.bool s, .slice a n c] ∧ Rd W a n o ∧ n ≤ c ∧ n ≤ 281474976710656 := by
 obtain ⟨xs, m, _, hx, hlen, hxl, hfld⟩ := DataW.trod_struct Tryz.underlying26 hf
 have hlen : l.length = 2 := hlen.trans cellsNum
 obtain ⟨x0, x1, rfl⟩ : ∃ x0 x1, l = [x0, x1] := by
  match l, hlen with
  | [x0, x1], _ => exact ⟨x0, x1, rfl⟩
 have h0 : DataW.trod enc Tryz.prog W 0 sp hd m 4 (([x0, x1].drop 0).take (Tryz.prog.cellsOf 4)) = xs[0]? := hfld 0 _ rfl
 have h1 : DataW.trod enc Tryz.prog W 0 sp hd m 24 (([x0, x1].drop 1).take (Tryz.prog.cellsOf 24)) = xs[1]? := hfld 1 _ rfl
 have hx2 : xs.length = 2 := hxl
 rw [List.getElem?_eq_getElem (by omega)] at h0
 rw [List.getElem?_eq_getElem (by omega)] at h1
 rw [cellsBool] at h0
 rw [cellsList] at h1
 obtain ⟨s, e0, _⟩ := DataW.trod_bool Tryz.underlying4 h0
 obtain ⟨a, n, c, o, e1, hr, hl⟩ := open_list (v := x1) h1
 have e0 : x0 = .bool s := by
  have : [x0] = [Value.bool s] := e0
  simpa using this
 rw [hx] at hw
 have hn := open_listW (v := x1) h1 (weights_part Tryz.underlying26 hw (i := 1) rfl (by rw [List.getElem?_map, List.getElem?_eq_getElem (by omega)]; rfl)) e1
 exact ⟨s, a, n, c, o, by rw [e0, e1], hr, hl, hn⟩
structure AQ (w : World) (x : FV) : Prop where
 af : ∃ q, AF w x q
 cs : (∃ q, KF w x q) ∨ BF w x
 t : x.t.n ≤ 281474976710656
 l : x.l.n ≤ 281474976710656
set_option maxRecDepth 100000 in
theorem open_fracTW {H : Type} {enc : TypeId × Value → H} {W : World} {sp : Nat → Bool} {hd : Bool} {fuel : Nat} {l : List Value} {x : DataW H × List MemPlace}
  (hf : DataW.trod enc Tryz.prog W 0 sp hd fuel 28 l = some x) (hw : ∀ k ∈ x.1.weights Tryz.prog 28, k ≤ reachBytes) : ∃ y : FV, l = [.bool y.t.s, .slice y.t.a y.t.n y.t.c, .bool y.l.s, .slice y.l.a y.l.n y.l.c] ∧ AQ W y := by
 obtain ⟨xs, m, _, hx, hlen, hxl, hfld⟩ := DataW.trod_struct Tryz.underlying28 hf
 have hlen : l.length = 4 := hlen.trans cellsFrac
 obtain ⟨x0, x1, x2, x3, rfl⟩ : ∃ x0 x1 x2 x3, l = [x0, x1, x2, x3] := by
  match l, hlen with
  | [x0, x1, x2, x3], _ => exact ⟨x0, x1, x2, x3, rfl⟩
 have h0 : DataW.trod enc Tryz.prog W 0 sp hd m 26 (([x0, x1, x2, x3].drop 0).take (Tryz.prog.cellsOf 26)) = xs[0]? := hfld 0 _ rfl
 have h1 : DataW.trod enc Tryz.prog W 0 sp hd m 26 (([x0, x1, x2, x3].drop 2).take (Tryz.prog.cellsOf 26)) = xs[1]? := hfld 1 _ rfl
 have hx2 : xs.length = 2 := hxl
 rw [List.getElem?_eq_getElem (by omega)] at h0
 rw [List.getElem?_eq_getElem (by omega)] at h1
 rw [cellsNum] at h0 h1
 rw [hx] at hw
 obtain ⟨s1, a1, n1, c1, o1, e1, r1, l1, w1⟩ := open_numW h0 (weights_part Tryz.underlying28 hw (i := 0) rfl (by rw [List.getElem?_map, List.getElem?_eq_getElem (by omega)]; rfl))
 obtain ⟨s2, a2, n2, c2, o2, e2, r2, l2, w2⟩ := open_numW h1 (weights_part Tryz.underlying28 hw (i := 1) rfl (by rw [List.getElem?_map, List.getElem?_eq_getElem (by omega)]; rfl))
 have e1 : [x0, x1] = [.bool s1, .slice a1 n1 c1] := e1
 have e2 : [x2, x3] = [.bool s2, .slice a2 n2 c2] := e2
 simp only [List.cons.injEq, and_true] at e1 e2
 refine ⟨⟨⟨s1, a1, n1, c1⟩, ⟨s2, a2, n2, c2⟩⟩, by rw [e1.1, e1.2, e2.1, e2.2], ⟨_, AF.raw r1 l1 r2 l2⟩, ?_, w1, w2⟩
 by_cases hk : okF s1 n1 o1 s2 n2 o2
 ·exact Or.inl ⟨_, KF.raw r1 l1 r2 l2 hk⟩
 ·exact Or.inr (BF.raw r1 l1 r2 l2 hk)
theorem each_weight {H : Type} {ts : List TypeId} {ds : List (DataW H)} (h : (DataW.weightsEach Tryz.prog ts ds).all (· ≤ reachBytes) = true) {j : Nat} {t : TypeId} {d : DataW H} (ht : ts[j]? = some t) (hd : ds[j]? = some d) : ∀ k ∈ d.weights Tryz.prog t, k ≤ reachBytes := fun k hk => by
 have h1 := List.all_eq_true.1 h k (DataW.weights_mem_each ht hd k hk)
 simpa using h1
theorem cellsFour : Tryz.prog.cellsOf 56 = 16 := by kernel_rfl
theorem trod_arrW {H : Type} {enc : TypeId × Value → H} {w : World} {base : Nat} {spare : Nat → Bool} {held : Bool} {t e : TypeId} {n fuel : Nat} {cs : List Value} {x : DataW H × List MemPlace} (ht : Tryz.prog.underlying t = some (.array n e))
  (h : DataW.trod enc Tryz.prog w base spare held fuel t cs = some x) : ∃ (m : Nat) (ys : List (DataW H × List MemPlace)), x.1 = .agg (ys.map (·.1)) ∧ ∀ i, i < n → ∃ y, ys[i]? = some y ∧ DataW.trod enc Tryz.prog w base spare held m e ((cs.drop (i * Tryz.prog.cellsOf e)).take (Tryz.prog.cellsOf e)) = some y := by
 cases fuel with
 | zero => simp [DataW.trod] at h
 | succ m =>
  unfold DataW.trod at h
  rw [ht] at h
  dsimp only at h
  by_cases hlen : cs.length = Tryz.prog.cellsOf t
  ·rw [if_pos hlen] at h
   obtain ⟨ys, hy, hx⟩ := Option.map_eq_some_iff.1 h
   refine ⟨m, ys, by rw [← hx], fun i hi => ?_⟩
   have h1 := mapM_some_get hy i i (List.getElem?_range hi)
   obtain ⟨y, h2⟩ := LawPost.mapM_each _ _ _ hy i (List.mem_range.2 hi)
   exact ⟨y, by rw [← h1, h2], h2⟩
  ·rw [if_neg hlen] at h; cases h
set_option maxRecDepth 100000 in
theorem open_frac4 {H : Type} {enc : TypeId × Value → H} {W : World} {base : Nat} {r : Reach} {sp : Nat → Bool} {hd : Bool} {v : Value} {d : DataW H} {p : List MemPlace}
  (hok : Value.okWide Tryz.prog W r base 56 v) (h : DataW.Trod enc Tryz.prog W 0 sp hd 56 v d p) (hw : ∀ k ∈ d.weights Tryz.prog 56, k ≤ reachBytes) :
  ∃ y0 y1 y2 y3 : FV, v = .agg #[.bool y0.t.s, .slice y0.t.a y0.t.n y0.t.c, .bool y0.l.s, .slice y0.l.a y0.l.n y0.l.c, .bool y1.t.s, .slice y1.t.a y1.t.n y1.t.c, .bool y1.l.s, .slice y1.l.a y1.l.n y1.l.c, .bool y2.t.s, .slice y2.t.a y2.t.n y2.t.c, .bool y2.l.s, .slice y2.l.a y2.l.n y2.l.c, .bool y3.t.s, .slice y3.t.a y3.t.n y3.t.c, .bool y3.l.s, .slice y3.l.a y3.l.n y3.l.c] ∧ AQ W y0 ∧ AQ W y1 ∧ AQ W y2 ∧ AQ W y3 := by
 obtain ⟨cs, rfl, _⟩ : ∃ cs, v = .agg cs ∧ True := by
  unfold Value.okWide at hok
  rw [Tryz.underlying56] at hok
  obtain ⟨cs, h1, _⟩ := hok
  exact ⟨cs, h1, trivial⟩
 obtain ⟨fuel, hf⟩ := h
 obtain ⟨l⟩ := cs
 have hf : DataW.trod enc Tryz.prog W 0 sp hd fuel 56 l = some (d, p) := hf
 have hlen : l.length = 16 := (LawPost.trod_arr Tryz.underlying56 hf).1.trans cellsFour
 obtain ⟨m, ys, hd1, h2⟩ := trod_arrW Tryz.underlying56 hf
 have hd1 : d = .agg (ys.map (·.1)) := hd1
 rw [hd1] at hw
 have key : ∀ i, i < 4 → ∃ y : FV, (l.drop (i * 4)).take 4 = [.bool y.t.s, .slice y.t.a y.t.n y.t.c, .bool y.l.s, .slice y.l.a y.l.n y.l.c] ∧ AQ W y := fun i hi => by
  obtain ⟨y, h3, h4⟩ := h2 i hi
  rw [cellsFrac] at h4
  exact open_fracTW h4 (weights_arr Tryz.underlying56 hw (i := i) (by rw [List.getElem?_map, h3]; rfl))
 obtain ⟨y0, e0, a0⟩ := key 0 (by omega)
 obtain ⟨y1, e1, a1⟩ := key 1 (by omega)
 obtain ⟨y2, e2, a2⟩ := key 2 (by omega)
 obtain ⟨y3, e3, a3⟩ := key 3 (by omega)
 refine ⟨y0, y1, y2, y3, ?_, a0, a1, a2, a3⟩
 obtain ⟨z0, z1, z2, z3, z4, z5, z6, z7, z8, z9, z10, z11, z12, z13, z14, z15, rfl⟩ : ∃ z0 z1 z2 z3 z4 z5 z6 z7 z8 z9 z10 z11 z12 z13 z14 z15, l = [z0, z1, z2, z3, z4, z5, z6, z7, z8, z9, z10, z11, z12, z13, z14, z15] := by
  match l, hlen with
  | [z0, z1, z2, z3, z4, z5, z6, z7, z8, z9, z10, z11, z12, z13, z14, z15], _ => exact ⟨_, _, _, _, _, _, _, _, _, _, _, _, _, _, _, _, rfl⟩
 have e0 : [z0, z1, z2, z3] = _ := e0
 have e1 : [z4, z5, z6, z7] = _ := e1
 have e2 : [z8, z9, z10, z11] = _ := e2
 have e3 : [z12, z13, z14, z15] = _ := e3
 simp only [List.cons.injEq, and_true] at e0 e1 e2 e3
 rw [e0.1, e0.2.1, e0.2.2.1, e0.2.2.2, e1.1, e1.2.1, e1.2.2.1, e1.2.2.2, e2.1, e2.2.1, e2.2.2.1, e2.2.2.2, e3.1, e3.2.1, e3.2.2.1, e3.2.2.2]
end Go.Proofs.YthcccdjfedbnfaaGreatDoor.Pol
namespace Go.Proofs.YthcccdjfedbnfaaGreatDoor.Pol
open Go.RowKit Go.Sort Go.Proofs.YthcccdjfedbnfaaGreatDoor.Limb
theorem degP_snoc (A : List Tm) (t : Tm) (i : Nat) : degP (A ++ [t]) i = max (degP A i) (t.1.at i : Int) := by
 unfold degP
 rw [List.foldl_append]
 rfl
set_option maxRecDepth 100000 in
set_option maxHeartbeats 4000000 in
theorem degree_out (x : PV) (l : Int) (hl : l < 0 ∨ 4 ≤ l) (w : World) : Calls Tryz.prog 73 #[x.v, .int .i64 l] w fun e w' => e = .returned (.int .i64 (-1)) ∧ Below w.heap.size w w' := by
 obtain ⟨xa, xn, xc⟩ := x
 change Calls Tryz.prog 73 #[.slice xa xn xc, .int .i64 l] w _
 by_cases h : l < 0
 ·go_enter Tryz.func73, Tryz.ntmps73
  go_wp2_with fail
  go_ret
  exact ⟨rfl, Below.refl _ _⟩
 ·have h2 : 4 ≤ l := by omega
  have h3 : l ≥ 4 := by omega
  clear hl
  go_enter Tryz.func73, Tryz.ntmps73
  go_wp2_with fail
  go_ret
  exact ⟨rfl, Below.refl _ _⟩
set_option maxRecDepth 100000 in
set_option maxHeartbeats 16000000 in
theorem degree_k (li : Nat) (hi : li < 4) (x : PV) (P : List Tm) (w : World) (hx : AP w x P) (hp : ∀ t ∈ P, LQ t.2 900000) (hn : x.n ≤ 1000000) : Calls Tryz.prog 73 #[x.v, .int .i64 (li : Int)] w fun e w' => e = .returned (.int .i64 (degP P li)) ∧ Below w.heap.size w w' := by
 have HI := Lib.hid hi
 have hi1 : (li : Int) < 4 := by omega
 have hi2 : ¬ ((li : Int) < 0) := by omega
 have hi3 : (0 : Int) ≤ (li : Int) := by omega
 have hi4 : ¬ ((li : Int) ≥ 4) := by omega
 have hi5 : ¬ ((4 : Int) ≤ (li : Int)) := by omega
 have OF := Lib.hid (of_at hx (Below.refl _ _) hp (by omega))
 have HNN := Lib.hid hn; have HSM := Lib.hid hx.small
 obtain ⟨xa, xn, xc⟩ := x
 change Calls Tryz.prog 73 #[.slice xa xn xc, .int .i64 (li : Int)] w _
 clear hi hx hp hn
 go_enter Tryz.func73, Tryz.ntmps73
 go_wp2_with fail
 with_reducible refine OF.out.mono ?_
 rintro e w1 ⟨⟨pa, pn, pc⟩, he, hp, hpn, hb⟩
 obtain rfl : e = .returned (.slice pa pn pc) := he
 obtain ⟨L, g1, g2, g3, g4⟩ := hp.ex
 have R1 := Lib.hid g1; have T1 := Lib.hid g4; have N1 := Lib.hid (show L.length = pn from g2)
 have HPN := Lib.hid (show pn ≤ 1000000 from Nat.le_trans hpn HNN.out)
 have KG := Lib.hid hb
 clear hp hpn hb g1 g2 g3 g4 OF
 go_wp2_with fail
 go_loopw [5, 18] (fun s i wr => ∃ j : Nat, j ≤ pn ∧ i = .int .i64 j ∧ s = .int .i64 (degP (P.take j) li) ∧ Below w.heap.size w wr) (fun _ i _ => pn - (intOf i).toNat)
 case atStart =>
  exact ⟨0, Nat.zero_le _, rfl, rfl, KG.out⟩
 case round =>
  obtain ⟨j, hj, rfl, rfl, hb0⟩ := hrel
  have HJ := Lib.hid hj; have KG := Lib.hid hb0
  clear hj hb0
  by_cases hjn : j < pn
  ·have HJN := Lib.hid hjn
   have hjl : j < L.length := by rw [N1.out]; exact hjn
   obtain ⟨pb, po, rfl, hcs⟩ := (R1.out.below KG.out).one (fun h => by rw [List.map_eq_nil_iff] at h; rw [h] at hjl; simp at hjl)
   obtain ⟨e, he⟩ : ∃ e, L[j]? = some e := ⟨_, List.getElem?_eq_getElem hjl⟩
   obtain ⟨t, q⟩ := e
   obtain ⟨c0, c1, c2, c3, c4, c5, c6, c7⟩ := (hcs j t (by rw [List.getElem?_map, he]; rfl)).eight
   have HPJ := Lib.hid (show P[j]? = some (t.m, q) by rw [← T1.out, List.getElem?_map, he]; rfl)
   clear hcs he hjl
   go_upto_region 7 with (fail)
   obtain ⟨V, hV⟩ : ∃ V, V = wr.alloc (.cells #[.bool t.c.t.s, .slice t.c.t.a t.c.t.n t.c.t.c, .bool t.c.l.s, .slice t.c.l.a t.c.l.n t.c.l.c, .int .u16 t.m.x, .int .u16 t.m.y, .int .u16 t.m.z, .int .u16 t.m.t] 50) := ⟨_, rfl⟩
   have hbV : Below wr.heap.size wr V := by rw [hV]; exact (Below.refl _ _).alloc (Nat.le_refl _) _
   have B7 := Lib.hid (show Bxs V wr.heap.size 50 [.bool t.c.t.s, .slice t.c.t.a t.c.t.n t.c.t.c, .bool t.c.l.s, .slice t.c.l.a t.c.l.n t.c.l.c, .int .u16 t.m.x, .int .u16 t.m.y, .int .u16 t.m.z, .int .u16 t.m.t] by rw [hV]; exact Bxs.new wr 50 [.bool t.c.t.s, .slice t.c.t.a t.c.t.n t.c.t.c, .bool t.c.l.s, .slice t.c.l.a t.c.l.n t.c.l.c, .int .u16 t.m.x, .int .u16 t.m.y, .int .u16 t.m.z, .int .u16 t.m.t])
   obtain ⟨A7, hA7⟩ : ∃ A, A = wr.heap.size := ⟨_, rfl⟩
   rw [← hV, ← hA7]
   rw [← hA7] at B7
   have KG := Lib.hid (KG.out.trans (hbV.mono KG.out.size))
   have ek : IntKind.i64.wrap ((j : Int) + 1) = (j : Int) + 1 := IntWalk.i64_in _ (by have := HJN.out; have := HPN.out; omega)
   clear hV hbV hA7 c0 c1 c2 c3 c4 c5 c6 c7 hjn
   have c0 := B7.out.cell (i := 0) rfl
   have c1 := B7.out.cell (i := 1) rfl
   have c2 := B7.out.cell (i := 2) rfl
   have c3 := B7.out.cell (i := 3) rfl
   have c4 := B7.out.cell (i := 4) rfl
   have c5 := B7.out.cell (i := 5) rfl
   have c6 := B7.out.cell (i := 6) rfl
   have c7 := B7.out.cell (i := 7) rfl
   have cL := B7.out.cell (i := 4 + li) (at_cell _ _ _ _ _ HI.out)
   go_wp2_with fail
   go_roundw
   case rel =>
    refine ⟨j + 1, by have := HJN.out; omega, rfl, ?_, KG.out⟩
    rw [List.take_add_one, HPJ.out]
    show _ = Value.int .i64 (degP (P.take j ++ [(t.m, q)]) li)
    have hs : t.m.at li ≤ 65535 := at_small (HSM.out _ (List.mem_of_getElem? HPJ.out)) li
    rw [degP_snoc, show wrap64 ((t.m.at li : Nat) : Int) = ((t.m.at li : Nat) : Int) from by unfold wrap64; omega]
   case measure => simp [intOf]; have := HJN.out; omega
  ·have hge : ¬ ((j : Int) < (pn : Int)) := by omega
   have HJE := Lib.hid (show j = pn by have := HJ.out; omega)
   clear hjn
   go_wp2_with fail
   go_ret
   refine ⟨?_, KG.out⟩
   have hl : P.length = L.length := by rw [← T1.out, List.length_map]
   rw [List.take_of_length_le (by rw [hl, N1.out, HJE.out]; exact Nat.le_refl _)]
   rfl
set_option maxRecDepth 100000 in
set_option maxHeartbeats 4000000 in
theorem slope1_i (t : TV) (q : Rat) (w : World) (af : AF w t.c q) (lf : LF t.c 900000) (li : Nat) (hi : li < 4) (bc : Nat) (hc : Bxs w bc 3 [.int .i64 (li : Int)]) (hs : (t.m.at li) ≤ 65535) : Calls Tryz.prog 106 #[TV.v t, .pointer (some ⟨bc, 0, none⟩)] w fun en w' => ∃ y : FV, en = .returned (TV.v ⟨y, t.m.dec li⟩) ∧ DF w' w.heap.size y (q * ((t.m.at li) : Rat)) ∧ Below w.heap.size w w' := by
 have LQq := Lib.hid (af.len lf)
 have HLNF := Lib.hid lf
 obtain ⟨V, hV⟩ : ∃ V, V = (w.alloc (.cells #[.bool t.c.t.s, .slice t.c.t.a t.c.t.n t.c.t.c, .bool t.c.l.s, .slice t.c.l.a t.c.l.n t.c.l.c, .int .u16 t.m.x, .int .u16 t.m.y, .int .u16 t.m.z, .int .u16 t.m.t] 50)).alloc (.cells #[.bool false, .slice none 0 0, .bool false, .slice none 0 0, .int .u16 0, .int .u16 0, .int .u16 0, .int .u16 0] 50) := ⟨_, rfl⟩
 have hbV : Below w.heap.size w V := by rw [hV]; exact ((Below.refl _ _).alloc (Nat.le_refl _) _).alloc (by go_size) _
 have B1 := Lib.hid (show Bxs V w.heap.size 50 [.bool t.c.t.s, .slice t.c.t.a t.c.t.n t.c.t.c, .bool t.c.l.s, .slice t.c.l.a t.c.l.n t.c.l.c, .int .u16 t.m.x, .int .u16 t.m.y, .int .u16 t.m.z, .int .u16 t.m.t] by rw [hV]; exact (Bxs.new w 50 [.bool t.c.t.s, .slice t.c.t.a t.c.t.n t.c.t.c, .bool t.c.l.s, .slice t.c.l.a t.c.l.n t.c.l.c, .int .u16 t.m.x, .int .u16 t.m.y, .int .u16 t.m.z, .int .u16 t.m.t]).alloc _)
 have B2 := Lib.hid (show Bxs V (w.heap.size + 1) 50 [.bool false, .slice none 0 0, .bool false, .slice none 0 0, .int .u16 0, .int .u16 0, .int .u16 0, .int .u16 0] by
  have h := Bxs.new (w.alloc (.cells #[.bool t.c.t.s, .slice t.c.t.a t.c.t.n t.c.t.c, .bool t.c.l.s, .slice t.c.l.a t.c.l.n t.c.l.c, .int .u16 t.m.x, .int .u16 t.m.y, .int .u16 t.m.z, .int .u16 t.m.t] 50)) 50 [.bool false, .slice none 0 0, .bool false, .slice none 0 0, .int .u16 0, .int .u16 0, .int .u16 0, .int .u16 0]
  rw [World.size_alloc] at h
  rw [hV]; exact h)
 have KG := Lib.hid hbV
 obtain ⟨A1, hA1⟩ : ∃ A, A = w.heap.size := ⟨_, rfl⟩
 obtain ⟨A2, hA2⟩ : ∃ A, A = w.heap.size + 1 := ⟨_, rfl⟩
 have HA2 := Lib.hid (show w.heap.size ≤ A2 by omega)
 have HSZ := Lib.hid (show w.heap.size ≤ V.heap.size from hbV.size)
 have NF := Lib.hid (af.below hbV)
 have HI := Lib.hid hi
 have hi1 : (li : Int) < 4 := by omega
 have hi2 : ¬ ((li : Int) < 0) := by omega
 have hi3 : (0 : Int) ≤ (li : Int) := by omega
 have HN12 := Lib.hid (show A2 ≠ A1 by omega)
 have HA1 := Lib.hid (show w.heap.size ≤ A1 by omega)
 have HNC := Lib.hid (show bc ≠ A1 by have := hc.lt; omega)
 have BC := Lib.hid (hc.below hbV hc.lt)
 have HEW := Lib.hid (show IntKind.i64.wrap ((t.m.at li) : Int) = ((t.m.at li) : Int) from IntWalk.i64_in _ (by omega))
 have e1 : IntKind.u16.wrap (max ((t.m.at li) : Int) 1 - 1) = (((t.m.at li) - 1 : Nat) : Int) := by rw [IntWalk.u16_in _ (by omega)]; omega
 clear hc hi
 clear af lf
 change Calls Tryz.prog 106 #[.agg #[.bool t.c.t.s, .slice t.c.t.a t.c.t.n t.c.t.c, .bool t.c.l.s, .slice t.c.l.a t.c.l.n t.c.l.c, .int .u16 t.m.x, .int .u16 t.m.y, .int .u16 t.m.z, .int .u16 t.m.t], .pointer (some ⟨bc, 0, none⟩)] w _
 go_enter Tryz.func106, Tryz.ntmps106
 go_upto_region 1 with (fail)
 rw [← hV, ← hA2, ← hA1]
 rw [← hA1] at B1
 rw [← hA2] at B2
 clear hV hbV hA1 hA2
 have cB10 := B1.out.cell (i := 0) rfl
 have cB11 := B1.out.cell (i := 1) rfl
 have cB12 := B1.out.cell (i := 2) rfl
 have cB13 := B1.out.cell (i := 3) rfl
 have cB14 := B1.out.cell (i := 4) rfl
 have cB15 := B1.out.cell (i := 5) rfl
 have cB16 := B1.out.cell (i := 6) rfl
 have cB17 := B1.out.cell (i := 7) rfl
 have cB1f := B1.out.fz
 have cB1l := B1.out.lt
 have cBL := B1.out.cell (i := 4 + li) (at_cell _ _ _ _ _ HI.out)
 have cc0 := BC.out.cell (i := 0) rfl
 go_upto_region 2 with (fail)
 clear cB10 cB11 cB12 cB13 cB14 cB15 cB16 cB17 cB1f cB1l
 clear cc0 cBL
 obtain ⟨q101, hq101⟩ : ∃ z : Rat, z = ((IntKind.i64.wrap ((t.m.at li) : Int) : Int) : Rat) := ⟨_, rfl⟩
 have Hq101 := Lib.hid hq101
 have LQq101 := Lib.hid (show LQ q101 3 by rw [hq101]; exact LQ.int (by rw [HEW.out]; omega) (by rw [HEW.out]; omega))
 clear hq101
 obtain ⟨q102, hq102⟩ : ∃ z : Rat, z = q * q101 := ⟨_, rfl⟩
 have Hq102 := Lib.hid hq102
 have LQq102 := Lib.hid (show LQ q102 1800002 by rw [hq102]; exact LQ.mul (LQq.out.up (by decide : _ ≤ 900001)) (LQq101.out.up (by decide : _ ≤ 900001)) (by decide))
 clear hq102
 go_upto_region 2 with (fail)
 refine Go.FS.wp_region_fresh 7 [] (Go.FS.spOf [(4, Go.FS.Sp.made (fun x : FV => x.v) (fun x w' => DF w' V.heap.size x q101) FV.blk), (5, Go.FS.Sp.made (fun x : FV => x.v) (fun x w' => DF w' V.heap.size x q102) FV.blk)])
  (fun w' => Below V.heap.size V w') (by kernel_rfl) (by kernel_rfl) (by kernel_rfl)
  (Go.FS.spOf_cons (Go.FS.Sp.made_keeps _ (fun _ _ _ h _ hk => h.kept hk) (Go.FS.notTaken (by kernel_rfl))) (Go.FS.spOf_cons (Go.FS.Sp.made_keeps _ (fun _ _ _ h _ hk => h.kept hk) (Go.FS.notTaken (by kernel_rfl))) (Go.FS.spOf_nil))) (fun _ _ h hb => h.trans (hb.mono h.size)) ((Below.refl _ _).drew) ?_
 simp only [List.append_eq, List.cons_append, List.nil_append, List.take_succ_cons, List.take_zero, List.drop_succ_cons, List.drop_zero]
 refine Go.FS.wpF_reads rfl rfl rfl ?_ (fun w' hw' => ?_) ?_
 rotate_left
 ·have hb' := hw'.world
  skip
  clear hw'
  go_simp
  try rfl
 conv => arg 10; simp only [Act.put, Go.q0, Go.q1, Go.q2]
 refine Go.FS.wpF_reads rfl rfl rfl ?_ (fun w' hw' => ?_) ?_
 rotate_left
 ·have hb' := hw'.world
  have hs0 := (B1.out.below hb' B1.out.lt).cell (i := 0) rfl
  have hs1 := (B1.out.below hb' B1.out.lt).cell (i := 1) rfl
  have hs2 := (B1.out.below hb' B1.out.lt).cell (i := 2) rfl
  have hs3 := (B1.out.below hb' B1.out.lt).cell (i := 3) rfl
  have hs4 := (B1.out.below hb' B1.out.lt).cell (i := 4) rfl
  have hs5 := (B1.out.below hb' B1.out.lt).cell (i := 5) rfl
  have hs6 := (B1.out.below hb' B1.out.lt).cell (i := 6) rfl
  have hs7 := (B1.out.below hb' B1.out.lt).cell (i := 7) rfl
  have hsf := (B1.out.below hb' B1.out.lt).fz
  have hsl := (B1.out.below hb' B1.out.lt).lt
  clear hw'
  go_simp
  try rfl
 conv => arg 10; simp only [Act.put, Go.q0, Go.q1, Go.q2]
 iterate 2
  refine Go.FS.wpF_reads rfl rfl rfl ?_ (fun w' hw' => ?_) ?_
  rotate_left
  ·have hb' := hw'.world
   skip
   clear hw'
   go_simp
   try rfl
  conv => arg 10; simp only [Act.put, Go.q0, Go.q1, Go.q2]
 refine Go.FS.wpF_spec rfl rfl rfl (fun w' hw' => ?_) ?_
 ·have hb' := hw'.world
  refine Go.FS.gives_of (Go.FS.PM (fun x : FV => x.v) (fun x w' => DF w' V.heap.size x q101) FV.blk w'.heap.size) ?_ (fun _ _ h => h.post (fun _ _ => FV.inj))
  go_simp
  have CT := qof (IntKind.i64.wrap ((t.m.at li) : Int)) w' (by rw [HEW.out]; omega) (by rw [HEW.out]; omega)
  rw [show ((IntKind.i64.wrap ((t.m.at li) : Int) : Int) : Rat) = q101 from Hq101.out.symm] at CT
  refine CT.mono ?_
  rintro e w'' ⟨za, rfl, ho, hb⟩
  exact ⟨_, rfl, ⟨za, rfl, ho.mono hb'.size, ho.blks⟩, hb⟩
 rintro _ ⟨y4, rfl⟩
 conv => arg 10; simp only [Act.put, Go.q0, Go.q1, Go.q2]
 refine Go.FS.wpF_spec rfl rfl rfl (fun w' hw' => ?_) ?_
 ·have hb' := hw'.world
  refine Go.FS.gives_of (Go.FS.PM (fun x : FV => x.v) (fun x w' => DF w' V.heap.size x q102) FV.blk w'.heap.size) ?_ (fun _ _ h => h.post (fun _ _ => FV.inj))
  go_simp
  have f4 := Go.FS.made_of (val := (fun x : FV => x.v)) (Φ := fun x w' => DF w' V.heap.size x q101) (fun _ _ => FV.inj) (hw'.fact 4 (by kernel_rfl))
  have CT := qmul (NF.out.below hb') (LF.up HLNF.out (by decide : _ ≤ 900000)) (f4).k.any (((f4).k).len LQq101.out (by decide : _ ≤ 900000))
  rw [show q * q101 = q102 from Hq102.out.symm] at CT
  refine CT.mono ?_
  rintro e w'' ⟨za, rfl, ho, hb⟩
  exact ⟨_, rfl, ⟨za, rfl, ho.mono hb'.size, ho.blks⟩, hb⟩
 rintro _ ⟨y5, rfl⟩
 conv => arg 10; simp only [Act.put, Go.q0, Go.q1, Go.q2]
 refine Go.FS.wpF_reads rfl rfl rfl ?_ (fun w' hw' => ?_) ?_
 rotate_left
 ·have hb' := hw'.world
  skip
  clear hw'
  go_simp
  try rfl
 conv => arg 10; simp only [Act.put, Go.q0, Go.q1, Go.q2]
 refine Go.FS.wpF_nil (fun w103 hb hF => ?_)
 have N104 := Lib.hid (show DF w103 V.heap.size y5 q102 from (Go.FS.made_of (val := (fun x : FV => x.v)) (Φ := fun x w' => DF w' V.heap.size x q102) (fun _ _ => FV.inj) (hF.all 5)))
 clear hF
 have NF := Lib.hid (NF.out.below hb)
 have B1 := Lib.hid (B1.out.below hb B1.out.lt)
 have B2 := Lib.hid (B2.out.below hb B2.out.lt)
 have BC := Lib.hid (BC.out.below hb BC.out.lt)
 have KG := Lib.hid (KG.out.trans (hb.mono KG.out.size))
 clear hb
 have cB10 := B1.out.cell (i := 0) rfl
 have cB11 := B1.out.cell (i := 1) rfl
 have cB12 := B1.out.cell (i := 2) rfl
 have cB13 := B1.out.cell (i := 3) rfl
 have cB14 := B1.out.cell (i := 4) rfl
 have cB15 := B1.out.cell (i := 5) rfl
 have cB16 := B1.out.cell (i := 6) rfl
 have cB17 := B1.out.cell (i := 7) rfl
 have cB1f := B1.out.fz
 have cB1l := B1.out.lt
 go_upto_region 3 with (fail)
 clear cB10 cB11 cB12 cB13 cB14 cB15 cB16 cB17 cB1f cB1l
 obtain ⟨U, hU⟩ : ∃ U, U = (((w103.setCell ⟨A1, 0, none⟩ (.bool y5.t.s)).setCell ⟨A1, 1, none⟩ (.slice y5.t.a y5.t.n y5.t.c)).setCell ⟨A1, 2, none⟩ (.bool y5.l.s)).setCell ⟨A1, 3, none⟩ (.slice y5.l.a y5.l.n y5.l.c) := ⟨_, rfl⟩
 have HD := Lib.hid (show DF U V.heap.size y5 q102 by rw [hU]; exact ((((N104.out.setBxs B1.out (by decide) 0 _).setBxs (B1.out.put 0 _) (by decide) 1 _).setBxs ((B1.out.put 0 _).put 1 _) (by decide) 2 _).setBxs (((B1.out.put 0 _).put 1 _).put 2 _) (by decide) 3 _))
 have KG := Lib.hid (show Below w.heap.size w U by rw [hU]; exact ((((KG.out.setCell HA1.out _).setCell HA1.out _).setCell HA1.out _).setCell HA1.out _))
 have B2 := Lib.hid (show Bxs U A2 50 [.bool false, .slice none 0 0, .bool false, .slice none 0 0, .int .u16 0, .int .u16 0, .int .u16 0, .int .u16 0] by rw [hU]; exact ((((B2.out.other HN12.out _).other HN12.out _).other HN12.out _).other HN12.out _))
 have BC := Lib.hid (show Bxs U bc 3 [.int .i64 (li : Int)] by rw [hU]; exact ((((BC.out.other HNC.out _).other HNC.out _).other HNC.out _).other HNC.out _))
 have B1 := Lib.hid (show Bxs U A1 50 [.bool y5.t.s, .slice y5.t.a y5.t.n y5.t.c, .bool y5.l.s, .slice y5.l.a y5.l.n y5.l.c, .int .u16 t.m.x, .int .u16 t.m.y, .int .u16 t.m.z, .int .u16 t.m.t] by rw [hU]; exact ((((B1.out.put 0 _).put 1 _).put 2 _).put 3 _))
 rw [← hU]
 clear hU
 have cB10 := B1.out.cell (i := 0) rfl
 have cB11 := B1.out.cell (i := 1) rfl
 have cB12 := B1.out.cell (i := 2) rfl
 have cB13 := B1.out.cell (i := 3) rfl
 have cB14 := B1.out.cell (i := 4) rfl
 have cB15 := B1.out.cell (i := 5) rfl
 have cB16 := B1.out.cell (i := 6) rfl
 have cB17 := B1.out.cell (i := 7) rfl
 have cB1f := B1.out.fz
 have cB1l := B1.out.lt
 have cBL := B1.out.cell (i := 4 + li) (at_cell _ _ _ _ _ HI.out)
 have cc0 := BC.out.cell (i := 0) rfl
 go_upto_region 4 with (fail)
 clear cB10 cB11 cB12 cB13 cB14 cB15 cB16 cB17 cB1f cB1l
 clear cc0 cBL
 obtain ⟨U2, hU2⟩ : ∃ U2, U2 = U.setCell ⟨A1, 4 + li, none⟩ (.int .u16 (((t.m.at li) - 1 : Nat) : Int)) := ⟨_, rfl⟩
 have HD := Lib.hid (show DF U2 V.heap.size y5 q102 by rw [hU2]; exact HD.out.setBxs B1.out (by decide) (4 + li) _)
 have KG := Lib.hid (show Below w.heap.size w U2 by rw [hU2]; exact KG.out.setCell HA1.out _)
 have B2 := Lib.hid (show Bxs U2 A2 50 [.bool false, .slice none 0 0, .bool false, .slice none 0 0, .int .u16 0, .int .u16 0, .int .u16 0, .int .u16 0] by rw [hU2]; exact B2.out.other HN12.out _)
 have B1 := Lib.hid (show Bxs U2 A1 50 [.bool y5.t.s, .slice y5.t.a y5.t.n y5.t.c, .bool y5.l.s, .slice y5.l.a y5.l.n y5.l.c, .int .u16 (t.m.dec li).x, .int .u16 (t.m.dec li).y, .int .u16 (t.m.dec li).z, .int .u16 (t.m.dec li).t] by rw [hU2]; exact put_dec B1.out HI.out)
 rw [← hU2]
 clear hU2
 have cB10 := B1.out.cell (i := 0) rfl
 have cB11 := B1.out.cell (i := 1) rfl
 have cB12 := B1.out.cell (i := 2) rfl
 have cB13 := B1.out.cell (i := 3) rfl
 have cB14 := B1.out.cell (i := 4) rfl
 have cB15 := B1.out.cell (i := 5) rfl
 have cB16 := B1.out.cell (i := 6) rfl
 have cB17 := B1.out.cell (i := 7) rfl
 have cB1f := B1.out.fz
 have cB1l := B1.out.lt
 have cB20 := B2.out.cell (i := 0) rfl
 have cB21 := B2.out.cell (i := 1) rfl
 have cB22 := B2.out.cell (i := 2) rfl
 have cB23 := B2.out.cell (i := 3) rfl
 have cB24 := B2.out.cell (i := 4) rfl
 have cB25 := B2.out.cell (i := 5) rfl
 have cB26 := B2.out.cell (i := 6) rfl
 have cB27 := B2.out.cell (i := 7) rfl
 have cB2f := B2.out.fz
 have cB2l := B2.out.lt
 have HQ := Lib.hid (show q102 = q * ((t.m.at li) : Rat) by rw [Hq102.out, Hq101.out, HEW.out]; rfl)
 have HD2 := Lib.hid (show DF (put8 U2 A2 (.bool y5.t.s) (.slice y5.t.a y5.t.n y5.t.c) (.bool y5.l.s) (.slice y5.l.a y5.l.n y5.l.c) (.int .u16 (t.m.dec li).x) (.int .u16 (t.m.dec li).y) (.int .u16 (t.m.dec li).z) (.int .u16 (t.m.dec li).t)) w.heap.size y5 (q * ((t.m.at li) : Rat)) from by rw [← HQ.out]; exact put8_df (HD.out.mono HSZ.out) B2.out (by decide) ..)
 have HB := Lib.hid (show Below w.heap.size w (put8 U2 A2 (.bool y5.t.s) (.slice y5.t.a y5.t.n y5.t.c) (.bool y5.l.s) (.slice y5.l.a y5.l.n y5.l.c) (.int .u16 (t.m.dec li).x) (.int .u16 (t.m.dec li).y) (.int .u16 (t.m.dec li).z) (.int .u16 (t.m.dec li).t)) from put8_below KG.out HA2.out ..)
 go_wp2_with fail
 exact bodyPost_ret (results_cell rfl _ _ _ _ _ _ _ rfl (put8_bxs B2.out ..) Tryz.underlying50 rfl (by kernel_rfl)) rfl ⟨y5, rfl, HD2.out, HB.out⟩
theorem slope1_any (i : Nat) (hi : i < 4) (t : TV) (q : Rat) (w : World) (af : AF w t.c q) (lf : LF t.c 900000) (bc : Nat) (hc : Bxs w bc 3 [.int .i64 (i : Int)]) (hs : t.m.Small) :
  Calls Tryz.prog 106 #[TV.v t, .pointer (some ⟨bc, 0, none⟩)] w fun en w' => ∃ y : FV, en = .returned (TV.v ⟨y, t.m.dec i⟩) ∧ DF w' w.heap.size y (q * (t.m.at i : Rat)) ∧ Below w.heap.size w w' := by
 exact slope1_i t q w af lf i hi bc hc (at_small hs i)
theorem dec_small {m : Mo} (h : m.Small) (i : Nat) : (m.dec i).Small := by
 obtain ⟨h1, h2, h3, h4⟩ := h
 unfold Mo.dec
 split
 ·exact ⟨by show m.x - 1 ≤ _; omega, h2, h3, h4⟩
 ·split
  ·exact ⟨h1, by show m.y - 1 ≤ _; omega, h3, h4⟩
  ·split
   ·exact ⟨h1, h2, by show m.z - 1 ≤ _; omega, h4⟩
   ·exact ⟨h1, h2, h3, by show m.t - 1 ≤ _; omega⟩
theorem lq_at {m : Mo} (h : m.Small) (i : Nat) {q : Rat} {k : Nat} (hq : LQ q k) : LQ (q * (m.at i : Rat)) (k + 3) := by
 have h1 := at_small h i
 have h2 : LQ (((m.at i : Nat) : Int) : Rat) 3 := LQ.int (by omega) (by omega)
 exact (hq.ls.mul h2.ls).lq (Nat.le_refl _) (Nat.le_refl _)
set_option maxRecDepth 100000 in
set_option maxHeartbeats 4000000 in
theorem slope_k (i : Nat) (hi : i < 4) (x : PV) (P : List Tm) (k : Nat) (w : World) (hx : KP w x P) (hp : ∀ t ∈ P, LQ t.2 k) (hn : P.length ≤ 1000000) (hk : P.length * (k + 4) ≤ 900000) (hk9 : k ≤ 900000) :
  Calls Tryz.prog 71 #[x.v, .int .i64 (i : Int)] w fun e w' => ∃ y : PV, e = .returned (.tuple #[y.v, .int .i64 0]) ∧ DP w' w.heap.size y (slopeP P i) ∧ Below w.heap.size w w' := by
 have B1 := Lib.hid (Bxs.new w 3 [.int .i64 (i : Int)])
 obtain ⟨V, hV⟩ : ∃ V, V = w.alloc (.cells #[.int .i64 (i : Int)] 3) := ⟨_, rfl⟩
 have hbV : Below w.heap.size w V := by rw [hV]; exact (Below.refl _ _).alloc (Nat.le_refl _) _
 have B1 := Lib.hid (show Bxs V w.heap.size 3 [.int .i64 (i : Int)] by rw [hV]; exact B1.out)
 have hxl := hx.len
 have CK := Lib.hid (check_k (hx.below hbV) (fun t ht => (hp t ht).up hk9) (by omega))
 have HX := Lib.hid hx; have HP := Lib.hid hp; have HN := Lib.hid hn; have HK := Lib.hid hk; have HI := Lib.hid hi; have HK9 := Lib.hid hk9
 have HXL := Lib.hid hxl
 have KG := Lib.hid hbV
 have HV := Lib.hid hV
 have h1 : ¬ ((i : Int) < 0) := by omega
 have h2 : ¬ ((4 : Int) ≤ (i : Int)) := by omega
 have h3 : ¬ ((i : Int) ≥ 4) := by omega
 obtain ⟨xa, xn, xc⟩ := x
 clear hV hbV hx hp hn hk hi hxl hk9
 change Calls Tryz.prog 71 #[.slice xa xn xc, .int .i64 (i : Int)] w _
 go_enter Tryz.func71, Tryz.ntmps71
 go_upto_region 1 with (fail)
 rw [show w.alloc (.cells #[.int .i64 (i : Int)] 3) = V from HV.out.symm]
 have c0 := B1.out.cell (i := 0) rfl
 go_wp2_with fail
 with_reducible refine CK.out.mono ?_
 rintro e w1 ⟨rfl, hb⟩
 have KG := Lib.hid (KG.out.trans (hb.mono KG.out.size))
 have B1 := Lib.hid (B1.out.below hb B1.out.lt)
 clear hb CK c0
 have c0 := B1.out.cell (i := 0) rfl
 obtain ⟨L, hR, hK, hLP⟩ := (HX.out.below KG.out).rowA (fun t ht => (HP.out t ht).up HK9.out)
 have hl : L.length = P.length := by rw [← hLP, List.length_map]
 have hmem : ∀ e ∈ L, tm e ∈ P := fun e he => by rw [← hLP]; exact List.mem_map_of_mem he
 have WT := Lib.hid (with_any 106 #[.pointer (some ⟨w.heap.size, 0, none⟩)] ⟨xa, xn, xc⟩ L (fun e => (e.1.m.dec i, e.2 * (e.1.m.at i : Rat))) (k + 3) w1 hR (by rw [hl]; exact HN.out)
  (by rw [hl]; exact HK.out) (fun _ _ => by kernel_rfl)
  (fun e he w2 hb2 ha hl2 => slope1_any i HI.out e.1 e.2 w2 ha hl2 w.heap.size (B1.out.below hb2 B1.out.lt) (HX.out.small _ (hmem e he)))
  (fun e he => dec_small (HX.out.small _ (hmem e he)) i) (fun e he => lq_at (HX.out.small _ (hmem e he)) i (HP.out _ (hmem e he))))
 have HL := Lib.hid hLP
 clear hR hK hLP hl hmem
 go_wp2_with fail
 with_reducible refine WT.out.mono ?_
 rintro e w2 ⟨y, rfl, hy, hb2⟩
 have HY := Lib.hid hy
 have HB2 := Lib.hid hb2
 clear hy hb2 WT c0
 go_wp2_with fail
 go_ret2
 refine ⟨y, rfl, ?_, KG.out.trans (HB2.out.mono KG.out.size)⟩
 have e1 : slopeP P i = nf (L.map fun e => (e.1.m.dec i, e.2 * (e.1.m.at i : Rat))) := by
  unfold slopeP slopeL
  rw [← HL.out, List.map_map]
  rfl
 rw [e1]
 exact HY.out.mono KG.out.size
def moF (m : Mo) : Nat → Int := fun i => ((m.at i : Nat) : Int)
theorem moF_small {m : Mo} (h : m.Small) : Mono.Small (moF m) := fun i _ => ⟨Int.natCast_nonneg _, by have := at_small h i; unfold moF; omega⟩
def keyO (o : Int) (m : Mo) : Int := Mono.KO o (moF m)
theorem cmpZ_dec {a b : Int} : Mono.cmpZ a b > 0 ↔ b < a := by
 rcases Int.lt_trichotomy a b with h | h | h
 ·rw [Mono.cmpZ_lt h]; omega
 ·rw [Mono.cmpZ_eq h]; omega
 ·rw [Mono.cmpZ_gt h]; omega
set_option maxRecDepth 100000 in
set_option maxHeartbeats 16000000 in
theorem max_any (G : Nat) (cs : Array Value) (x : PV) (ts : List TV) (K : Mo → Int) (w : World) (hr : RT w x.a ts) (hl : ts.length = x.n) (hn : x.n ≤ 1000000) (hne : ts ≠ []) (hs : ∀ t ∈ ts, t.m.Small)
  (hcf : ∀ (args : Array Value) (w : World), (callFunc G args).run Tryz.prog w = .ok (.enter G args) w)
  (hF : ∀ t u : TV, t.m.Small → u.m.Small → ∀ w1, Below w.heap.size w w1 → Calls Tryz.prog G (#[TV.v t, TV.v u] ++ cs) w1 fun e w' => e = .returned (.int .i64 (Mono.cmpZ (K t.m) (K u.m))) ∧ Below w1.heap.size w1 w') :
  Calls Tryz.prog 63 #[x.v, .func (.func G) #[] cs] w fun e w' => ∃ t, t ∈ ts ∧ (∀ u ∈ ts, K u.m ≤ K t.m) ∧ e = .returned (TV.v t) ∧ Below w.heap.size w w' := by
 obtain ⟨xa, xn, xc⟩ := x
 change Calls Tryz.prog 63 #[.slice xa xn xc, .func (.func G) #[] cs] w _
 have HL := Lib.hid (show ts.length = xn from hl); have HN := Lib.hid (show xn ≤ 1000000 from hn); have HS := Lib.hid hs; have HF := Lib.hid hF
 obtain ⟨pb, po, rfl, hc⟩ := RT.one hr hne
 have HE := Lib.hid hc
 have HP := Lib.hid (show 0 < xn by rw [← HL.out]; exact List.length_pos_iff.2 hne)
 obtain ⟨t0, ht0⟩ : ∃ t, ts[0]? = some t := ⟨_, List.getElem?_eq_getElem (List.length_pos_iff.2 hne)⟩
 have HT0 := Lib.hid ht0
 have h1 : ¬ ((xn : Int) < 1) := by have := HP.out; omega
 obtain ⟨V, hV⟩ : ∃ V, V = w.alloc (.cells #[.bool false, .slice none 0 0, .bool false, .slice none 0 0, .int .u16 0, .int .u16 0, .int .u16 0, .int .u16 0] 50) := ⟨_, rfl⟩
 have hbV : Below w.heap.size w V := by rw [hV]; exact (Below.refl _ _).alloc (Nat.le_refl _) _
 have B4 := Lib.hid (show Bxs V w.heap.size 50 [.bool false, .slice none 0 0, .bool false, .slice none 0 0, .int .u16 0, .int .u16 0, .int .u16 0, .int .u16 0] by rw [hV]; exact Bxs.new w 50 [.bool false, .slice none 0 0, .bool false, .slice none 0 0, .int .u16 0, .int .u16 0, .int .u16 0, .int .u16 0])
 have E0 := Lib.hid ((hc 0 t0 ht0).below hbV)
 have KG := Lib.hid hbV
 have HV := Lib.hid hV
 have HP0 : (0 : Int) < (xn : Int) := by have := HP.out; omega
 clear hr hl hn hs hF hc ht0 hV hbV
 go_enter Tryz.func63, Tryz.ntmps63
 go_upto_region 1 with (fail)
 rw [show w.alloc (.cells #[.bool false, .slice none 0 0, .bool false, .slice none 0 0, .int .u16 0, .int .u16 0, .int .u16 0, .int .u16 0] 50) = V from HV.out.symm]
 obtain ⟨c0, c1, c2, c3, c4, c5, c6, c7⟩ := E0.out.eight
 simp only [Nat.zero_mul, Nat.add_zero] at c0 c1 c2 c3 c4 c5 c6 c7
 go_upto_region 4 with (fail)
 obtain ⟨U, hU⟩ : ∃ U, U = V.alloc (.cells #[.bool t0.c.t.s, .slice t0.c.t.a t0.c.t.n t0.c.t.c, .bool t0.c.l.s, .slice t0.c.l.a t0.c.l.n t0.c.l.c, .int .u16 t0.m.x, .int .u16 t0.m.y, .int .u16 t0.m.z, .int .u16 t0.m.t] 50) := ⟨_, rfl⟩
 have hbU : Below V.heap.size V U := by rw [hU]; exact (Below.refl _ _).alloc (Nat.le_refl _) _
 have B5 := Lib.hid (show Bxs U V.heap.size 50 [.bool t0.c.t.s, .slice t0.c.t.a t0.c.t.n t0.c.t.c, .bool t0.c.l.s, .slice t0.c.l.a t0.c.l.n t0.c.l.c, .int .u16 t0.m.x, .int .u16 t0.m.y, .int .u16 t0.m.z, .int .u16 t0.m.t] by rw [hU]; exact Bxs.new V 50 [.bool t0.c.t.s, .slice t0.c.t.a t0.c.t.n t0.c.t.c, .bool t0.c.l.s, .slice t0.c.l.a t0.c.l.n t0.c.l.c, .int .u16 t0.m.x, .int .u16 t0.m.y, .int .u16 t0.m.z, .int .u16 t0.m.t])
 obtain ⟨A1, hA1⟩ : ∃ A, A = w.heap.size := ⟨_, rfl⟩
 obtain ⟨A2, hA2⟩ : ∃ A, A = V.heap.size := ⟨_, rfl⟩
 have HA1 := Lib.hid (show w.heap.size ≤ A1 by omega)
 have HA2 := Lib.hid (show w.heap.size ≤ A2 by rw [hA2]; exact KG.out.size)
 have HNE := Lib.hid (show A1 ≠ A2 by have := B4.out.lt; omega)
 have B4 := Lib.hid (B4.out.below hbU B4.out.lt)
 have KG := Lib.hid (KG.out.trans (hbU.mono KG.out.size))
 rw [← hU, ← hA2, ← hA1]
 rw [← hA2] at B5
 rw [← hA1] at B4
 clear hU hbU hA1 hA2 c0 c1 c2 c3 c4 c5 c6 c7 h1 HP0
 go_wp2_with fail
 go_loopw [6] (fun i wr => ∃ (j : Nat) (t : TV), 1 ≤ j ∧ j ≤ xn ∧ i = .int .i64 j ∧ t ∈ ts ∧ (∀ i u, ts[i]? = some u → i < j → K u.m ≤ K t.m) ∧ Bxs wr A2 50 [.bool t.c.t.s, .slice t.c.t.a t.c.t.n t.c.t.c, .bool t.c.l.s, .slice t.c.l.a t.c.l.n t.c.l.c, .int .u16 t.m.x, .int .u16 t.m.y, .int .u16 t.m.z, .int .u16 t.m.t] ∧ Bxs wr A1 50 [.bool false, .slice none 0 0, .bool false, .slice none 0 0, .int .u16 0, .int .u16 0, .int .u16 0, .int .u16 0] ∧ Below w.heap.size w wr) (fun i _ => xn - (intOf i).toNat)
 case atStart =>
  refine ⟨1, t0, Nat.le_refl _, HP.out, rfl, List.mem_of_getElem? HT0.out, fun i u h1 h2 => ?_, B5.out, B4.out, KG.out⟩
  obtain rfl : i = 0 := by omega
  rw [HT0.out] at h1
  obtain rfl := Option.some.inj h1
  exact Int.le_refl _
 case round =>
  obtain ⟨j, t, hj1, hj, rfl, hmem, hmax, hB5, hB4, hb0⟩ := hrel
  have HJ1 := Lib.hid hj1; have HJ := Lib.hid hj; have HME := Lib.hid hmem; have HMX := Lib.hid hmax; have B5 := Lib.hid hB5; have B4 := Lib.hid hB4; have KG := Lib.hid hb0
  clear hj1 hj hmem hmax hB5 hB4 hb0
  by_cases hjn : j < xn
  ·have HJN := Lib.hid hjn
   obtain ⟨u, hu⟩ : ∃ u, ts[j]? = some u := ⟨_, List.getElem?_eq_getElem (by rw [HL.out]; exact hjn)⟩
   have HU := Lib.hid hu
   have E1 := Lib.hid ((HE.out j u hu).below KG.out)
   have HST := Lib.hid (HS.out t HME.out)
   have HSU := Lib.hid (HS.out u (List.mem_of_getElem? hu))
   obtain ⟨cv, hcv⟩ : ∃ c, c = Mono.cmpZ (K u.m) (K t.m) := ⟨_, rfl⟩
   have HCV := Lib.hid hcv
   have ek : IntKind.i64.wrap ((j : Int) + 1) = (j : Int) + 1 := IntWalk.i64_in _ (by have := HJN.out; have := HN.out; omega)
   clear hu hcv
   go_upto_region 7 with (fail)
   refine Go.FS.wp_region_fresh 7 [] (Go.FS.spOf [(6, Go.FS.Sp.know (.int .i64 cv))])
    (fun w' => Below wr.heap.size wr w') (by kernel_rfl) (by kernel_rfl) (by kernel_rfl)
    (Go.FS.spOf_cons (Go.FS.Sp.know_keeps _ _) (Go.FS.spOf_nil)) (fun _ _ h hb => h.trans (hb.mono h.size)) ((Below.refl _ _).drew) ?_
   simp only [List.append_eq, List.cons_append, List.nil_append, List.take_succ_cons, List.take_zero, List.drop_succ_cons, List.drop_zero]
   iterate 4
    refine Go.FS.wpF_reads rfl rfl rfl ?_ (fun w' hw' => ?_) ?_
    rotate_left
    ·have hb' := hw'.world
     skip
     clear hw'
     go_simp
     try rfl
    conv => arg 10; simp only [Act.put, Go.q0, Go.q1, Go.q2]
   refine Go.FS.wpF_reads rfl rfl rfl ?_ (fun w' hw' => ?_) ?_
   rotate_left
   ·have hb' := hw'.world
    obtain ⟨hs0, hs1, hs2, hs3, hs4, hs5, hs6, hs7⟩ := (E1.out.below hb').eight
    clear hw'
    go_simp
    try rfl
   conv => arg 10; simp only [Act.put, Go.q0, Go.q1, Go.q2]
   refine Go.FS.wpF_reads rfl rfl rfl ?_ (fun w' hw' => ?_) ?_
   rotate_left
   ·have hb' := hw'.world
    have hs0 := (B5.out.below hb' B5.out.lt).cell (i := 0) rfl
    have hs1 := (B5.out.below hb' B5.out.lt).cell (i := 1) rfl
    have hs2 := (B5.out.below hb' B5.out.lt).cell (i := 2) rfl
    have hs3 := (B5.out.below hb' B5.out.lt).cell (i := 3) rfl
    have hs4 := (B5.out.below hb' B5.out.lt).cell (i := 4) rfl
    have hs5 := (B5.out.below hb' B5.out.lt).cell (i := 5) rfl
    have hs6 := (B5.out.below hb' B5.out.lt).cell (i := 6) rfl
    have hs7 := (B5.out.below hb' B5.out.lt).cell (i := 7) rfl
    have hsf := (B5.out.below hb' B5.out.lt).fz
    have hsl := (B5.out.below hb' B5.out.lt).lt
    clear hw'
    go_simp
    try rfl
   conv => arg 10; simp only [Act.put, Go.q0, Go.q1, Go.q2]
   refine Go.FS.wpF_spec rfl rfl rfl (fun w' hw' => ?_) ?_
   ·have hb' := hw'.world
    refine Go.FS.gives_of (Go.FS.PK (.int .i64 cv)) ?_ (fun _ _ h => h.post)
    go_simp
    have CT := HF.out u t HSU.out HST.out w' (KG.out.trans (hb'.mono KG.out.size))
    rw [show Mono.cmpZ (K u.m) (K t.m) = cv from HCV.out.symm] at CT
    refine CT.mono ?_
    rintro e w'' ⟨rfl, hb⟩
    exact ⟨_, rfl, rfl, hb⟩
   rintro _ rfl
   conv => arg 10; simp only [Act.put, Go.q0, Go.q1, Go.q2]
   refine Go.FS.wpF_nil (fun w101 hb hF => ?_)
   clear hF
   have B5 := Lib.hid (B5.out.below hb B5.out.lt)
   have B4 := Lib.hid (B4.out.below hb B4.out.lt)
   have KG := Lib.hid (KG.out.trans (hb.mono KG.out.size))
   clear hb
   by_cases hcp : cv > 0
   ·have hcq : 0 < cv := hcp
    have HCP := Lib.hid hcp
    have E1 := Lib.hid ((HE.out j u HU.out).below KG.out)
    obtain ⟨c0, c1, c2, c3, c4, c5, c6, c7⟩ := E1.out.eight
    have cf := B5.out.fz
    have cl := B5.out.lt
    have c50 := B5.out.cell (i := 0) rfl
    have c51 := B5.out.cell (i := 1) rfl
    have c52 := B5.out.cell (i := 2) rfl
    have c53 := B5.out.cell (i := 3) rfl
    have c54 := B5.out.cell (i := 4) rfl
    have c55 := B5.out.cell (i := 5) rfl
    have c56 := B5.out.cell (i := 6) rfl
    have c57 := B5.out.cell (i := 7) rfl
    go_wp2_with fail
    go_roundw
    case rel =>
     refine ⟨j + 1, u, by omega, by have := HJN.out; omega, rfl, List.mem_of_getElem? HU.out, fun i v h1 h2 => ?_, put8_bxs B5.out .., ?_, put8_below KG.out HA2.out ..⟩
     ·have h3 : K t.m < K u.m := cmpZ_dec.1 (by rw [← HCV.out]; exact HCP.out)
      by_cases h4 : i < j
      ·have := HMX.out i v h1 h4; omega
      ·obtain rfl : i = j := by omega
       rw [HU.out] at h1
       obtain rfl := Option.some.inj h1
       exact Int.le_refl _
     ·exact ((((((((B4.out.other HNE.out _).other HNE.out _).other HNE.out _).other HNE.out _).other HNE.out _).other HNE.out _).other HNE.out _).other HNE.out _)
    case measure => simp [intOf]; have := HJN.out; omega
   ·have hcq : ¬ (0 < cv) := hcp
    have HCP := Lib.hid hcp
    go_wp2_with fail
    go_roundw
    case rel =>
     refine ⟨j + 1, t, by omega, by have := HJN.out; omega, rfl, HME.out, fun i v h1 h2 => ?_, B5.out, B4.out, KG.out⟩
     by_cases h4 : i < j
     ·exact HMX.out i v h1 h4
     ·obtain rfl : i = j := by omega
      rw [HU.out] at h1
      obtain rfl := Option.some.inj h1
      have h3 : ¬ (K t.m < K u.m) := fun h => HCP.out (by rw [HCV.out]; exact cmpZ_dec.2 h)
      omega
    case measure => simp [intOf]; have := HJN.out; omega
  ·have hge : ¬ ((j : Int) < (xn : Int)) := by omega
   have HJE := Lib.hid (show j = xn by have := HJ.out; omega)
   clear hjn
   have c0 := B5.out.cell (i := 0) rfl
   have c1 := B5.out.cell (i := 1) rfl
   have c2 := B5.out.cell (i := 2) rfl
   have c3 := B5.out.cell (i := 3) rfl
   have c4 := B5.out.cell (i := 4) rfl
   have c5 := B5.out.cell (i := 5) rfl
   have c6 := B5.out.cell (i := 6) rfl
   have c7 := B5.out.cell (i := 7) rfl
   have cf := B4.out.fz
   have cl := B4.out.lt
   have c40 := B4.out.cell (i := 0) rfl
   have c41 := B4.out.cell (i := 1) rfl
   have c42 := B4.out.cell (i := 2) rfl
   have c43 := B4.out.cell (i := 3) rfl
   have c44 := B4.out.cell (i := 4) rfl
   have c45 := B4.out.cell (i := 5) rfl
   have c46 := B4.out.cell (i := 6) rfl
   have c47 := B4.out.cell (i := 7) rfl
   go_wp2_with fail
   refine bodyPost_ret (results_cell rfl _ _ _ _ _ _ _ rfl (put8_bxs B4.out ..) Tryz.underlying50 rfl (by kernel_rfl)) rfl ⟨t, HME.out, fun u hu => ?_, rfl, put8_below KG.out HA1.out ..⟩
   obtain ⟨i, h⟩ := List.mem_iff_getElem?.1 hu
   exact HMX.out i u h (by have h8 := (List.getElem?_eq_some_iff.1 h).1; have h5 := HL.out; have h9 := HJE.out; omega)
set_option maxRecDepth 100000 in
set_option maxHeartbeats 4000000 in
theorem lead1_any (o : Int) (t u : TV) (w : World) (bo : Nat) (hb : Bxs w bo 44 [.int .u8 o]) (ht : t.m.Small) (hu : u.m.Small) :
  Calls Tryz.prog 64 #[TV.v t, TV.v u, .pointer (some ⟨bo, 0, none⟩)] w fun e w' => e = .returned (.int .i64 (Mono.cmpZ (keyO o t.m) (keyO o u.m))) ∧ Below w.heap.size w w' := by
 obtain ⟨V, hV⟩ : ∃ V, V = (w.alloc (.cells #[.bool t.c.t.s, .slice t.c.t.a t.c.t.n t.c.t.c, .bool t.c.l.s, .slice t.c.l.a t.c.l.n t.c.l.c, .int .u16 t.m.x, .int .u16 t.m.y, .int .u16 t.m.z, .int .u16 t.m.t] 50)).alloc (.cells #[.bool u.c.t.s, .slice u.c.t.a u.c.t.n u.c.t.c, .bool u.c.l.s, .slice u.c.l.a u.c.l.n u.c.l.c, .int .u16 u.m.x, .int .u16 u.m.y, .int .u16 u.m.z, .int .u16 u.m.t] 50) := ⟨_, rfl⟩
 have hbV : Below w.heap.size w V := by rw [hV]; exact ((Below.refl _ _).alloc (Nat.le_refl _) _).alloc (by go_size) _
 have B1 := Lib.hid (show Bxs V w.heap.size 50 [.bool t.c.t.s, .slice t.c.t.a t.c.t.n t.c.t.c, .bool t.c.l.s, .slice t.c.l.a t.c.l.n t.c.l.c, .int .u16 t.m.x, .int .u16 t.m.y, .int .u16 t.m.z, .int .u16 t.m.t] by rw [hV]; exact (Bxs.new w 50 [.bool t.c.t.s, .slice t.c.t.a t.c.t.n t.c.t.c, .bool t.c.l.s, .slice t.c.l.a t.c.l.n t.c.l.c, .int .u16 t.m.x, .int .u16 t.m.y, .int .u16 t.m.z, .int .u16 t.m.t]).alloc _)
 have B2 := Lib.hid (show Bxs V (w.heap.size + 1) 50 [.bool u.c.t.s, .slice u.c.t.a u.c.t.n u.c.t.c, .bool u.c.l.s, .slice u.c.l.a u.c.l.n u.c.l.c, .int .u16 u.m.x, .int .u16 u.m.y, .int .u16 u.m.z, .int .u16 u.m.t] by
  have h := Bxs.new (w.alloc (.cells #[.bool t.c.t.s, .slice t.c.t.a t.c.t.n t.c.t.c, .bool t.c.l.s, .slice t.c.l.a t.c.l.n t.c.l.c, .int .u16 t.m.x, .int .u16 t.m.y, .int .u16 t.m.z, .int .u16 t.m.t] 50)) 50 [.bool u.c.t.s, .slice u.c.t.a u.c.t.n u.c.t.c, .bool u.c.l.s, .slice u.c.l.a u.c.l.n u.c.l.c, .int .u16 u.m.x, .int .u16 u.m.y, .int .u16 u.m.z, .int .u16 u.m.t]
  rw [World.size_alloc] at h
  rw [hV]; exact h)
 have BO := Lib.hid (hb.below hbV hb.lt)
 have KG := Lib.hid hbV
 have HV := Lib.hid hV
 have CM := Lib.hid (show Calls Tryz.prog 65 #[.int .u8 o, Mo.v t.m, Mo.v u.m] V _ from Mono.cmp_any o (moF t.m) (moF u.m) V (moF_small ht) (moF_small hu))
 have HK := Lib.hid (Mono.cmp_key (o := o) (moF_small ht) (moF_small hu))
 clear hV hbV hb ht hu
 change Calls Tryz.prog 64 #[.agg #[.bool t.c.t.s, .slice t.c.t.a t.c.t.n t.c.t.c, .bool t.c.l.s, .slice t.c.l.a t.c.l.n t.c.l.c, .int .u16 t.m.x, .int .u16 t.m.y, .int .u16 t.m.z, .int .u16 t.m.t], .agg #[.bool u.c.t.s, .slice u.c.t.a u.c.t.n u.c.t.c, .bool u.c.l.s, .slice u.c.l.a u.c.l.n u.c.l.c, .int .u16 u.m.x, .int .u16 u.m.y, .int .u16 u.m.z, .int .u16 u.m.t], .pointer (some ⟨bo, 0, none⟩)] w _
 go_enter Tryz.func64, Tryz.ntmps64
 go_upto_region 1 with (fail)
 rw [show (w.alloc (.cells #[.bool t.c.t.s, .slice t.c.t.a t.c.t.n t.c.t.c, .bool t.c.l.s, .slice t.c.l.a t.c.l.n t.c.l.c, .int .u16 t.m.x, .int .u16 t.m.y, .int .u16 t.m.z, .int .u16 t.m.t] 50)).alloc (.cells #[.bool u.c.t.s, .slice u.c.t.a u.c.t.n u.c.t.c, .bool u.c.l.s, .slice u.c.l.a u.c.l.n u.c.l.c, .int .u16 u.m.x, .int .u16 u.m.y, .int .u16 u.m.z, .int .u16 u.m.t] 50) = V from HV.out.symm]
 have c10 := B1.out.cell (i := 0) rfl
 have c11 := B1.out.cell (i := 1) rfl
 have c12 := B1.out.cell (i := 2) rfl
 have c13 := B1.out.cell (i := 3) rfl
 have c14 := B1.out.cell (i := 4) rfl
 have c15 := B1.out.cell (i := 5) rfl
 have c16 := B1.out.cell (i := 6) rfl
 have c17 := B1.out.cell (i := 7) rfl
 have c20 := B2.out.cell (i := 0) rfl
 have c21 := B2.out.cell (i := 1) rfl
 have c22 := B2.out.cell (i := 2) rfl
 have c23 := B2.out.cell (i := 3) rfl
 have c24 := B2.out.cell (i := 4) rfl
 have c25 := B2.out.cell (i := 5) rfl
 have c26 := B2.out.cell (i := 6) rfl
 have c27 := B2.out.cell (i := 7) rfl
 have co := BO.out.cell (i := 0) rfl
 go_wp2_with fail
 with_reducible refine CM.out.mono ?_
 rintro e w1 ⟨rfl, hb⟩
 have KG := Lib.hid (KG.out.trans (hb.mono KG.out.size))
 clear hb CM c10 c11 c12 c13 c14 c15 c16 c17 c20 c21 c22 c23 c24 c25 c26 c27 co
 go_wp2_with fail
 go_ret
 refine ⟨?_, KG.out⟩
 rw [HK.out]
 rfl
set_option maxRecDepth 100000 in
set_option maxHeartbeats 16000000 in
theorem lead_k (o : Int) (x : PV) (P : List Tm) (w : World) (hx : AP w x P) (hp : ∀ t ∈ P, LQ t.2 900000) (hn : x.n ≤ 1000000) (hne : P ≠ []) :
  Calls Tryz.prog 22 #[.int .u8 o, x.v] w fun e w' => ∃ (y : FV) (t : Tm), e = .returned (.tuple #[TV.v ⟨y, t.1⟩, .bool true]) ∧ DF w' w.heap.size y t.2 ∧ Lead (keyO o) P t ∧ Below w.heap.size w w' := by
 obtain ⟨V0, hV⟩ : ∃ V, V = (w.alloc (.cells #[.int .u8 o] 44)).alloc (.cells #[.bool false, .slice none 0 0, .bool false, .slice none 0 0, .int .u16 0, .int .u16 0, .int .u16 0, .int .u16 0] 50) := ⟨_, rfl⟩
 have hbV : Below w.heap.size w V0 := by rw [hV]; exact ((Below.refl _ _).alloc (Nat.le_refl _) _).alloc (by go_size) _
 have BO := Lib.hid (show Bxs V0 w.heap.size 44 [.int .u8 o] by rw [hV]; exact (Bxs.new w 44 [.int .u8 o]).alloc _)
 have B4 := Lib.hid (show Bxs V0 (w.heap.size + 1) 50 [.bool false, .slice none 0 0, .bool false, .slice none 0 0, .int .u16 0, .int .u16 0, .int .u16 0, .int .u16 0] by
  have h := Bxs.new (w.alloc (.cells #[.int .u8 o] 44)) 50 [.bool false, .slice none 0 0, .bool false, .slice none 0 0, .int .u16 0, .int .u16 0, .int .u16 0, .int .u16 0]
  rw [World.size_alloc] at h
  rw [hV]; exact h)
 have OF := Lib.hid (of_at hx hbV hp (by omega))
 have HP := Lib.hid hp; have HN := Lib.hid hn; have HNE := Lib.hid hne
 have KG := Lib.hid hbV
 have HV := Lib.hid hV
 obtain ⟨A4, hA4⟩ : ∃ A, A = w.heap.size + 1 := ⟨_, rfl⟩
 have HA4 := Lib.hid (show w.heap.size ≤ A4 by omega)
 rw [← hA4] at B4
 have HA5 := Lib.hid hA4
 obtain ⟨xa, xn, xc⟩ := x
 change Calls Tryz.prog 22 #[.int .u8 o, .slice xa xn xc] w _
 clear hV hbV hx hp hn hne hA4
 go_enter Tryz.func22, Tryz.ntmps22
 go_upto_region 1 with (fail)
 rw [show (w.alloc (.cells #[.int .u8 o] 44)).alloc (.cells #[.bool false, .slice none 0 0, .bool false, .slice none 0 0, .int .u16 0, .int .u16 0, .int .u16 0, .int .u16 0] 50) = V0 from HV.out.symm, show w.heap.size + 1 = A4 from HA5.out.symm]
 go_wp2_with fail
 with_reducible refine OF.out.mono ?_
 rintro e w1 ⟨⟨pa, pn, pc⟩, he, hkp, hpn, hb⟩
 obtain rfl : e = .returned (.slice pa pn pc) := he
 have BO := Lib.hid (BO.out.below hb BO.out.lt)
 have B4 := Lib.hid (B4.out.below hb B4.out.lt)
 have KG := Lib.hid (KG.out.trans (hb.mono KG.out.size))
 have HX := Lib.hid hkp
 obtain ⟨L, g1, g2, g3, g4⟩ := hkp.ex
 have g2 : L.length = pn := g2
 have hlne : L ≠ [] := fun h => HNE.out (by rw [← g4, h]; rfl)
 have hne2 : L.map Prod.fst ≠ [] := fun h => hlne (List.map_eq_nil_iff.1 h)
 have h0 : ¬ ((pn : Int) = 0) := by have := List.length_pos_iff.2 hlne; omega
 have T1 := Lib.hid g4; have F1 := Lib.hid g3
 have hcf : ∀ (args : Array Value) (w : World), (callFunc 64 args).run Tryz.prog w = .ok (.enter 64 args) w := fun _ _ => by kernel_rfl
 have MX := Lib.hid (max_any 64 #[.pointer (some ⟨w.heap.size, 0, none⟩)] ⟨pa, pn, pc⟩ (L.map Prod.fst) (keyO o) w1 (g1.below KG.out) (by rw [List.length_map]; exact g2) (Nat.le_trans hpn HN.out) hne2
  (fun t ht => by
   obtain ⟨e, he, rfl⟩ := List.mem_map.1 ht
   exact HX.out.small (tm e) (by rw [← g4]; exact List.mem_map_of_mem he))
  hcf (fun t u ht hu w2 hb2 => lead1_any o t u w2 w.heap.size (BO.out.below hb2 BO.out.lt) ht hu))
 clear hkp hpn hb g1 g2 g3 g4 OF hlne hne2 hcf
 go_wp2_with fail
 with_reducible refine MX.out.mono ?_
 rintro e w2 ⟨t, htm, htx, rfl, hb⟩
 have B4 := Lib.hid (B4.out.below hb B4.out.lt)
 have KG := Lib.hid (KG.out.trans (hb.mono KG.out.size))
 obtain ⟨⟨t', q⟩, he, e1⟩ := List.mem_map.1 htm
 obtain rfl : t' = t := e1
 have hmem : (t'.m, q) ∈ P := by rw [← T1.out]; exact List.mem_map_of_mem he
 have HLD := Lib.hid (show Lead (keyO o) P (t'.m, q) from ⟨hmem, fun s hs => by
  rw [← T1.out] at hs
  obtain ⟨e, he, rfl⟩ := List.mem_map.1 hs
  exact htx e.1 (List.mem_map_of_mem he)⟩)
 have LQq := Lib.hid (HP.out _ hmem)
 have NT0 := Lib.hid (F1.out _ he)
 obtain ⟨t, ht⟩ : ∃ t, t = t' := ⟨_, rfl⟩
 rw [← ht] at HLD NT0 ⊢
 clear htm htx hb he hmem MX ht h0
 have c40 := B4.out.cell (i := 0) rfl
 have c41 := B4.out.cell (i := 1) rfl
 have c42 := B4.out.cell (i := 2) rfl
 have c43 := B4.out.cell (i := 3) rfl
 have c44 := B4.out.cell (i := 4) rfl
 have c45 := B4.out.cell (i := 5) rfl
 have c46 := B4.out.cell (i := 6) rfl
 have c47 := B4.out.cell (i := 7) rfl
 have c4f := B4.out.fz
 have c4l := B4.out.lt
 go_upto_region 5 with (fail)
 clear c40 c41 c42 c43 c44 c45 c46 c47 c4f c4l
 obtain ⟨V, hV⟩ : ∃ V, V = put8 w2 A4 (.bool t.c.t.s) (.slice t.c.t.a t.c.t.n t.c.t.c) (.bool t.c.l.s) (.slice t.c.l.a t.c.l.n t.c.l.c) (.int .u16 t.m.x) (.int .u16 t.m.y) (.int .u16 t.m.z) (.int .u16 t.m.t) := ⟨_, rfl⟩
 have B4 := Lib.hid (show Bxs V A4 50 [.bool t.c.t.s, .slice t.c.t.a t.c.t.n t.c.t.c, .bool t.c.l.s, .slice t.c.l.a t.c.l.n t.c.l.c, .int .u16 t.m.x, .int .u16 t.m.y, .int .u16 t.m.z, .int .u16 t.m.t] by rw [hV]; exact put8_bxs B4.out ..)
 have KG := Lib.hid (show Below w.heap.size w V by rw [hV]; exact put8_below KG.out HA4.out ..)
 unfold put8 at hV
 rw [← hV]
 have NT := Lib.hid (show KF V t.c q from NT0.out.below KG.out)
 have HSZ := Lib.hid (show w.heap.size ≤ V.heap.size from KG.out.size)
 clear hV NT0
 obtain ⟨q101, hq101⟩ : ∃ z : Rat, z = ((1 : Int) : Rat) := ⟨_, rfl⟩
 have Hq101 := Lib.hid hq101
 have LQq101 := Lib.hid (show LQ q101 3 by rw [hq101]; exact LQ.int (by decide) (by decide))
 clear hq101
 obtain ⟨q102, hq102⟩ : ∃ z : Rat, z = q * q101 := ⟨_, rfl⟩
 have Hq102 := Lib.hid hq102
 have LQq102 := Lib.hid (show LQ q102 1800000 by rw [hq102]; exact LQ.mul (LQq.out.up (by decide : _ ≤ 900000)) (LQq101.out.up (by decide : _ ≤ 900000)) (by decide))
 clear hq102
 go_upto_region 5 with (fail)
 refine Go.FS.wp_region_fresh 7 [] (Go.FS.spOf [(2, Go.FS.Sp.made (fun x : FV => x.v) (fun x w' => DF w' V.heap.size x q101) FV.blk), (3, Go.FS.Sp.made (fun x : FV => x.v) (fun x w' => DF w' V.heap.size x q102) FV.blk)])
  (fun w' => Below V.heap.size V w') (by kernel_rfl) (by kernel_rfl) (by kernel_rfl)
  (Go.FS.spOf_cons (Go.FS.Sp.made_keeps _ (fun _ _ _ h _ hk => h.kept hk) (Go.FS.notTaken (by kernel_rfl))) (Go.FS.spOf_cons (Go.FS.Sp.made_keeps _ (fun _ _ _ h _ hk => h.kept hk) (Go.FS.notTaken (by kernel_rfl))) (Go.FS.spOf_nil))) (fun _ _ h hb => h.trans (hb.mono h.size)) ((Below.refl _ _).drew) ?_
 simp only [List.append_eq, List.cons_append, List.nil_append, List.take_succ_cons, List.take_zero, List.drop_succ_cons, List.drop_zero]
 refine Go.FS.wpF_reads rfl rfl rfl ?_ (fun w' hw' => ?_) ?_
 rotate_left
 ·have hb' := hw'.world
  skip
  clear hw'
  go_simp
  try rfl
 conv => arg 10; simp only [Act.put, Go.q0, Go.q1, Go.q2]
 refine Go.FS.wpF_reads rfl rfl rfl ?_ (fun w' hw' => ?_) ?_
 rotate_left
 ·have hb' := hw'.world
  have hs0 := (B4.out.below hb' B4.out.lt).cell (i := 0) rfl
  have hs1 := (B4.out.below hb' B4.out.lt).cell (i := 1) rfl
  have hs2 := (B4.out.below hb' B4.out.lt).cell (i := 2) rfl
  have hs3 := (B4.out.below hb' B4.out.lt).cell (i := 3) rfl
  have hs4 := (B4.out.below hb' B4.out.lt).cell (i := 4) rfl
  have hs5 := (B4.out.below hb' B4.out.lt).cell (i := 5) rfl
  have hs6 := (B4.out.below hb' B4.out.lt).cell (i := 6) rfl
  have hs7 := (B4.out.below hb' B4.out.lt).cell (i := 7) rfl
  have hsf := (B4.out.below hb' B4.out.lt).fz
  have hsl := (B4.out.below hb' B4.out.lt).lt
  clear hw'
  go_simp
  try rfl
 conv => arg 10; simp only [Act.put, Go.q0, Go.q1, Go.q2]
 refine Go.FS.wpF_spec rfl rfl rfl (fun w' hw' => ?_) ?_
 ·have hb' := hw'.world
  refine Go.FS.gives_of (Go.FS.PM (fun x : FV => x.v) (fun x w' => DF w' V.heap.size x q101) FV.blk w'.heap.size) ?_ (fun _ _ h => h.post (fun _ _ => FV.inj))
  go_simp
  have CT := qof 1 w' (by decide) (by decide)
  rw [show ((1 : Int) : Rat) = q101 from Hq101.out.symm] at CT
  refine CT.mono ?_
  rintro e w'' ⟨za, rfl, ho, hb⟩
  exact ⟨_, rfl, ⟨za, rfl, ho.mono hb'.size, ho.blks⟩, hb⟩
 rintro _ ⟨y2, rfl⟩
 conv => arg 10; simp only [Act.put, Go.q0, Go.q1, Go.q2]
 refine Go.FS.wpF_spec rfl rfl rfl (fun w' hw' => ?_) ?_
 ·have hb' := hw'.world
  refine Go.FS.gives_of (Go.FS.PM (fun x : FV => x.v) (fun x w' => DF w' V.heap.size x q102) FV.blk w'.heap.size) ?_ (fun _ _ h => h.post (fun _ _ => FV.inj))
  go_simp
  have f2 := Go.FS.made_of (val := (fun x : FV => x.v)) (Φ := fun x w' => DF w' V.heap.size x q101) (fun _ _ => FV.inj) (hw'.fact 2 (by kernel_rfl))
  have CT := qmul ((NT.out.below hb')).any (((NT.out.below hb')).len LQq.out (by decide : _ ≤ 900000)) (f2).k.any (((f2).k).len LQq101.out (by decide : _ ≤ 900000))
  rw [show q * q101 = q102 from Hq102.out.symm] at CT
  refine CT.mono ?_
  rintro e w'' ⟨za, rfl, ho, hb⟩
  exact ⟨_, rfl, ⟨za, rfl, ho.mono hb'.size, ho.blks⟩, hb⟩
 rintro _ ⟨y3, rfl⟩
 conv => arg 10; simp only [Act.put, Go.q0, Go.q1, Go.q2]
 refine Go.FS.wpF_reads rfl rfl rfl ?_ (fun w' hw' => ?_) ?_
 rotate_left
 ·have hb' := hw'.world
  skip
  clear hw'
  go_simp
  try rfl
 conv => arg 10; simp only [Act.put, Go.q0, Go.q1, Go.q2]
 refine Go.FS.wpF_reads rfl rfl rfl ?_ (fun w' hw' => ?_) ?_
 rotate_left
 ·have hb' := hw'.world
  have hs0 := (B4.out.below hb' B4.out.lt).cell (i := 0) rfl
  have hs1 := (B4.out.below hb' B4.out.lt).cell (i := 1) rfl
  have hs2 := (B4.out.below hb' B4.out.lt).cell (i := 2) rfl
  have hs3 := (B4.out.below hb' B4.out.lt).cell (i := 3) rfl
  have hs4 := (B4.out.below hb' B4.out.lt).cell (i := 4) rfl
  have hs5 := (B4.out.below hb' B4.out.lt).cell (i := 5) rfl
  have hs6 := (B4.out.below hb' B4.out.lt).cell (i := 6) rfl
  have hs7 := (B4.out.below hb' B4.out.lt).cell (i := 7) rfl
  have hsf := (B4.out.below hb' B4.out.lt).fz
  have hsl := (B4.out.below hb' B4.out.lt).lt
  clear hw'
  go_simp
  try rfl
 conv => arg 10; simp only [Act.put, Go.q0, Go.q1, Go.q2]
 refine Go.FS.wpF_reads rfl rfl rfl ?_ (fun w' hw' => ?_) ?_
 rotate_left
 ·have hb' := hw'.world
  skip
  clear hw'
  go_simp
  try rfl
 conv => arg 10; simp only [Act.put, Go.q0, Go.q1, Go.q2]
 refine Go.FS.wpF_nil (fun w103 hb hF => ?_)
 have N104 := Lib.hid (show DF w103 V.heap.size y3 q102 from (Go.FS.made_of (val := (fun x : FV => x.v)) (Φ := fun x w' => DF w' V.heap.size x q102) (fun _ _ => FV.inj) (hF.all 3)))
 clear hF
 have NT := Lib.hid (NT.out.below hb)
 have B4 := Lib.hid (B4.out.below hb B4.out.lt)
 have KG := Lib.hid (KG.out.trans (hb.mono KG.out.size))
 clear hb
 have HQ := Lib.hid (show q102 = q by rw [Hq102.out, Hq101.out]; grind)
 have HD := Lib.hid (show DF (put8 w103 A4 (.bool y3.t.s) (.slice y3.t.a y3.t.n y3.t.c) (.bool y3.l.s) (.slice y3.l.a y3.l.n y3.l.c) (.int .u16 t.m.x) (.int .u16 t.m.y) (.int .u16 t.m.z) (.int .u16 t.m.t)) w.heap.size y3 q from by rw [← HQ.out]; exact put8_df (N104.out.mono HSZ.out) B4.out (by decide) ..)
 have HB := Lib.hid (show Below w.heap.size w (put8 w103 A4 (.bool y3.t.s) (.slice y3.t.a y3.t.n y3.t.c) (.bool y3.l.s) (.slice y3.l.a y3.l.n y3.l.c) (.int .u16 t.m.x) (.int .u16 t.m.y) (.int .u16 t.m.z) (.int .u16 t.m.t)) from put8_below KG.out HA4.out ..)
 have c40 := B4.out.cell (i := 0) rfl
 have c41 := B4.out.cell (i := 1) rfl
 have c42 := B4.out.cell (i := 2) rfl
 have c43 := B4.out.cell (i := 3) rfl
 have c44 := B4.out.cell (i := 4) rfl
 have c45 := B4.out.cell (i := 5) rfl
 have c46 := B4.out.cell (i := 6) rfl
 have c47 := B4.out.cell (i := 7) rfl
 have c4f := B4.out.fz
 have c4l := B4.out.lt
 go_wp2_with fail
 exact bodyPost_ret (results_ct rfl _ _ _ _ _ _ _ rfl (put8_bxs B4.out ..) Tryz.underlying50 rfl (by kernel_rfl)) rfl ⟨y3, (t.m, q), rfl, HD.out, HLD.out, HB.out⟩
set_option maxRecDepth 100000 in
set_option maxHeartbeats 4000000 in
theorem lead_nil (o : Int) (x : PV) (w : World) (hx : AP w x []) (hn : x.n ≤ 1000000) :
  Calls Tryz.prog 22 #[.int .u8 o, x.v] w fun e w' => e = .returned (.tuple #[.agg #[.bool false, .slice none 0 0, .bool false, .slice none 0 0, .int .u16 0, .int .u16 0, .int .u16 0, .int .u16 0], .bool false]) ∧ Below w.heap.size w w' := by
 obtain ⟨V0, hV⟩ : ∃ V, V = (w.alloc (.cells #[.int .u8 o] 44)).alloc (.cells #[.bool false, .slice none 0 0, .bool false, .slice none 0 0, .int .u16 0, .int .u16 0, .int .u16 0, .int .u16 0] 50) := ⟨_, rfl⟩
 have hbV : Below w.heap.size w V0 := by rw [hV]; exact ((Below.refl _ _).alloc (Nat.le_refl _) _).alloc (by go_size) _
 have B4 := Lib.hid (show Bxs V0 (w.heap.size + 1) 50 [.bool false, .slice none 0 0, .bool false, .slice none 0 0, .int .u16 0, .int .u16 0, .int .u16 0, .int .u16 0] by
  have h := Bxs.new (w.alloc (.cells #[.int .u8 o] 44)) 50 [.bool false, .slice none 0 0, .bool false, .slice none 0 0, .int .u16 0, .int .u16 0, .int .u16 0, .int .u16 0]
  rw [World.size_alloc] at h
  rw [hV]; exact h)
 have OF := Lib.hid (of_at hx hbV (fun t ht => by cases ht) (by omega))
 have KG := Lib.hid hbV
 have HV := Lib.hid hV
 obtain ⟨A4, hA4⟩ : ∃ A, A = w.heap.size + 1 := ⟨_, rfl⟩
 have HA4 := Lib.hid (show w.heap.size ≤ A4 by omega)
 rw [← hA4] at B4
 have HA5 := Lib.hid hA4
 obtain ⟨xa, xn, xc⟩ := x
 change Calls Tryz.prog 22 #[.int .u8 o, .slice xa xn xc] w _
 clear hV hbV hx hn hA4
 go_enter Tryz.func22, Tryz.ntmps22
 go_upto_region 1 with (fail)
 rw [show (w.alloc (.cells #[.int .u8 o] 44)).alloc (.cells #[.bool false, .slice none 0 0, .bool false, .slice none 0 0, .int .u16 0, .int .u16 0, .int .u16 0, .int .u16 0] 50) = V0 from HV.out.symm, show w.heap.size + 1 = A4 from HA5.out.symm]
 go_wp2_with fail
 with_reducible refine OF.out.mono ?_
 rintro e w1 ⟨⟨pa, pn, pc⟩, he, hkp, hpn, hb⟩
 obtain rfl : e = .returned (.slice pa pn pc) := he
 have B4 := Lib.hid (B4.out.below hb B4.out.lt)
 have KG := Lib.hid (KG.out.trans (hb.mono KG.out.size))
 have h0 := hkp.len
 obtain rfl : pn = 0 := h0
 clear hkp hpn hb OF
 have c40 := B4.out.cell (i := 0) rfl
 have c41 := B4.out.cell (i := 1) rfl
 have c42 := B4.out.cell (i := 2) rfl
 have c43 := B4.out.cell (i := 3) rfl
 have c44 := B4.out.cell (i := 4) rfl
 have c45 := B4.out.cell (i := 5) rfl
 have c46 := B4.out.cell (i := 6) rfl
 have c47 := B4.out.cell (i := 7) rfl
 have c4f := B4.out.fz
 have c4l := B4.out.lt
 go_wp2_with fail
 exact bodyPost_ret (results_ct rfl _ _ _ _ _ _ _ rfl (put8_bxs B4.out ..) Tryz.underlying50 rfl (by kernel_rfl)) rfl ⟨rfl, put8_below KG.out HA4.out ..⟩
def put4 (w : World) (b : Nat) (v0 v1 v2 v3 : Value) : World := (((w.setCell ⟨b, 0, none⟩ v0).setCell ⟨b, 1, none⟩ v1).setCell ⟨b, 2, none⟩ v2).setCell ⟨b, 3, none⟩ v3
theorem put4_bxs {w : World} {b : Nat} {t : TypeId} {u0 u1 u2 u3 : Value} (h : Bxs w b t [u0, u1, u2, u3]) (v0 v1 v2 v3 : Value) : Bxs (put4 w b v0 v1 v2 v3) b t [v0, v1, v2, v3] := (((h.put 0 v0).put 1 v1).put 2 v2).put 3 v3
theorem put4_other {w : World} {b g : Nat} {t : TypeId} {l : List Value} (h : Bxs w g t l) (hn : g ≠ b) (v0 v1 v2 v3 : Value) : Bxs (put4 w b v0 v1 v2 v3) g t l := (((h.other (a := ⟨b, 0, none⟩) hn v0).other (a := ⟨b, 1, none⟩) hn v1).other (a := ⟨b, 2, none⟩) hn v2).other (a := ⟨b, 3, none⟩) hn v3
theorem put4_df {w : World} {lo b : Nat} {x : FV} {q : Rat} {t : TypeId} {u0 u1 u2 u3 : Value} (h : DF w lo x q) (hb : Bxs w b t [u0, u1, u2, u3]) (ht : 110 ≠ t) (v0 v1 v2 v3 : Value) : DF (put4 w b v0 v1 v2 v3) lo x q :=
 (((h.setBxs hb ht 0 v0).setBxs (hb.put 0 v0) ht 1 v1).setBxs ((hb.put 0 v0).put 1 v1) ht 2 v2).setBxs (((hb.put 0 v0).put 1 v1).put 2 v2) ht 3 v3
theorem put4_kf {w : World} {b : Nat} {x : FV} {q : Rat} {t : TypeId} {u0 u1 u2 u3 : Value} (h : KF w x q) (hb : Bxs w b t [u0, u1, u2, u3]) (n0 : notInt u0 = true) (n1 : notInt u1 = true) (n2 : notInt u2 = true) (n3 : notInt u3 = true) {v0 v1 v2 v3 : Value} (m0 : notInt v0 = true) (m1 : notInt v1 = true) (m2 : notInt v2 = true) : KF (put4 w b v0 v1 v2 v3) x q :=
 (((h.setBxs hb (by simp [n0, n1, n2, n3]) 0 v0).setBxs (hb.put 0 v0) (by simp [m0, n1, n2, n3]) 1 v1).setBxs ((hb.put 0 v0).put 1 v1) (by simp [m0, m1, n2, n3]) 2 v2).setBxs (((hb.put 0 v0).put 1 v1).put 2 v2) (by simp [m0, m1, m2, n3]) 3 v3
theorem put4_below {B : Nat} {u w : World} {b : Nat} (h : Below B u w) (hb : B ≤ b) (v0 v1 v2 v3 : Value) : Below B u (put4 w b v0 v1 v2 v3) := (((h.setCell hb v0).setCell hb v1).setCell hb v2).setCell hb v3
theorem and1_u16 (e : Nat) (h : e ≤ 65535) : bits BinOp.and IntKind.u16 (e : Int) 1 = ((e % 2 : Nat) : Int) := by
 have h2 := bits_mask .u16 16 (by decide) wraps_u16 1 (by decide) (e : Int) (by omega) (by omega)
 have e1 : ((2 : Int) ^ 1 - 1) = 1 := by decide
 rw [e1] at h2
 rw [h2]
 omega
theorem rat_pow_lq {q : Rat} {k : Nat} (h : LQ q k) : ∀ m : Nat, LQ (q ^ m) (m * k + 1)
 | 0 => by
  have h1 : LQ ((1 : Int) : Rat) 1 := by constructor <;> decide +kernel
  rw [Rat.pow_zero, Nat.zero_mul, Nat.zero_add]
  exact h1
 | m + 1 => by
  rw [Rat.pow_succ]
  exact ((rat_pow_lq h m).ls.mul h.ls).lq (by rw [Nat.add_mul]; omega) (by rw [Nat.add_mul]; omega)
set_option maxRecDepth 100000 in
set_option maxHeartbeats 16000000 in
theorem power_any (x : FV) (q : Rat) (n k : Nat) (w : World) (hx : KF w x q) (hq : LQ q k) (hn : n ≤ 65535) (hk : n * k + 1 ≤ 900000) :
  Calls Tryz.prog 76 #[x.v, .int .u16 (n : Int)] w (RF w (q ^ n)) := by
 obtain ⟨V0, hV⟩ : ∃ V, V = (w.alloc (.cells #[.bool x.t.s, .slice x.t.a x.t.n x.t.c, .bool x.l.s, .slice x.l.a x.l.n x.l.c] 28)).alloc (.cells #[.bool false, .slice none 0 0, .bool false, .slice none 0 0] 28) := ⟨_, rfl⟩
 have hbV : Below w.heap.size w V0 := by rw [hV]; exact ((Below.refl _ _).alloc (Nat.le_refl _) _).alloc (by go_size) _
 have B2 := Lib.hid (show Bxs V0 w.heap.size 28 [.bool x.t.s, .slice x.t.a x.t.n x.t.c, .bool x.l.s, .slice x.l.a x.l.n x.l.c] by rw [hV]; exact (Bxs.new w 28 [.bool x.t.s, .slice x.t.a x.t.n x.t.c, .bool x.l.s, .slice x.l.a x.l.n x.l.c]).alloc _)
 have B4 := Lib.hid (show Bxs V0 (w.heap.size + 1) 28 [.bool false, .slice none 0 0, .bool false, .slice none 0 0] by
  have h := Bxs.new (w.alloc (.cells #[.bool x.t.s, .slice x.t.a x.t.n x.t.c, .bool x.l.s, .slice x.l.a x.l.n x.l.c] 28)) 28 [.bool false, .slice none 0 0, .bool false, .slice none 0 0]
  rw [World.size_alloc] at h
  rw [hV]; exact h)
 have OF := Lib.hid (qof 1 V0 (by decide) (by decide))
 have NX := Lib.hid hx; have HQ := Lib.hid hq; have HN := Lib.hid hn; have HK := Lib.hid hk
 have HL := Lib.hid (show ∀ m, m ≤ n → LQ (q ^ m) 900000 from fun m hm => (rat_pow_lq hq m).up (by have := Nat.mul_le_mul_right k hm; omega))
 have KG := Lib.hid hbV
 have HV := Lib.hid hV
 obtain ⟨A2, hA2⟩ : ∃ A, A = w.heap.size := ⟨_, rfl⟩
 obtain ⟨A4, hA4⟩ : ∃ A, A = w.heap.size + 1 := ⟨_, rfl⟩
 have HA2 := Lib.hid (show w.heap.size ≤ A2 by omega)
 have HA4 := Lib.hid (show w.heap.size ≤ A4 by omega)
 have HN24 := Lib.hid (show A2 ≠ A4 by omega)
 rw [← hA4] at B4
 rw [← hA2] at B2
 have HE4 := Lib.hid hA4; have HE2 := Lib.hid hA2
 change Calls Tryz.prog 76 #[.agg #[.bool x.t.s, .slice x.t.a x.t.n x.t.c, .bool x.l.s, .slice x.l.a x.l.n x.l.c], .int .u16 (n : Int)] w _
 clear hV hbV hx hq hn hk hA4 hA2
 go_enter Tryz.func76, Tryz.ntmps76
 go_upto_region 1 with (fail)
 rw [show (w.alloc (.cells #[.bool x.t.s, .slice x.t.a x.t.n x.t.c, .bool x.l.s, .slice x.l.a x.l.n x.l.c] 28)).alloc (.cells #[.bool false, .slice none 0 0, .bool false, .slice none 0 0] 28) = V0 from HV.out.symm, show w.heap.size + 1 = A4 from HE4.out.symm, show w.heap.size = A2 from HE2.out.symm]
 go_wp2_with fail
 with_reducible refine OF.out.mono ?_
 rintro e w1 ⟨y, rfl, hy, hb⟩
 have HY0 := Lib.hid hy
 have B2 := Lib.hid (B2.out.below hb B2.out.lt)
 have B4 := Lib.hid (B4.out.below hb B4.out.lt)
 have KG := Lib.hid (KG.out.trans (hb.mono KG.out.size))
 have HSZ := Lib.hid (show w.heap.size ≤ V0.heap.size by rw [HV.out]; simp; omega)
 clear hy hb OF
 go_upto_region 2 with (fail)
 obtain ⟨V, hV⟩ : ∃ V, V = w1.alloc (.cells #[.bool y.t.s, .slice y.t.a y.t.n y.t.c, .bool y.l.s, .slice y.l.a y.l.n y.l.c] 28) := ⟨_, rfl⟩
 have hbV : Below w1.heap.size w1 V := by rw [hV]; exact (Below.refl _ _).alloc (Nat.le_refl _) _
 have B5 := Lib.hid (show Bxs V w1.heap.size 28 [.bool y.t.s, .slice y.t.a y.t.n y.t.c, .bool y.l.s, .slice y.l.a y.l.n y.l.c] by rw [hV]; exact Bxs.new w1 28 [.bool y.t.s, .slice y.t.a y.t.n y.t.c, .bool y.l.s, .slice y.l.a y.l.n y.l.c])
 obtain ⟨A5, hA5⟩ : ∃ A, A = w1.heap.size := ⟨_, rfl⟩
 have HN25 := Lib.hid (show A2 ≠ A5 by have := B2.out.lt; omega)
 have HN45 := Lib.hid (show A4 ≠ A5 by have := B4.out.lt; omega)
 have HA5 := Lib.hid (show w.heap.size ≤ A5 by have := KG.out.size; omega)
 have B2 := Lib.hid (B2.out.below hbV B2.out.lt)
 have B4 := Lib.hid (B4.out.below hbV B4.out.lt)
 have KG := Lib.hid (KG.out.trans (hbV.mono KG.out.size))
 have HY := Lib.hid (show DF V w.heap.size y (q ^ 0) from by rw [Rat.pow_zero]; exact (HY0.out.below hbV).mono HSZ.out)
 have NX := Lib.hid (NX.out.below KG.out)
 rw [← hV, ← hA5]
 rw [← hA5] at B5
 clear hV hbV hA5 HY0
 go_loopw [1] (fun s wr => ∃ (j m e : Nat) (xa xr : FV), s = .int .u16 (e : Int) ∧ j + m * e = n ∧ (e = 0 ∨ m ≤ n) ∧ j ≤ n ∧ e ≤ n ∧ KF wr xa (q ^ m) ∧ DF wr w.heap.size xr (q ^ j) ∧ Bxs wr A2 28 [.bool xa.t.s, .slice xa.t.a xa.t.n xa.t.c, .bool xa.l.s, .slice xa.l.a xa.l.n xa.l.c] ∧ Bxs wr A5 28 [.bool xr.t.s, .slice xr.t.a xr.t.n xr.t.c, .bool xr.l.s, .slice xr.l.a xr.l.n xr.l.c] ∧ Bxs wr A4 28 [.bool false, .slice none 0 0, .bool false, .slice none 0 0] ∧ Below w.heap.size w wr) (fun s _ => (intOf s).toNat)
 case atStart =>
  refine ⟨0, 1, n, x, y, rfl, by omega, by omega, by omega, Nat.le_refl _, ?_, HY.out, B2.out, B5.out, B4.out, KG.out⟩
  rw [Rat.pow_succ, Rat.pow_zero, Rat.one_mul]; exact NX.out
 case round =>
  obtain ⟨j, m, e, xa, xr, rfl, hje, hm0, hj, hen, ha, hr, hB2, hB5, hB4, hb0⟩ := hrel
  have HJE := Lib.hid hje; have HM0 := Lib.hid hm0; have HEN := Lib.hid hen; have HJ := Lib.hid hj; have NA := Lib.hid ha; have NR := Lib.hid hr
  have B2 := Lib.hid hB2; have B5 := Lib.hid hB5; have B4 := Lib.hid hB4; have KG := Lib.hid hb0
  clear hje hm0 hen hj ha hr hB2 hB5 hB4 hb0
  by_cases he0 : 0 < e
  ·have h1 : (0 : Int) < (e : Int) := by omega
   have HM := Lib.hid (show m ≤ n from HM0.out.elim (fun h => absurd h (by omega)) id)
   have HE6 := Lib.hid (show e ≤ 65535 from Nat.le_trans HEN.out HN.out)
   have eb := and1_u16 e HE6.out
   by_cases hodd : e % 2 = 1
   ·have g0 : ((e : Int) % 2 == 1) = true := by simp; omega
    have HJM := Lib.hid (show j + m ≤ n by have h := HJE.out; have h2 := Nat.le_mul_of_pos_right m he0; omega)
    have MU := Lib.hid (qmul NR.out.k.any (NR.out.k.len (HL.out _ HJ.out) (Nat.le_refl _)) NA.out.any (NA.out.len (HL.out _ HM.out) (Nat.le_refl _)))
    have c50 := B5.out.cell (i := 0) rfl
    have c51 := B5.out.cell (i := 1) rfl
    have c52 := B5.out.cell (i := 2) rfl
    have c53 := B5.out.cell (i := 3) rfl
    have c5f := B5.out.fz
    have c5l := B5.out.lt
    have c20 := B2.out.cell (i := 0) rfl
    have c21 := B2.out.cell (i := 1) rfl
    have c22 := B2.out.cell (i := 2) rfl
    have c23 := B2.out.cell (i := 3) rfl
    have c2f := B2.out.fz
    have c2l := B2.out.lt
    go_wp2_with fail
    with_reducible refine MU.out.mono ?_
    rintro _ w2 ⟨y2, rfl, hy, hb⟩
    have B2 := Lib.hid (B2.out.below hb B2.out.lt)
    have B4 := Lib.hid (B4.out.below hb B4.out.lt)
    have B5 := Lib.hid (B5.out.below hb B5.out.lt)
    have NA := Lib.hid (NA.out.below hb)
    have NR := Lib.hid (show DF w2 w.heap.size y2 (q ^ (j + m)) from by rw [rat_pow_add]; exact hy.mono KG.out.size)
    have KG := Lib.hid (KG.out.trans (hb.mono KG.out.size))
    clear hy hb MU
    clear c50 c51 c52 c53 c5f c5l
    clear c20 c21 c22 c23 c2f c2l
    have c50 := B5.out.cell (i := 0) rfl
    have c51 := B5.out.cell (i := 1) rfl
    have c52 := B5.out.cell (i := 2) rfl
    have c53 := B5.out.cell (i := 3) rfl
    have c5f := B5.out.fz
    have c5l := B5.out.lt
    go_upto_region 6 with (fail)
    clear c50 c51 c52 c53 c5f c5l
    obtain ⟨U, hU⟩ : ∃ U, U = put4 w2 A5 (.bool y2.t.s) (.slice y2.t.a y2.t.n y2.t.c) (.bool y2.l.s) (.slice y2.l.a y2.l.n y2.l.c) := ⟨_, rfl⟩
    have NR := Lib.hid (show DF U w.heap.size y2 _ by rw [hU]; exact put4_df NR.out B5.out (by decide) ..)
    have NA := Lib.hid (show KF U xa _ by rw [hU]; exact put4_kf NA.out B5.out rfl rfl rfl rfl rfl rfl rfl)
    have B2 := Lib.hid (show Bxs U A2 28 _ by rw [hU]; exact put4_other B2.out HN25.out ..)
    have B4 := Lib.hid (show Bxs U A4 28 _ by rw [hU]; exact put4_other B4.out HN45.out ..)
    have KG := Lib.hid (show Below w.heap.size w U by rw [hU]; exact put4_below KG.out HA5.out ..)
    have B5 := Lib.hid (show Bxs U A5 28 [.bool y2.t.s, .slice y2.t.a y2.t.n y2.t.c, .bool y2.l.s, .slice y2.l.a y2.l.n y2.l.c] by rw [hU]; exact put4_bxs B5.out ..)
    unfold put4 at hU
    rw [← hU]
    clear hU
    by_cases he1 : 1 < e
    ·have g3 : (1 : Int) < (e : Int) := by omega
     have HE1 := Lib.hid he1
     have HM2 := Lib.hid (show m + m ≤ n by have h := HJE.out; have h2 := Nat.mul_le_mul_left m (show 2 ≤ e by omega); omega)
     have MV := Lib.hid (qmul NA.out.any (NA.out.len (HL.out _ HM.out) (Nat.le_refl _)) NA.out.any (NA.out.len (HL.out _ HM.out) (Nat.le_refl _)))
     have c20 := B2.out.cell (i := 0) rfl
     have c21 := B2.out.cell (i := 1) rfl
     have c22 := B2.out.cell (i := 2) rfl
     have c23 := B2.out.cell (i := 3) rfl
     have c2f := B2.out.fz
     have c2l := B2.out.lt
     go_wp2_with fail
     with_reducible refine MV.out.mono ?_
     rintro _ w3 ⟨y3, rfl, hy, hb⟩
     have B2 := Lib.hid (B2.out.below hb B2.out.lt)
     have B4 := Lib.hid (B4.out.below hb B4.out.lt)
     have B5 := Lib.hid (B5.out.below hb B5.out.lt)
     have NA := Lib.hid (NA.out.below hb)
     have NR := Lib.hid (NR.out.below hb)
     have NB := Lib.hid (show KF w3 y3 (q ^ (m + m)) from by rw [rat_pow_add]; exact hy.k)
     have KG := Lib.hid (KG.out.trans (hb.mono KG.out.size))
     clear hy hb MV
     clear c20 c21 c22 c23 c2f c2l
     have c20 := B2.out.cell (i := 0) rfl
     have c21 := B2.out.cell (i := 1) rfl
     have c22 := B2.out.cell (i := 2) rfl
     have c23 := B2.out.cell (i := 3) rfl
     have c2f := B2.out.fz
     have c2l := B2.out.lt
     go_wp2_with fail
     go_roundw
     case rel =>
      refine ⟨j + m, m + m, e / 2, y3, y2, ?_, ?_, Or.inr HM2.out, HJM.out, by have := HEN.out; omega, put4_kf NB.out B2.out rfl rfl rfl rfl rfl rfl rfl, put4_df NR.out B2.out (by decide) .., put4_bxs B2.out .., put4_other B5.out HN25.out.symm .., put4_other B4.out HN24.out.symm .., put4_below KG.out HA2.out ..⟩
      ·exact congrArg (Value.int .u16) (by omega)
      ·obtain ⟨f, hf⟩ : ∃ f, f = e / 2 := ⟨_, rfl⟩
       have he : e = 2 * f + 1 := by omega
       have h := HJE.out
       rw [he] at h
       rw [← hf, ← h]
       grind
     case measure => simp [intOf]; omega
    ·have g3 : ¬ ((1 : Int) < (e : Int)) := by omega
     have HE1 := Lib.hid (show e = 1 by omega)
     go_wp2_with fail
     go_roundw
     case rel =>
      refine ⟨j + m, m, e / 2, xa, y2, ?_, ?_, Or.inr HM.out, HJM.out, by have := HEN.out; omega, NA.out, NR.out, B2.out, B5.out, B4.out, KG.out⟩
      ·exact congrArg (Value.int .u16) (by omega)
      ·have h := HJE.out
       rw [HE1.out] at h ⊢
       omega
     case measure => simp [intOf]; omega
   ·have g0 : ((e : Int) % 2 == 1) = false := by simp; omega
    by_cases he1 : 1 < e
    ·have g3 : (1 : Int) < (e : Int) := by omega
     have HE1 := Lib.hid he1
     have HM2 := Lib.hid (show m + m ≤ n by have h := HJE.out; have h2 := Nat.mul_le_mul_left m (show 2 ≤ e by omega); omega)
     have MV := Lib.hid (qmul NA.out.any (NA.out.len (HL.out _ HM.out) (Nat.le_refl _)) NA.out.any (NA.out.len (HL.out _ HM.out) (Nat.le_refl _)))
     have c20 := B2.out.cell (i := 0) rfl
     have c21 := B2.out.cell (i := 1) rfl
     have c22 := B2.out.cell (i := 2) rfl
     have c23 := B2.out.cell (i := 3) rfl
     have c2f := B2.out.fz
     have c2l := B2.out.lt
     go_wp2_with fail
     with_reducible refine MV.out.mono ?_
     rintro _ w3 ⟨y3, rfl, hy, hb⟩
     have B2 := Lib.hid (B2.out.below hb B2.out.lt)
     have B4 := Lib.hid (B4.out.below hb B4.out.lt)
     have B5 := Lib.hid (B5.out.below hb B5.out.lt)
     have NA := Lib.hid (NA.out.below hb)
     have NR := Lib.hid (NR.out.below hb)
     have NB := Lib.hid (show KF w3 y3 (q ^ (m + m)) from by rw [rat_pow_add]; exact hy.k)
     have KG := Lib.hid (KG.out.trans (hb.mono KG.out.size))
     clear hy hb MV
     clear c20 c21 c22 c23 c2f c2l
     have c20 := B2.out.cell (i := 0) rfl
     have c21 := B2.out.cell (i := 1) rfl
     have c22 := B2.out.cell (i := 2) rfl
     have c23 := B2.out.cell (i := 3) rfl
     have c2f := B2.out.fz
     have c2l := B2.out.lt
     go_wp2_with fail
     go_roundw
     case rel =>
      refine ⟨j, m + m, e / 2, y3, xr, ?_, ?_, Or.inr HM2.out, HJ.out, by have := HEN.out; omega, put4_kf NB.out B2.out rfl rfl rfl rfl rfl rfl rfl, put4_df NR.out B2.out (by decide) .., put4_bxs B2.out .., put4_other B5.out HN25.out.symm .., put4_other B4.out HN24.out.symm .., put4_below KG.out HA2.out ..⟩
      ·exact congrArg (Value.int .u16) (by omega)
      ·obtain ⟨f, hf⟩ : ∃ f, f = e / 2 := ⟨_, rfl⟩
       have he : e = 2 * f := by omega
       have h := HJE.out
       rw [he] at h
       rw [← hf, ← h]
       grind
     case measure => simp [intOf]; omega
    ·have g3 : ¬ ((1 : Int) < (e : Int)) := by omega
     have HE1 := Lib.hid (show e = 1 by omega)
     go_wp2_with fail
     go_roundw
     case rel =>
      refine ⟨j, m, e / 2, xa, xr, ?_, ?_, Or.inr HM.out, HJ.out, by have := HEN.out; omega, NA.out, NR.out, B2.out, B5.out, B4.out, KG.out⟩
      ·exact absurd HE1.out (by omega)
      ·exact absurd HE1.out (by omega)
     case measure => simp [intOf]; omega
  ·have h0 : e = 0 := by omega
   subst h0
   have HJN := Lib.hid (show j = n by have h := HJE.out; omega)
   have HR := Lib.hid (show DF (put4 wr A4 (.bool xr.t.s) (.slice xr.t.a xr.t.n xr.t.c) (.bool xr.l.s) (.slice xr.l.a xr.l.n xr.l.c)) w.heap.size xr (q ^ n) from by rw [← HJN.out]; exact put4_df NR.out B4.out (by decide) ..)
   have c50 := B5.out.cell (i := 0) rfl
   have c51 := B5.out.cell (i := 1) rfl
   have c52 := B5.out.cell (i := 2) rfl
   have c53 := B5.out.cell (i := 3) rfl
   have c5f := B5.out.fz
   have c5l := B5.out.lt
   have c40 := B4.out.cell (i := 0) rfl
   have c41 := B4.out.cell (i := 1) rfl
   have c42 := B4.out.cell (i := 2) rfl
   have c43 := B4.out.cell (i := 3) rfl
   have c4f := B4.out.fz
   have c4l := B4.out.lt
   go_wp2_with fail
   exact bodyPost_ret (results_cell rfl _ _ _ _ _ _ _ rfl (put4_bxs B4.out ..) Tryz.underlying28 rfl (by kernel_rfl)) rfl ⟨xr, rfl, HR.out, put4_below KG.out HA4.out ..⟩
set_option maxRecDepth 100000 in
set_option maxHeartbeats 4000000 in
theorem at1_k (x : FV) (q : Rat) (w : World) (h : KF w x q) (hq : LQ q 900000) : Calls Tryz.prog 75 #[x.v] w fun e w' => e = .returned (.bool false) ∧ Below w.heap.size w w' := by
 obtain ⟨V, hV⟩ : ∃ V, V = w.alloc (.cells #[.bool x.t.s, .slice x.t.a x.t.n x.t.c, .bool x.l.s, .slice x.l.a x.l.n x.l.c] 28) := ⟨_, rfl⟩
 have hbV : Below w.heap.size w V := by rw [hV]; exact (Below.refl _ _).alloc (Nat.le_refl _) _
 have B1 := Lib.hid (show Bxs V w.heap.size 28 [.bool x.t.s, .slice x.t.a x.t.n x.t.c, .bool x.l.s, .slice x.l.a x.l.n x.l.c] by rw [hV]; exact Bxs.new w 28 [.bool x.t.s, .slice x.t.a x.t.n x.t.c, .bool x.l.s, .slice x.l.a x.l.n x.l.c])
 have KG := Lib.hid hbV
 have HV := Lib.hid hV
 have CK := Lib.hid (qcheck (h.below hbV) (h.len hq (Nat.le_refl _)))
 clear hV hbV h hq
 change Calls Tryz.prog 75 #[.agg #[.bool x.t.s, .slice x.t.a x.t.n x.t.c, .bool x.l.s, .slice x.l.a x.l.n x.l.c]] w _
 go_enter Tryz.func75, Tryz.ntmps75
 go_upto_region 1 with (fail)
 rw [show w.alloc (.cells #[.bool x.t.s, .slice x.t.a x.t.n x.t.c, .bool x.l.s, .slice x.l.a x.l.n x.l.c] 28) = V from HV.out.symm]
 have c0 := B1.out.cell (i := 0) rfl
 have c1 := B1.out.cell (i := 1) rfl
 have c2 := B1.out.cell (i := 2) rfl
 have c3 := B1.out.cell (i := 3) rfl
 go_wp2_with fail
 with_reducible refine CK.out.mono ?_
 rintro e w1 ⟨rfl, hb⟩
 have KG := Lib.hid (KG.out.trans (hb.mono KG.out.size))
 clear hb CK c0 c1 c2 c3
 go_wp2_with fail
 go_ret
 exact ⟨rfl, KG.out⟩
structure K4 (w : World) (x0 x1 x2 x3 : FV) (l : Nat → Rat) : Prop where
 k0 : KF w x0 (l 0)
 k1 : KF w x1 (l 1)
 k2 : KF w x2 (l 2)
 k3 : KF w x3 (l 3)
theorem K4.below {w w' : World} {x0 x1 x2 x3 : FV} {l : Nat → Rat} (h : K4 w x0 x1 x2 x3 l) (hb : Below w.heap.size w w') : K4 w' x0 x1 x2 x3 l := ⟨h.k0.below hb, h.k1.below hb, h.k2.below hb, h.k3.below hb⟩
set_option maxRecDepth 100000 in
set_option maxHeartbeats 16000000 in
theorem idx_k (b : Nat) (x0 x1 x2 x3 : FV) (l : Nat → Rat) (w : World) (hb : Bxs w b 56 [.bool x0.t.s, .slice x0.t.a x0.t.n x0.t.c, .bool x0.l.s, .slice x0.l.a x0.l.n x0.l.c, .bool x1.t.s, .slice x1.t.a x1.t.n x1.t.c, .bool x1.l.s, .slice x1.l.a x1.l.n x1.l.c, .bool x2.t.s, .slice x2.t.a x2.t.n x2.t.c, .bool x2.l.s, .slice x2.l.a x2.l.n x2.l.c, .bool x3.t.s, .slice x3.t.a x3.t.n x3.t.c, .bool x3.l.s, .slice x3.l.a x3.l.n x3.l.c]) (h : K4 w x0 x1 x2 x3 l) (hq : ∀ i, LQ (l i) 900000) :
  Calls Tryz.prog 107 #[.slice (some ⟨b, 0, none⟩) 4 4, .func (.func 75) #[] #[]] w fun e w' => e = .returned (.int .i64 (-1)) ∧ Below w.heap.size w w' := by
 have BB := Lib.hid hb; have HH := Lib.hid h; have HQ := Lib.hid hq
 have hcf : ∀ (args : Array Value) (w : World), (callFunc 75 args).run Tryz.prog w = .ok (.enter 75 args) w := fun _ _ => by kernel_rfl
 clear hb h hq
 go_enter Tryz.func107, Tryz.ntmps107
 go_wp2_with fail
 go_loopw [8] (fun i wr => ∃ j : Nat, j ≤ 4 ∧ i = .int .i64 j ∧ Below w.heap.size w wr) (fun i _ => 4 - (intOf i).toNat)
 case atStart => exact ⟨0, Nat.zero_le _, rfl, Below.refl _ _⟩
 case round =>
  obtain ⟨j, hj, rfl, hb0⟩ := hrel
  have KG := Lib.hid hb0
  have B1 := Lib.hid (BB.out.below hb0 BB.out.lt)
  have H4 := Lib.hid (HH.out.below hb0)
  clear hb0
  by_cases hjn : j < 4
  ·have hl5 : j = 0 ∨ j = 1 ∨ j = 2 ∨ j = 3 := by omega
   clear hj hjn
   have c0 := B1.out.cell (i := 0) rfl
   have c1 := B1.out.cell (i := 1) rfl
   have c2 := B1.out.cell (i := 2) rfl
   have c3 := B1.out.cell (i := 3) rfl
   have c4 := B1.out.cell (i := 4) rfl
   have c5 := B1.out.cell (i := 5) rfl
   have c6 := B1.out.cell (i := 6) rfl
   have c7 := B1.out.cell (i := 7) rfl
   have c8 := B1.out.cell (i := 8) rfl
   have c9 := B1.out.cell (i := 9) rfl
   have c10 := B1.out.cell (i := 10) rfl
   have c11 := B1.out.cell (i := 11) rfl
   have c12 := B1.out.cell (i := 12) rfl
   have c13 := B1.out.cell (i := 13) rfl
   have c14 := B1.out.cell (i := 14) rfl
   have c15 := B1.out.cell (i := 15) rfl
   rcases hl5 with rfl | rfl | rfl | rfl
   ·have AK := Lib.hid (at1_k x0 (l 0) wr H4.out.k0 (HQ.out 0))
    go_wp2_with fail
    with_reducible refine AK.out.mono ?_
    rintro e w1 ⟨rfl, hb⟩
    have KG := Lib.hid (KG.out.trans (hb.mono KG.out.size))
    clear hb AK c0 c1 c2 c3 c4 c5 c6 c7 c8 c9 c10 c11 c12 c13 c14 c15
    go_wp2_with fail
    go_roundw
    case rel => exact ⟨1, by omega, rfl, KG.out⟩
    case measure => simp [intOf]
   ·have AK := Lib.hid (at1_k x1 (l 1) wr H4.out.k1 (HQ.out 1))
    go_wp2_with fail
    with_reducible refine AK.out.mono ?_
    rintro e w1 ⟨rfl, hb⟩
    have KG := Lib.hid (KG.out.trans (hb.mono KG.out.size))
    clear hb AK c0 c1 c2 c3 c4 c5 c6 c7 c8 c9 c10 c11 c12 c13 c14 c15
    go_wp2_with fail
    go_roundw
    case rel => exact ⟨2, by omega, rfl, KG.out⟩
    case measure => simp [intOf]
   ·have AK := Lib.hid (at1_k x2 (l 2) wr H4.out.k2 (HQ.out 2))
    go_wp2_with fail
    with_reducible refine AK.out.mono ?_
    rintro e w1 ⟨rfl, hb⟩
    have KG := Lib.hid (KG.out.trans (hb.mono KG.out.size))
    clear hb AK c0 c1 c2 c3 c4 c5 c6 c7 c8 c9 c10 c11 c12 c13 c14 c15
    go_wp2_with fail
    go_roundw
    case rel => exact ⟨3, by omega, rfl, KG.out⟩
    case measure => simp [intOf]
   ·have AK := Lib.hid (at1_k x3 (l 3) wr H4.out.k3 (HQ.out 3))
    go_wp2_with fail
    with_reducible refine AK.out.mono ?_
    rintro e w1 ⟨rfl, hb⟩
    have KG := Lib.hid (KG.out.trans (hb.mono KG.out.size))
    clear hb AK c0 c1 c2 c3 c4 c5 c6 c7 c8 c9 c10 c11 c12 c13 c14 c15
    go_wp2_with fail
    go_roundw
    case rel => exact ⟨4, by omega, rfl, KG.out⟩
    case measure => simp [intOf]
  ·obtain rfl : j = 4 := by omega
   clear hj hjn
   go_wp2_with fail
   go_ret
   exact ⟨rfl, KG.out⟩
set_option maxRecDepth 100000 in
set_option maxHeartbeats 4000000 in
theorem con_k (b : Nat) (x0 x1 x2 x3 : FV) (l : Nat → Rat) (w : World) (hb : Bxs w b 56 [.bool x0.t.s, .slice x0.t.a x0.t.n x0.t.c, .bool x0.l.s, .slice x0.l.a x0.l.n x0.l.c, .bool x1.t.s, .slice x1.t.a x1.t.n x1.t.c, .bool x1.l.s, .slice x1.l.a x1.l.n x1.l.c, .bool x2.t.s, .slice x2.t.a x2.t.n x2.t.c, .bool x2.l.s, .slice x2.l.a x2.l.n x2.l.c, .bool x3.t.s, .slice x3.t.a x3.t.n x3.t.c, .bool x3.l.s, .slice x3.l.a x3.l.n x3.l.c]) (h : K4 w x0 x1 x2 x3 l) (hq : ∀ i, LQ (l i) 900000) :
  Calls Tryz.prog 74 #[.slice (some ⟨b, 0, none⟩) 4 4, .func (.func 75) #[] #[]] w fun e w' => e = .returned (.bool false) ∧ Below w.heap.size w w' := by
 have IK := Lib.hid (idx_k b x0 x1 x2 x3 l w hb h hq)
 clear hb h hq
 go_enter Tryz.func74, Tryz.ntmps74
 go_wp2_with fail
 with_reducible refine IK.out.mono ?_
 rintro e w1 ⟨rfl, hb⟩
 have KG := Lib.hid hb
 clear hb IK
 go_wp2_with fail
 go_ret
 exact ⟨rfl, KG.out⟩
end Go.Proofs.YthcccdjfedbnfaaGreatDoor.Pol
