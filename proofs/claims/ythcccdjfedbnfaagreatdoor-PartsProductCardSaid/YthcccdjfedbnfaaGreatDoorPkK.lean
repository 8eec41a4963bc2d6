/-
  What further calls of package polys give, where a sum may be: a letter that is none, Coefs, Lead, At.
-/
import Derived.Test.YthcccdjfedbnfaaGreatDoorPkJ
import Derived.SizedLaws
import Derived.Lib.EndianBits
set_option linter.unusedSimpArgs false
set_option linter.unusedVariables false
namespace Go.Proofs.YthcccdjfedbnfaaGreatDoor.Pol
open Go.RowKit Go.Sort Go.Proofs.YthcccdjfedbnfaaGreatDoor.Limb
structure RE (w : World) (b off i : Nat) (t : TV) : Prop where
 lt : b < w.heap.size
 cell : ∀ j v, t.cells[j]? = some v → w.cell? ⟨b, off + i * 8 + j, none⟩ = some v
theorem RE.below {w w' : World} {b off i : Nat} {t : TV} (h : RE w b off i t) (hb : Below w.heap.size w w') : RE w' b off i t :=
 ⟨Nat.lt_of_lt_of_le h.lt hb.size, fun j v hj => (hb.cell (p := ⟨b, off + i * 8 + j, none⟩) h.lt).trans (h.cell j v hj)⟩
theorem RE.eight {w : World} {b off i : Nat} {t : TV} (h : RE w b off i t) :
  w.cell? ⟨b, off + i * 8, none⟩ = some (.bool t.c.t.s) ∧ w.cell? ⟨b, off + i * 8 + 1, none⟩ = some (.slice t.c.t.a t.c.t.n t.c.t.c) ∧ w.cell? ⟨b, off + i * 8 + 2, none⟩ = some (.bool t.c.l.s) ∧ w.cell? ⟨b, off + i * 8 + 3, none⟩ = some (.slice t.c.l.a t.c.l.n t.c.l.c) ∧
  w.cell? ⟨b, off + i * 8 + 4, none⟩ = some (.int .u16 t.m.x) ∧ w.cell? ⟨b, off + i * 8 + 5, none⟩ = some (.int .u16 t.m.y) ∧ w.cell? ⟨b, off + i * 8 + 6, none⟩ = some (.int .u16 t.m.z) ∧ w.cell? ⟨b, off + i * 8 + 7, none⟩ = some (.int .u16 t.m.t) :=
 ⟨h.cell 0 _ rfl, h.cell 1 _ rfl, h.cell 2 _ rfl, h.cell 3 _ rfl, h.cell 4 _ rfl, h.cell 5 _ rfl, h.cell 6 _ rfl, h.cell 7 _ rfl⟩
theorem RT.one {w : World} {a : Option Addr} {ts : List TV} (h : RT w a ts) (hn : ts ≠ []) : ∃ b off, a = some ⟨b, off, none⟩ ∧ ∀ i t, ts[i]? = some t → RE w b off i t := by
 obtain ⟨b, off, ha, hc⟩ := h.ex hn
 exact ⟨b, off, ha, fun i t hi => ⟨block_lt_of_cell (hc i t hi 0 _ rfl), hc i t hi⟩⟩
set_option maxRecDepth 100000 in
set_option maxHeartbeats 4000000 in
theorem same_term (t u : TV) (q : Rat) (w : World) (h1 : KF w t.c q) (h2 : KF w u.c q) (hm : t.m = u.m) (hq : LQ q 900000) : Calls Tryz.prog 96 #[TV.v t, TV.v u] w fun e w' => e = .returned (.bool true) ∧ Below w.heap.size w w' := by
 obtain ⟨V, hV⟩ : ∃ V, V = (w.alloc (.cells #[.bool t.c.t.s, .slice t.c.t.a t.c.t.n t.c.t.c, .bool t.c.l.s, .slice t.c.l.a t.c.l.n t.c.l.c, .int .u16 t.m.x, .int .u16 t.m.y, .int .u16 t.m.z, .int .u16 t.m.t] 50)).alloc (.cells #[.bool u.c.t.s, .slice u.c.t.a u.c.t.n u.c.t.c, .bool u.c.l.s, .slice u.c.l.a u.c.l.n u.c.l.c, .int .u16 u.m.x, .int .u16 u.m.y, .int .u16 u.m.z, .int .u16 u.m.t] 50) := ⟨_, rfl⟩
 have hbV : Below w.heap.size w V := by rw [hV]; exact ((Below.refl _ _).alloc (Nat.le_refl _) _).alloc (by go_size) _
 have B1 := Lib.hid (show Bxs V w.heap.size 50 [.bool t.c.t.s, .slice t.c.t.a t.c.t.n t.c.t.c, .bool t.c.l.s, .slice t.c.l.a t.c.l.n t.c.l.c, .int .u16 t.m.x, .int .u16 t.m.y, .int .u16 t.m.z, .int .u16 t.m.t] by rw [hV]; exact (Bxs.new w 50 [.bool t.c.t.s, .slice t.c.t.a t.c.t.n t.c.t.c, .bool t.c.l.s, .slice t.c.l.a t.c.l.n t.c.l.c, .int .u16 t.m.x, .int .u16 t.m.y, .int .u16 t.m.z, .int .u16 t.m.t]).alloc _)
 have B2 := Lib.hid (show Bxs V (w.heap.size + 1) 50 [.bool u.c.t.s, .slice u.c.t.a u.c.t.n u.c.t.c, .bool u.c.l.s, .slice u.c.l.a u.c.l.n u.c.l.c, .int .u16 u.m.x, .int .u16 u.m.y, .int .u16 u.m.z, .int .u16 u.m.t] by
  have h := Bxs.new (w.alloc (.cells #[.bool t.c.t.s, .slice t.c.t.a t.c.t.n t.c.t.c, .bool t.c.l.s, .slice t.c.l.a t.c.l.n t.c.l.c, .int .u16 t.m.x, .int .u16 t.m.y, .int .u16 t.m.z, .int .u16 t.m.t] 50)) 50 [.bool u.c.t.s, .slice u.c.t.a u.c.t.n u.c.t.c, .bool u.c.l.s, .slice u.c.l.a u.c.l.n u.c.l.c, .int .u16 u.m.x, .int .u16 u.m.y, .int .u16 u.m.z, .int .u16 u.m.t]
  rw [World.size_alloc] at h
  rw [hV]; exact h)
 have KG := Lib.hid hbV
 have SF := Lib.hid (qsameFr (h1.below hbV) (h1.len hq (Nat.le_refl _)) (h2.below hbV) (h2.len hq (Nat.le_refl _)) rfl)
 have HV := Lib.hid hV
 obtain ⟨tc, ⟨mx, my, mz, mt⟩⟩ := t
 obtain ⟨uc, um⟩ := u
 change (⟨mx, my, mz, mt⟩ : Mo) = um at hm
 subst hm
 change Calls Tryz.prog 96 #[.agg #[.bool tc.t.s, .slice tc.t.a tc.t.n tc.t.c, .bool tc.l.s, .slice tc.l.a tc.l.n tc.l.c, .int .u16 mx, .int .u16 my, .int .u16 mz, .int .u16 mt], .agg #[.bool uc.t.s, .slice uc.t.a uc.t.n uc.t.c, .bool uc.l.s, .slice uc.l.a uc.l.n uc.l.c, .int .u16 mx, .int .u16 my, .int .u16 mz, .int .u16 mt]] w _
 clear hV hbV h1 h2 hq
 go_enter Tryz.func96, Tryz.ntmps96
 go_upto_region 1 with (fail)
 rw [show (w.alloc (.cells #[.bool tc.t.s, .slice tc.t.a tc.t.n tc.t.c, .bool tc.l.s, .slice tc.l.a tc.l.n tc.l.c, .int .u16 mx, .int .u16 my, .int .u16 mz, .int .u16 mt] 50)).alloc (.cells #[.bool uc.t.s, .slice uc.t.a uc.t.n uc.t.c, .bool uc.l.s, .slice uc.l.a uc.l.n uc.l.c, .int .u16 mx, .int .u16 my, .int .u16 mz, .int .u16 mt] 50) = V from HV.out.symm]
 have c10 := B1.out.cell (i := 0) rfl
 have c11 := B1.out.cell (i := 1) rfl
 have c12 := B1.out.cell (i := 2) rfl
 have c13 := B1.out.cell (i := 3) rfl
 have c14 := B1.out.cell (i := 4) rfl
 have c15 := B1.out.cell (i := 5) rfl
 have c16 := B1.out.cell (i := 6) rfl
 have c17 := B1.out.cell (i := 7) rfl
 have c20 := B2.out.cell (i := 0) rfl
 have c21 := B2.out.cell (i := 1) rfl
 have c22 := B2.out.cell (i := 2) rfl
 have c23 := B2.out.cell (i := 3) rfl
 have c24 := B2.out.cell (i := 4) rfl
 have c25 := B2.out.cell (i := 5) rfl
 have c26 := B2.out.cell (i := 6) rfl
 have c27 := B2.out.cell (i := 7) rfl
 go_wp2_with fail
 with_reducible refine SF.out.mono ?_
 rintro e w1 ⟨rfl, hb⟩
 have KG := Lib.hid (KG.out.trans (hb.mono KG.out.size))
 have B1 := Lib.hid (B1.out.below hb B1.out.lt)
 have B2 := Lib.hid (B2.out.below hb B2.out.lt)
 clear hb SF c10 c11 c12 c13 c14 c15 c16 c17 c20 c21 c22 c23 c24 c25 c26 c27
 have c10 := B1.out.cell (i := 0) rfl
 have c11 := B1.out.cell (i := 1) rfl
 have c12 := B1.out.cell (i := 2) rfl
 have c13 := B1.out.cell (i := 3) rfl
 have c14 := B1.out.cell (i := 4) rfl
 have c15 := B1.out.cell (i := 5) rfl
 have c16 := B1.out.cell (i := 6) rfl
 have c17 := B1.out.cell (i := 7) rfl
 have c20 := B2.out.cell (i := 0) rfl
 have c21 := B2.out.cell (i := 1) rfl
 have c22 := B2.out.cell (i := 2) rfl
 have c23 := B2.out.cell (i := 3) rfl
 have c24 := B2.out.cell (i := 4) rfl
 have c25 := B2.out.cell (i := 5) rfl
 have c26 := B2.out.cell (i := 6) rfl
 have c27 := B2.out.cell (i := 7) rfl
 go_wp2_with fail
 go_ret
 exact ⟨rfl, KG.out⟩
set_option maxRecDepth 100000 in
set_option maxHeartbeats 16000000 in
theorem same_k (x y : PV) (P : List Tm) (w : World) (hx : KP w x P) (hy : KP w y P) (hp : ∀ t ∈ P, LQ t.2 900000) (hn : P.length ≤ 1000000) : Calls Tryz.prog 58 #[x.v, y.v] w fun e w' => e = .returned (.bool true) ∧ Below w.heap.size w w' := by
 have hxl := hx.len
 have hyl := hy.len
 obtain ⟨xa, xn, xc⟩ := x
 obtain ⟨ya, n, yc⟩ := y
 change xn = P.length at hxl
 change n = P.length at hyl
 obtain rfl : xn = n := hxl.trans hyl.symm
 obtain ⟨L1, g1, g2, g3, g4⟩ := hx.ex
 obtain ⟨L2, k3, k4, k5, k6⟩ := hy.ex
 have HP := Lib.hid hp; have HNN := Lib.hid (show xn ≤ 1000000 by rw [hyl]; exact hn)
 have R1 := Lib.hid g1; have R2 := Lib.hid k3; have F1 := Lib.hid g3; have F2 := Lib.hid k5; have T1 := Lib.hid g4; have T2 := Lib.hid k6
 have N1 := Lib.hid (show L1.length = xn from g2); have N2 := Lib.hid (show L2.length = xn from k4)
 change Calls Tryz.prog 58 #[.slice xa xn xc, .slice ya xn yc] w _
 clear hx hy hp hn hxl hyl g1 g2 g3 g4 k3 k4 k5 k6
 go_enter Tryz.func58, Tryz.ntmps58
 go_wp2_with fail
 go_loopw [5] (fun i wr => ∃ j : Nat, j ≤ xn ∧ i = .int .i64 j ∧ Below w.heap.size w wr) (fun i _ => xn - (intOf i).toNat)
 case atStart =>
  exact ⟨0, Nat.zero_le _, rfl, Below.refl _ _⟩
 case round =>
  obtain ⟨j, hj, rfl, hb0⟩ := hrel
  have HJ := Lib.hid hj; have KG := Lib.hid hb0
  clear hj hb0
  by_cases hjn : j < xn
  ·have HJN := Lib.hid hjn
   have h1l : j < L1.length := by rw [N1.out]; exact hjn
   have h2l : j < L2.length := by rw [N2.out]; exact hjn
   obtain ⟨pb, po, rfl, hc1⟩ := (R1.out.below KG.out).one (fun h => by rw [List.map_eq_nil_iff] at h; rw [h] at h1l; simp at h1l)
   obtain ⟨qb, qo, rfl, hc2⟩ := (R2.out.below KG.out).one (fun h => by rw [List.map_eq_nil_iff] at h; rw [h] at h2l; simp at h2l)
   obtain ⟨⟨t, q⟩, he1⟩ : ∃ e, L1[j]? = some e := ⟨_, List.getElem?_eq_getElem h1l⟩
   obtain ⟨⟨u, r⟩, he2⟩ : ∃ e, L2[j]? = some e := ⟨_, List.getElem?_eq_getElem h2l⟩
   have E1 := Lib.hid (hc1 j t (by rw [List.getElem?_map, he1]; rfl))
   have E2 := Lib.hid (hc2 j u (by rw [List.getElem?_map, he2]; rfl))
   have p1 : P[j]? = some (t.m, q) := by rw [← T1.out, List.getElem?_map, he1]; rfl
   have p2 : P[j]? = some (u.m, r) := by rw [← T2.out, List.getElem?_map, he2]; rfl
   have pe : (t.m, q) = (u.m, r) := Option.some.inj (p1.symm.trans p2)
   have HMM := Lib.hid (show t.m = u.m from congrArg Prod.fst pe)
   obtain rfl : q = r := congrArg Prod.snd pe
   have NT := Lib.hid (show KF wr t.c q from (F1.out _ (List.mem_of_getElem? he1)).below KG.out)
   have NU := Lib.hid (show KF wr u.c q from (F2.out _ (List.mem_of_getElem? he2)).below KG.out)
   have LQq := Lib.hid (HP.out _ (List.mem_of_getElem? p1))
   have ek : IntKind.i64.wrap ((j : Int) + 1) = (j : Int) + 1 := IntWalk.i64_in _ (by have := HJN.out; have := HNN.out; omega)
   clear hc1 hc2 he1 he2 p1 p2 pe h1l h2l
   go_upto_region 6 with (fail)
   refine Go.FreshS.wp_region_fresh 9 [] (Go.FreshS.spOf [(8, Go.FreshS.Sp.know (.bool true))])
    (fun w' => Below wr.heap.size wr w') (by kernel_rfl) (by kernel_rfl) (by kernel_rfl)
    (Go.FreshS.spOf_cons (Go.FreshS.Sp.know_keeps _ _) (Go.FreshS.spOf_nil)) (fun _ _ h hb => h.trans (hb.mono h.size)) ((Below.refl _ _).drew) ?_
   simp only [List.append_eq, List.cons_append, List.nil_append, List.take_succ_cons, List.take_zero, List.drop_succ_cons, List.drop_zero]
   refine Go.FreshS.wpF_reads rfl rfl rfl ?_ (fun w' hw' => ?_) ?_
   rotate_left
   ·have hb' := hw'.world
    skip
    clear hw'
    go_simp
    try rfl
   conv => arg 10; simp only [Act.put, List.setIfInBounds_toArray, List.set_cons_succ, List.set_cons_zero]
   refine Go.FreshS.wpF_reads rfl rfl rfl ?_ (fun w' hw' => ?_) ?_
   rotate_left
   ·have hb' := hw'.world
    skip
    clear hw'
    go_simp
    try rfl
   conv => arg 10; simp only [Act.put, List.setIfInBounds_toArray, List.set_cons_succ, List.set_cons_zero]
   refine Go.FreshS.wpF_reads rfl rfl rfl ?_ (fun w' hw' => ?_) ?_
   rotate_left
   ·have hb' := hw'.world
    skip
    clear hw'
    go_simp
    try rfl
   conv => arg 10; simp only [Act.put, List.setIfInBounds_toArray, List.set_cons_succ, List.set_cons_zero]
   refine Go.FreshS.wpF_reads rfl rfl rfl ?_ (fun w' hw' => ?_) ?_
   rotate_left
   ·have hb' := hw'.world
    obtain ⟨hs0, hs1, hs2, hs3, hs4, hs5, hs6, hs7⟩ := (E1.out.below hb').eight
    clear hw'
    go_simp
    try rfl
   conv => arg 10; simp only [Act.put, List.setIfInBounds_toArray, List.set_cons_succ, List.set_cons_zero]
   refine Go.FreshS.wpF_reads rfl rfl rfl ?_ (fun w' hw' => ?_) ?_
   rotate_left
   ·have hb' := hw'.world
    skip
    clear hw'
    go_simp
    try rfl
   conv => arg 10; simp only [Act.put, List.setIfInBounds_toArray, List.set_cons_succ, List.set_cons_zero]
   refine Go.FreshS.wpF_reads rfl rfl rfl ?_ (fun w' hw' => ?_) ?_
   rotate_left
   ·have hb' := hw'.world
    skip
    clear hw'
    go_simp
    try rfl
   conv => arg 10; simp only [Act.put, List.setIfInBounds_toArray, List.set_cons_succ, List.set_cons_zero]
   refine Go.FreshS.wpF_reads rfl rfl rfl ?_ (fun w' hw' => ?_) ?_
   rotate_left
   ·have hb' := hw'.world
    skip
    clear hw'
    go_simp
    try rfl
   conv => arg 10; simp only [Act.put, List.setIfInBounds_toArray, List.set_cons_succ, List.set_cons_zero]
   refine Go.FreshS.wpF_reads rfl rfl rfl ?_ (fun w' hw' => ?_) ?_
   rotate_left
   ·have hb' := hw'.world
    obtain ⟨hs0, hs1, hs2, hs3, hs4, hs5, hs6, hs7⟩ := (E2.out.below hb').eight
    clear hw'
    go_simp
    try rfl
   conv => arg 10; simp only [Act.put, List.setIfInBounds_toArray, List.set_cons_succ, List.set_cons_zero]
   refine Go.FreshS.wpF_spec rfl rfl rfl (fun w' hw' => ?_) ?_
   ·have hb' := hw'.world
    refine Go.FreshS.gives_of (Go.FreshS.PK (.bool true)) ?_ (fun _ _ h => h.post)
    go_simp
    have CT := same_term t u q w' (NT.out.below hb') (NU.out.below hb') HMM.out LQq.out
    refine CT.mono ?_
    rintro e w'' ⟨rfl, hb⟩
    exact ⟨_, rfl, rfl, hb⟩
   rintro _ rfl
   conv => arg 10; simp only [Act.put, List.setIfInBounds_toArray, List.set_cons_succ, List.set_cons_zero]
   refine Go.FreshS.wpF_nil (fun w101 hb hF => ?_)
   clear hF
   have KG := Lib.hid (KG.out.trans (hb.mono KG.out.size))
   clear hb
   go_wp2_with fail
   go_roundw
   case rel =>
    exact ⟨j + 1, by have := HJN.out; omega, rfl, KG.out⟩
   case measure => simp [intOf]; have := HJN.out; omega
  ·have hge : ¬ ((j : Int) < (xn : Int)) := by omega
   clear hjn
   go_wp2_with fail
   go_ret
   exact ⟨rfl, KG.out⟩
def IR (w : World) (e : Ending) (w' : World) : Prop := ∃ z : Int, e = .returned (.int .i64 z) ∧ Below w.heap.size w w'
theorem IR.is {w w' : World} (z : Int) (h : Below w.heap.size w w') : IR w (.returned (.int .i64 z)) w' := ⟨z, rfl, h⟩
def BR (w : World) (Φ : Prop) (e : Ending) (w' : World) : Prop := ∃ b : Bool, e = .returned (.bool b) ∧ (b = false → Φ) ∧ Below w.heap.size w w'
theorem BR.yes {w w' : World} {Φ : Prop} (h : Below w.heap.size w w') : BR w Φ (.returned (.bool true)) w' := ⟨true, rfl, nofun, h⟩
theorem BR.no {w w' : World} {Φ : Prop} (h : Below w.heap.size w w') (hp : Φ) : BR w Φ (.returned (.bool false)) w' := ⟨false, rfl, fun _ => hp, h⟩
set_option maxRecDepth 100000 in
set_option maxHeartbeats 4000000 in
theorem limbs_size (a : Option Addr) (n c : Nat) (w : World) : Calls Tryz.prog 84 #[.slice a n c] w fun e w' => IR w e w' := by
 go_enter Tryz.func84, Tryz.ntmps84
 go_wp2_with fail
 go_ret
 exact IR.is _ (Below.refl _ _)
set_option maxRecDepth 100000 in
set_option maxHeartbeats 4000000 in
theorem num_size (s : Bool) (a : Option Addr) (n c : Nat) (w : World) : Calls Tryz.prog 39 #[.agg #[.bool s, .slice a n c]] w fun e w' => IR w e w' := by
 obtain ⟨V, hV⟩ : ∃ V, V = w.alloc (.cells #[.bool s, .slice a n c] 26) := ⟨_, rfl⟩
 have hbV : Below w.heap.size w V := by rw [hV]; exact (Below.refl _ _).alloc (Nat.le_refl _) _
 have B1 := Lib.hid (show Bxs V w.heap.size 26 [.bool s, .slice a n c] by rw [hV]; exact Bxs.new w 26 [.bool s, .slice a n c])
 have KG := Lib.hid hbV
 have HV := Lib.hid hV
 clear hV hbV
 go_enter Tryz.func39, Tryz.ntmps39
 go_upto_region 1 with (fail)
 rw [show w.alloc (.cells #[.bool s, .slice a n c] 26) = V from HV.out.symm]
 have c0 := B1.out.cell (i := 0) rfl
 have c1 := B1.out.cell (i := 1) rfl
 go_wp2_with fail
 with_reducible refine (limbs_size _ _ _ _).mono ?_
 rintro e w1 ⟨zw1, rfl, hb⟩
 have KG := Lib.hid (KG.out.trans (hb.mono KG.out.size))
 have B1 := Lib.hid (B1.out.below hb B1.out.lt)
 clear hb c0 c1
 go_wp2_with fail
 go_ret
 exact IR.is _ KG.out
set_option maxRecDepth 100000 in
set_option maxHeartbeats 4000000 in
theorem frac_size (x : FV) (w : World) : Calls Tryz.prog 10 #[x.v] w fun e w' => IR w e w' := by
 obtain ⟨V, hV⟩ : ∃ V, V = w.alloc (.cells #[.bool x.t.s, .slice x.t.a x.t.n x.t.c, .bool x.l.s, .slice x.l.a x.l.n x.l.c] 28) := ⟨_, rfl⟩
 have hbV : Below w.heap.size w V := by rw [hV]; exact (Below.refl _ _).alloc (Nat.le_refl _) _
 have B1 := Lib.hid (show Bxs V w.heap.size 28 [.bool x.t.s, .slice x.t.a x.t.n x.t.c, .bool x.l.s, .slice x.l.a x.l.n x.l.c] by rw [hV]; exact Bxs.new w 28 [.bool x.t.s, .slice x.t.a x.t.n x.t.c, .bool x.l.s, .slice x.l.a x.l.n x.l.c])
 have KG := Lib.hid hbV
 have HV := Lib.hid hV
 clear hV hbV
 change Calls Tryz.prog 10 #[.agg #[.bool x.t.s, .slice x.t.a x.t.n x.t.c, .bool x.l.s, .slice x.l.a x.l.n x.l.c]] w _
 go_enter Tryz.func10, Tryz.ntmps10
 go_upto_region 1 with (fail)
 rw [show w.alloc (.cells #[.bool x.t.s, .slice x.t.a x.t.n x.t.c, .bool x.l.s, .slice x.l.a x.l.n x.l.c] 28) = V from HV.out.symm]
 have c0 := B1.out.cell (i := 0) rfl
 have c1 := B1.out.cell (i := 1) rfl
 have c2 := B1.out.cell (i := 2) rfl
 have c3 := B1.out.cell (i := 3) rfl
 go_wp2_with fail
 with_reducible refine (num_size _ _ _ _ _).mono ?_
 rintro e w1 ⟨zw1, rfl, hb⟩
 have KG := Lib.hid (KG.out.trans (hb.mono KG.out.size))
 have B1 := Lib.hid (B1.out.below hb B1.out.lt)
 clear hb c0 c1 c2 c3
 by_cases h : wrap64 (1 + zw1) ≤ 1048576
 ·have c0 := B1.out.cell (i := 0) rfl
  have c1 := B1.out.cell (i := 1) rfl
  have c2 := B1.out.cell (i := 2) rfl
  have c3 := B1.out.cell (i := 3) rfl
  go_wp2_with fail
  with_reducible refine (num_size _ _ _ _ _).mono ?_
  rintro e w2 ⟨z2, rfl, hb⟩
  have KG := Lib.hid (KG.out.trans (hb.mono KG.out.size))
  clear hb c0 c1 c2 c3
  go_wp2_with fail
  go_ret
  exact IR.is _ KG.out
 ·have h2 : 1048576 < wrap64 (1 + zw1) := by omega
  go_wp2_with fail
  go_ret
  exact IR.is _ KG.out
set_option maxRecDepth 100000 in
set_option maxHeartbeats 4000000 in
theorem term_size (t : TV) (w : World) : Calls Tryz.prog 83 #[TV.v t] w fun e w' => IR w e w' := by
 obtain ⟨V, hV⟩ : ∃ V, V = w.alloc (.cells #[.bool t.c.t.s, .slice t.c.t.a t.c.t.n t.c.t.c, .bool t.c.l.s, .slice t.c.l.a t.c.l.n t.c.l.c, .int .u16 t.m.x, .int .u16 t.m.y, .int .u16 t.m.z, .int .u16 t.m.t] 50) := ⟨_, rfl⟩
 have hbV : Below w.heap.size w V := by rw [hV]; exact (Below.refl _ _).alloc (Nat.le_refl _) _
 have B1 := Lib.hid (show Bxs V w.heap.size 50 [.bool t.c.t.s, .slice t.c.t.a t.c.t.n t.c.t.c, .bool t.c.l.s, .slice t.c.l.a t.c.l.n t.c.l.c, .int .u16 t.m.x, .int .u16 t.m.y, .int .u16 t.m.z, .int .u16 t.m.t] by rw [hV]; exact Bxs.new w 50 [.bool t.c.t.s, .slice t.c.t.a t.c.t.n t.c.t.c, .bool t.c.l.s, .slice t.c.l.a t.c.l.n t.c.l.c, .int .u16 t.m.x, .int .u16 t.m.y, .int .u16 t.m.z, .int .u16 t.m.t])
 have KG := Lib.hid hbV
 have HV := Lib.hid hV
 clear hV hbV
 change Calls Tryz.prog 83 #[.agg #[.bool t.c.t.s, .slice t.c.t.a t.c.t.n t.c.t.c, .bool t.c.l.s, .slice t.c.l.a t.c.l.n t.c.l.c, .int .u16 t.m.x, .int .u16 t.m.y, .int .u16 t.m.z, .int .u16 t.m.t]] w _
 go_enter Tryz.func83, Tryz.ntmps83
 go_upto_region 1 with (fail)
 rw [show w.alloc (.cells #[.bool t.c.t.s, .slice t.c.t.a t.c.t.n t.c.t.c, .bool t.c.l.s, .slice t.c.l.a t.c.l.n t.c.l.c, .int .u16 t.m.x, .int .u16 t.m.y, .int .u16 t.m.z, .int .u16 t.m.t] 50) = V from HV.out.symm]
 have c0 := B1.out.cell (i := 0) rfl
 have c1 := B1.out.cell (i := 1) rfl
 have c2 := B1.out.cell (i := 2) rfl
 have c3 := B1.out.cell (i := 3) rfl
 have c4 := B1.out.cell (i := 4) rfl
 have c5 := B1.out.cell (i := 5) rfl
 have c6 := B1.out.cell (i := 6) rfl
 have c7 := B1.out.cell (i := 7) rfl
 go_wp2_with fail
 with_reducible refine (frac_size t.c _).mono ?_
 rintro e w1 ⟨zw1, rfl, hb⟩
 have KG := Lib.hid (KG.out.trans (hb.mono KG.out.size))
 have B1 := Lib.hid (B1.out.below hb B1.out.lt)
 clear hb c0 c1 c2 c3 c4 c5 c6 c7
 go_wp2_with fail
 go_ret
 exact IR.is _ KG.out
set_option maxRecDepth 100000 in
set_option maxHeartbeats 16000000 in
theorem poly_size (x : PV) (ts : List TV) (w : World) (hr : RT w x.a ts) (hl : ts.length = x.n) (hn : x.n ≤ 1000000000) : Calls Tryz.prog 38 #[x.v] w fun e w' => IR w e w' := by
 obtain ⟨xa, xn, xc⟩ := x
 have HR := Lib.hid hr; have HL := Lib.hid (show ts.length = xn from hl); have HN := Lib.hid (show xn ≤ 1000000000 from hn)
 change Calls Tryz.prog 38 #[.slice xa xn xc] w _
 clear hr hl hn
 go_enter Tryz.func38, Tryz.ntmps38
 go_wp2_with fail
 go_loopw [3, 4] (fun s i wr => ∃ (j : Nat) (z : Int), j ≤ xn ∧ i = .int .i64 j ∧ s = .int .i64 z ∧ Below w.heap.size w wr) (fun _ i _ => xn - (intOf i).toNat)
 case atStart =>
  exact ⟨0, _, Nat.zero_le _, rfl, rfl, Below.refl _ _⟩
 case round =>
  obtain ⟨j, z, hj, rfl, rfl, hb0⟩ := hrel
  have HJ := Lib.hid hj; have KG := Lib.hid hb0
  clear hj hb0
  by_cases hjn : j < xn
  ·by_cases hz : z ≤ 1048576
   ·have HJN := Lib.hid hjn
    have hjl : j < ts.length := by rw [HL.out]; exact hjn
    obtain ⟨pb, po, rfl, hc⟩ := (HR.out.below KG.out).one (fun h => by rw [h] at hjl; simp at hjl)
    obtain ⟨t, he⟩ : ∃ t, ts[j]? = some t := ⟨_, List.getElem?_eq_getElem hjl⟩
    obtain ⟨c0, c1, c2, c3, c4, c5, c6, c7⟩ := (hc j t he).eight
    have ek : IntKind.i64.wrap ((j : Int) + 1) = (j : Int) + 1 := IntWalk.i64_in _ (by have := HJN.out; have := HN.out; omega)
    clear hc he hjl
    go_wp2_with fail
    with_reducible refine (term_size t _).mono ?_
    rintro e w1 ⟨z1, rfl, hb⟩
    have KG := Lib.hid (KG.out.trans (hb.mono KG.out.size))
    clear hb c0 c1 c2 c3 c4 c5 c6 c7
    go_wp2_with fail
    go_roundw
    case rel =>
     exact ⟨j + 1, _, by have := HJN.out; omega, rfl, rfl, KG.out⟩
    case measure => simp [intOf]; have := HJN.out; omega
   ·have hz2 : 1048576 < z := by omega
    go_wp2_with fail
    go_ret
    exact IR.is _ KG.out
  ·have hge : ¬ ((j : Int) < (xn : Int)) := by omega
   clear hjn
   go_wp2_with fail
   go_ret
   exact IR.is _ KG.out
def NotGreat (m : Nat) (ts : List TV) : Prop := ts.length ≤ m ∧ ∀ t ∈ ts, t.c.t.n ≤ 4 ∧ t.c.l.n ≤ 1
def NoneGreat (m : Nat) (Xs : List (PV × List TV)) : Prop := ∀ e ∈ Xs, NotGreat m e.2
set_option maxRecDepth 100000 in
set_option maxHeartbeats 16000000 in
theorem pgreat_any (g m k : Nat) (Xs : List (PV × List TV)) (w : World) (hk : Xs.length = k) (hc : ∀ i e, Xs[i]? = some e → w.cell? ⟨g, i, none⟩ = some e.1.v) (hr : ∀ e ∈ Xs, RT w e.1.a e.2 ∧ e.2.length = e.1.n)
  (hn : Xs.length ≤ 1000) (hm : m ≤ 1000) :
  Calls Tryz.prog 9 #[.int .i64 m, .slice (some ⟨g, 0, none⟩) k k] w (BR w (NoneGreat m Xs)) := by
 have HK := Lib.hid hk; have HC := Lib.hid hc; have HR := Lib.hid hr; have HN := Lib.hid hn; have HM := Lib.hid hm
 clear hk hc hr hn hm
 go_enter Tryz.func9, Tryz.ntmps9
 go_wp2_with fail
 go_loopw [5] (fun i wr => ∃ j : Nat, j ≤ k ∧ i = .int .i64 j ∧ (∀ i e, Xs[i]? = some e → i < j → NotGreat m e.2) ∧ Below w.heap.size w wr) (fun i _ => k - (intOf i).toNat)
 case atStart =>
  exact ⟨0, Nat.zero_le _, rfl, fun i e _ h => absurd h (Nat.not_lt_zero _), Below.refl _ _⟩
 case round =>
  obtain ⟨j, hj, rfl, hg, hb0⟩ := hrel
  have HJ := Lib.hid hj; have HG := Lib.hid hg; have KG := Lib.hid hb0
  clear hj hg hb0
  by_cases hjn : j < k
  ·have HJN := Lib.hid hjn
   obtain ⟨⟨⟨xa, xn, xc⟩, ts⟩, he⟩ : ∃ e, Xs[j]? = some e := ⟨_, List.getElem?_eq_getElem (by rw [HK.out]; exact hjn)⟩
   have HE := Lib.hid he
   have CG := Lib.hid (show ∀ w2, Below w.heap.size w w2 → w2.cell? ⟨g, j, none⟩ = some (.slice xa xn xc) from fun (w2 : World) (h : Below w.heap.size w w2) => (h.cell (p := ⟨g, j, none⟩) (block_lt_of_cell (HC.out j _ he))).trans (HC.out j _ he))
   have c0 := CG.out _ KG.out
   obtain ⟨r1, r2⟩ := HR.out _ (List.mem_of_getElem? he)
   have RX := Lib.hid r1; have LX := Lib.hid (show ts.length = xn from r2)
   have ek : IntKind.i64.wrap ((j : Int) + 1) = (j : Int) + 1 := IntWalk.i64_in _ (by have := HJN.out; have := HK.out; have := HN.out; omega)
   have em : IntKind.i64.wrap (40 * (m : Int)) = 40 * (m : Int) := IntWalk.i64_in _ (by have := HM.out; omega)
   clear he r1 r2
   by_cases hxm : xn ≤ m
   ·have HXM := Lib.hid hxm
    have NX := Lib.hid (show xn ≤ 1000000000 by have := HM.out; omega)
    have h1 : ¬ ((xn : Int) > (m : Int)) := by omega
    have h2 : ¬ ((m : Int) < (xn : Int)) := by omega
    have PS := Lib.hid (poly_size ⟨xa, xn, xc⟩ ts wr (RX.out.below KG.out) LX.out NX.out)
    clear hxm
    go_wp2_with fail
    with_reducible refine PS.out.mono ?_
    rintro e w1 ⟨z, rfl, hb⟩
    have KG := Lib.hid (KG.out.trans (hb.mono KG.out.size))
    clear hb PS c0
    by_cases hz : z > 40 * (m : Int)
    ·have hz2 : 40 * (m : Int) < z := hz
     go_wp2_with fail
     go_ret
     exact BR.yes KG.out
    ·have hz2 : ¬ (40 * (m : Int) < z) := hz
     go_wp2_with fail
     go_loopw [6] (fun i wr => ∃ l : Nat, l ≤ xn ∧ i = .int .i64 l ∧ (∀ i t, ts[i]? = some t → i < l → t.c.t.n ≤ 4 ∧ t.c.l.n ≤ 1) ∧ Below w.heap.size w wr) (fun i _ => xn - (intOf i).toNat)
     case atStart =>
      exact ⟨0, Nat.zero_le _, rfl, fun i e _ h => absurd h (Nat.not_lt_zero _), KG.out⟩
     case round =>
      obtain ⟨l, hl, rfl, hg2, hb0⟩ := hrel
      have HL := Lib.hid hl; have HG2 := Lib.hid hg2; have KG := Lib.hid hb0
      clear hl hg2 hb0
      have c0 := CG.out _ KG.out
      by_cases hln : l < xn
      ·have HLN := Lib.hid hln
       have hll : l < ts.length := by rw [LX.out]; exact hln
       obtain ⟨pb, po, rfl, hc⟩ := (RX.out.below KG.out).one (fun h => by rw [h] at hll; simp at hll)
       obtain ⟨t, ht⟩ : ∃ t, ts[l]? = some t := ⟨_, List.getElem?_eq_getElem hll⟩
       obtain ⟨d0, d1, d2, d3, d4, d5, d6, d7⟩ := (hc l t ht).eight
       have HT := Lib.hid ht
       have el : IntKind.i64.wrap ((l : Int) + 1) = (l : Int) + 1 := IntWalk.i64_in _ (by have := HLN.out; have := NX.out; omega)
       clear hc ht hll
       by_cases h4 : t.c.t.n ≤ 4
       ·have g1 : ¬ ((t.c.t.n : Int) > 4) := by omega
        have g2 : ¬ ((4 : Int) < (t.c.t.n : Int)) := by omega
        by_cases h5 : t.c.l.n ≤ 1
        ·have g3 : ¬ ((t.c.l.n : Int) > 1) := by omega
         have g4 : ¬ ((1 : Int) < (t.c.l.n : Int)) := by omega
         have H45 := Lib.hid (show t.c.t.n ≤ 4 ∧ t.c.l.n ≤ 1 from ⟨h4, h5⟩)
         clear h4 h5
         go_wp2_with fail
         go_roundw
         case rel =>
          refine ⟨l + 1, by have := HLN.out; omega, rfl, fun i t' h1 h2 => ?_, KG.out⟩
          by_cases h3 : i < l
          ·exact HG2.out i t' h1 h3
          ·obtain rfl : i = l := by omega
           rw [HT.out] at h1
           obtain rfl := Option.some.inj h1
           exact H45.out
         case measure => simp [intOf]; have := HLN.out; omega
        ·have g3 : (t.c.l.n : Int) > 1 := by omega
         have g4 : (1 : Int) < (t.c.l.n : Int) := by omega
         clear h4 h5
         go_wp2_with fail
         go_ret
         exact BR.yes KG.out
       ·have g1 : (t.c.t.n : Int) > 4 := by omega
        have g2 : (4 : Int) < (t.c.t.n : Int) := by omega
        clear h4
        go_wp2_with fail
        go_ret
        exact BR.yes KG.out
      ·have hge : ¬ ((l : Int) < (xn : Int)) := by omega
       have HLE := Lib.hid (show l = xn by have := HL.out; omega)
       clear hln
       go_wp2_with fail
       go_roundw
       case rel =>
        refine ⟨j + 1, by have := HJN.out; omega, rfl, fun i e' h1 h2 => ?_, KG.out⟩
        by_cases h3 : i < j
        ·exact HG.out i e' h1 h3
        ·obtain rfl : i = j := by omega
         rw [HE.out] at h1
         obtain rfl := Option.some.inj h1
         refine ⟨by have h5 := LX.out; have h6 := HXM.out; show ts.length ≤ m; omega, fun t ht => ?_⟩
         obtain ⟨i2, h7⟩ := List.mem_iff_getElem?.1 (show t ∈ ts from ht)
         exact HG2.out i2 t h7 (by have h8 := (List.getElem?_eq_some_iff.1 h7).1; have h5 := LX.out; have h9 := HLE.out; omega)
       case measure => simp [intOf]; have := HJN.out; omega
   ·have h1 : (xn : Int) > (m : Int) := by omega
    have h2 : (m : Int) < (xn : Int) := by omega
    clear hxm
    go_wp2_with fail
    go_ret
    exact BR.yes KG.out
  ·have hge : ¬ ((j : Int) < (k : Int)) := by omega
   have HJE := Lib.hid (show j = k by have := HJ.out; omega)
   clear hjn
   go_wp2_with fail
   go_ret
   refine BR.no KG.out fun e he => ?_
   obtain ⟨i, h⟩ := List.mem_iff_getElem?.1 he
   exact HG.out i e h (by have h8 := (List.getElem?_eq_some_iff.1 h).1; have h9 := HJE.out; have := HK.out; omega)
def letM (i : Nat) : Mo := if i = 0 then ⟨1, 0, 0, 0⟩ else if i = 1 then ⟨0, 1, 0, 0⟩ else if i = 2 then ⟨0, 0, 1, 0⟩ else ⟨0, 0, 0, 1⟩
theorem letM_small (i : Nat) : (letM i).Small := by
 unfold letM
 split
 ·exact ⟨by decide, by decide, by decide, by decide⟩
 ·split
  ·exact ⟨by decide, by decide, by decide, by decide⟩
  ·split <;> exact ⟨by decide, by decide, by decide, by decide⟩
set_option maxRecDepth 100000 in
set_option maxHeartbeats 4000000 in
theorem only_0 (w : World) : Calls Tryz.prog 81 #[.int .i64 0] w fun e w' => e = .returned (Mo.v (letM 0)) ∧ Below w.heap.size w w' := by
 obtain ⟨V, hV⟩ : ∃ V, V = w.alloc (.cells #[.int .u16 0, .int .u16 0, .int .u16 0, .int .u16 0] 48) := ⟨_, rfl⟩
 have B1 := Lib.hid (show Bxs V w.heap.size 48 [.int .u16 0, .int .u16 0, .int .u16 0, .int .u16 0] by rw [hV]; exact Bxs.new w 48 [.int .u16 0, .int .u16 0, .int .u16 0, .int .u16 0])
 have hbV : Below w.heap.size w V := by rw [hV]; exact (Below.refl _ _).alloc (Nat.le_refl _) _
 have KG := Lib.hid hbV
 have HV := Lib.hid hV
 clear hV hbV
 go_enter Tryz.func81, Tryz.ntmps81
 go_upto_region 1 with (fail)
 rw [show w.alloc (.cells #[.int .u16 0, .int .u16 0, .int .u16 0, .int .u16 0] 48) = V from HV.out.symm]
 have c0 := B1.out.cell (i := 0) rfl
 have c1 := B1.out.cell (i := 1) rfl
 have c2 := B1.out.cell (i := 2) rfl
 have c3 := B1.out.cell (i := 3) rfl
 have cf := B1.out.fz
 have cl := B1.out.lt
 go_upto_region 2 with (fail)
 clear c0 c1 c2 c3 cf cl
 obtain ⟨U, hU⟩ : ∃ U, U = V.setCell ⟨w.heap.size, 0, none⟩ (.int .u16 1) := ⟨_, rfl⟩
 have B2 := Lib.hid (show Bxs U w.heap.size 48 [.int .u16 1, .int .u16 0, .int .u16 0, .int .u16 0] by rw [hU]; exact B1.out.put 0 _)
 have KG := Lib.hid (show Below w.heap.size w U by rw [hU]; exact KG.out.setCell (Nat.le_refl _) _)
 rw [← hU]
 clear hU
 have c0 := B2.out.cell (i := 0) rfl
 have c1 := B2.out.cell (i := 1) rfl
 have c2 := B2.out.cell (i := 2) rfl
 have c3 := B2.out.cell (i := 3) rfl
 have cf := B2.out.fz
 have cl := B2.out.lt
 go_wp2_with fail
 refine bodyPost_ret (results_cell rfl _ _ _ _ _ _ _ rfl ((((B2.out.put 0 (.int .u16 1)).put 1 (.int .u16 0)).put 2 (.int .u16 0)).put 3 (.int .u16 0)) Tryz.underlying48 rfl (by kernel_rfl)) rfl ⟨rfl, ?_⟩
 exact (((KG.out.setCell (Nat.le_refl _) _).setCell (Nat.le_refl _) _).setCell (Nat.le_refl _) _).setCell (Nat.le_refl _) _
set_option maxRecDepth 100000 in
set_option maxHeartbeats 4000000 in
theorem only_1 (w : World) : Calls Tryz.prog 81 #[.int .i64 1] w fun e w' => e = .returned (Mo.v (letM 1)) ∧ Below w.heap.size w w' := by
 obtain ⟨V, hV⟩ : ∃ V, V = w.alloc (.cells #[.int .u16 0, .int .u16 0, .int .u16 0, .int .u16 0] 48) := ⟨_, rfl⟩
 have B1 := Lib.hid (show Bxs V w.heap.size 48 [.int .u16 0, .int .u16 0, .int .u16 0, .int .u16 0] by rw [hV]; exact Bxs.new w 48 [.int .u16 0, .int .u16 0, .int .u16 0, .int .u16 0])
 have hbV : Below w.heap.size w V := by rw [hV]; exact (Below.refl _ _).alloc (Nat.le_refl _) _
 have KG := Lib.hid hbV
 have HV := Lib.hid hV
 clear hV hbV
 go_enter Tryz.func81, Tryz.ntmps81
 go_upto_region 1 with (fail)
 rw [show w.alloc (.cells #[.int .u16 0, .int .u16 0, .int .u16 0, .int .u16 0] 48) = V from HV.out.symm]
 have c0 := B1.out.cell (i := 0) rfl
 have c1 := B1.out.cell (i := 1) rfl
 have c2 := B1.out.cell (i := 2) rfl
 have c3 := B1.out.cell (i := 3) rfl
 have cf := B1.out.fz
 have cl := B1.out.lt
 go_upto_region 2 with (fail)
 clear c0 c1 c2 c3 cf cl
 obtain ⟨U, hU⟩ : ∃ U, U = V.setCell ⟨w.heap.size, 1, none⟩ (.int .u16 1) := ⟨_, rfl⟩
 have B2 := Lib.hid (show Bxs U w.heap.size 48 [.int .u16 0, .int .u16 1, .int .u16 0, .int .u16 0] by rw [hU]; exact B1.out.put 1 _)
 have KG := Lib.hid (show Below w.heap.size w U by rw [hU]; exact KG.out.setCell (Nat.le_refl _) _)
 rw [← hU]
 clear hU
 have c0 := B2.out.cell (i := 0) rfl
 have c1 := B2.out.cell (i := 1) rfl
 have c2 := B2.out.cell (i := 2) rfl
 have c3 := B2.out.cell (i := 3) rfl
 have cf := B2.out.fz
 have cl := B2.out.lt
 go_wp2_with fail
 refine bodyPost_ret (results_cell rfl _ _ _ _ _ _ _ rfl ((((B2.out.put 0 (.int .u16 0)).put 1 (.int .u16 1)).put 2 (.int .u16 0)).put 3 (.int .u16 0)) Tryz.underlying48 rfl (by kernel_rfl)) rfl ⟨rfl, ?_⟩
 exact (((KG.out.setCell (Nat.le_refl _) _).setCell (Nat.le_refl _) _).setCell (Nat.le_refl _) _).setCell (Nat.le_refl _) _
set_option maxRecDepth 100000 in
set_option maxHeartbeats 4000000 in
theorem only_2 (w : World) : Calls Tryz.prog 81 #[.int .i64 2] w fun e w' => e = .returned (Mo.v (letM 2)) ∧ Below w.heap.size w w' := by
 obtain ⟨V, hV⟩ : ∃ V, V = w.alloc (.cells #[.int .u16 0, .int .u16 0, .int .u16 0, .int .u16 0] 48) := ⟨_, rfl⟩
 have B1 := Lib.hid (show Bxs V w.heap.size 48 [.int .u16 0, .int .u16 0, .int .u16 0, .int .u16 0] by rw [hV]; exact Bxs.new w 48 [.int .u16 0, .int .u16 0, .int .u16 0, .int .u16 0])
 have hbV : Below w.heap.size w V := by rw [hV]; exact (Below.refl _ _).alloc (Nat.le_refl _) _
 have KG := Lib.hid hbV
 have HV := Lib.hid hV
 clear hV hbV
 go_enter Tryz.func81, Tryz.ntmps81
 go_upto_region 1 with (fail)
 rw [show w.alloc (.cells #[.int .u16 0, .int .u16 0, .int .u16 0, .int .u16 0] 48) = V from HV.out.symm]
 have c0 := B1.out.cell (i := 0) rfl
 have c1 := B1.out.cell (i := 1) rfl
 have c2 := B1.out.cell (i := 2) rfl
 have c3 := B1.out.cell (i := 3) rfl
 have cf := B1.out.fz
 have cl := B1.out.lt
 go_upto_region 2 with (fail)
 clear c0 c1 c2 c3 cf cl
 obtain ⟨U, hU⟩ : ∃ U, U = V.setCell ⟨w.heap.size, 2, none⟩ (.int .u16 1) := ⟨_, rfl⟩
 have B2 := Lib.hid (show Bxs U w.heap.size 48 [.int .u16 0, .int .u16 0, .int .u16 1, .int .u16 0] by rw [hU]; exact B1.out.put 2 _)
 have KG := Lib.hid (show Below w.heap.size w U by rw [hU]; exact KG.out.setCell (Nat.le_refl _) _)
 rw [← hU]
 clear hU
 have c0 := B2.out.cell (i := 0) rfl
 have c1 := B2.out.cell (i := 1) rfl
 have c2 := B2.out.cell (i := 2) rfl
 have c3 := B2.out.cell (i := 3) rfl
 have cf := B2.out.fz
 have cl := B2.out.lt
 go_wp2_with fail
 refine bodyPost_ret (results_cell rfl _ _ _ _ _ _ _ rfl ((((B2.out.put 0 (.int .u16 0)).put 1 (.int .u16 0)).put 2 (.int .u16 1)).put 3 (.int .u16 0)) Tryz.underlying48 rfl (by kernel_rfl)) rfl ⟨rfl, ?_⟩
 exact (((KG.out.setCell (Nat.le_refl _) _).setCell (Nat.le_refl _) _).setCell (Nat.le_refl _) _).setCell (Nat.le_refl _) _
set_option maxRecDepth 100000 in
set_option maxHeartbeats 4000000 in
theorem only_3 (w : World) : Calls Tryz.prog 81 #[.int .i64 3] w fun e w' => e = .returned (Mo.v (letM 3)) ∧ Below w.heap.size w w' := by
 obtain ⟨V, hV⟩ : ∃ V, V = w.alloc (.cells #[.int .u16 0, .int .u16 0, .int .u16 0, .int .u16 0] 48) := ⟨_, rfl⟩
 have B1 := Lib.hid (show Bxs V w.heap.size 48 [.int .u16 0, .int .u16 0, .int .u16 0, .int .u16 0] by rw [hV]; exact Bxs.new w 48 [.int .u16 0, .int .u16 0, .int .u16 0, .int .u16 0])
 have hbV : Below w.heap.size w V := by rw [hV]; exact (Below.refl _ _).alloc (Nat.le_refl _) _
 have KG := Lib.hid hbV
 have HV := Lib.hid hV
 clear hV hbV
 go_enter Tryz.func81, Tryz.ntmps81
 go_upto_region 1 with (fail)
 rw [show w.alloc (.cells #[.int .u16 0, .int .u16 0, .int .u16 0, .int .u16 0] 48) = V from HV.out.symm]
 have c0 := B1.out.cell (i := 0) rfl
 have c1 := B1.out.cell (i := 1) rfl
 have c2 := B1.out.cell (i := 2) rfl
 have c3 := B1.out.cell (i := 3) rfl
 have cf := B1.out.fz
 have cl := B1.out.lt
 go_upto_region 2 with (fail)
 clear c0 c1 c2 c3 cf cl
 obtain ⟨U, hU⟩ : ∃ U, U = V.setCell ⟨w.heap.size, 3, none⟩ (.int .u16 1) := ⟨_, rfl⟩
 have B2 := Lib.hid (show Bxs U w.heap.size 48 [.int .u16 0, .int .u16 0, .int .u16 0, .int .u16 1] by rw [hU]; exact B1.out.put 3 _)
 have KG := Lib.hid (show Below w.heap.size w U by rw [hU]; exact KG.out.setCell (Nat.le_refl _) _)
 rw [← hU]
 clear hU
 have c0 := B2.out.cell (i := 0) rfl
 have c1 := B2.out.cell (i := 1) rfl
 have c2 := B2.out.cell (i := 2) rfl
 have c3 := B2.out.cell (i := 3) rfl
 have cf := B2.out.fz
 have cl := B2.out.lt
 go_wp2_with fail
 refine bodyPost_ret (results_cell rfl _ _ _ _ _ _ _ rfl ((((B2.out.put 0 (.int .u16 0)).put 1 (.int .u16 0)).put 2 (.int .u16 0)).put 3 (.int .u16 1)) Tryz.underlying48 rfl (by kernel_rfl)) rfl ⟨rfl, ?_⟩
 exact (((KG.out.setCell (Nat.le_refl _) _).setCell (Nat.le_refl _) _).setCell (Nat.le_refl _) _).setCell (Nat.le_refl _) _
theorem only_any (i : Nat) (hi : i < 4) (w : World) : Calls Tryz.prog 81 #[.int .i64 (i : Int)] w fun e w' => e = .returned (Mo.v (letM i)) ∧ Below w.heap.size w w' := by
 obtain rfl | rfl | rfl | rfl : i = 0 ∨ i = 1 ∨ i = 2 ∨ i = 3 := by omega
 ·exact only_0 w
 ·exact only_1 w
 ·exact only_2 w
 ·exact only_3 w
def letP (i : Nat) : List Tm := [(letM i, 1)]
theorem letP_canon (i : Nat) : Canon (letP i) := ⟨List.pairwise_singleton _ _, fun t ht => by rw [List.mem_singleton.1 ht]; show (1 : Rat) ≠ 0; decide +kernel⟩
set_option maxRecDepth 100000 in
set_option maxHeartbeats 4000000 in
theorem letter_k (i : Nat) (hi : i < 4) (w : World) : Calls Tryz.prog 34 #[.int .i64 (i : Int)] w fun e w' => ∃ z : PV, e = .returned (.tuple #[z.v, .int .i64 0]) ∧ DP w' w.heap.size z (letP i) ∧ Below w.heap.size w w' := by
 have OF := Lib.hid (qof 1 w (by decide) (by decide))
 have HI := Lib.hid hi
 have h1 : ¬ ((i : Int) < 0) := by omega
 have h2 : ¬ ((4 : Int) ≤ (i : Int)) := by omega
 have h3 : ¬ ((i : Int) ≥ 4) := by omega
 clear hi
 go_enter Tryz.func34, Tryz.ntmps34
 go_wp2_with fail
 with_reducible refine OF.out.mono ?_
 rintro e w1 ⟨c, rfl, hc, hb⟩
 have HC := Lib.hid hc
 have KG := Lib.hid hb
 have ON := Lib.hid (only_any i HI.out w1)
 clear hc hb OF
 go_wp2_with fail
 with_reducible refine ON.out.mono ?_
 rintro e w2 ⟨rfl, hb⟩
 have HC := Lib.hid (HC.out.below hb)
 have KG := Lib.hid (KG.out.trans (hb.mono KG.out.size))
 clear hb ON
 go_wp2_with fail
 go_ret2
 have hal : Below w2.heap.size w2 (w2.alloc (.cells (TV.cells ⟨c, letM i⟩).toArray 50)) := (Below.refl _ _).alloc (Nat.le_refl _) _
 refine ⟨⟨some ⟨w2.heap.size, 0, none⟩, 1, 1⟩, rfl, ?_, KG.out.trans (hal.mono KG.out.size)⟩
 refine ⟨⟨[(⟨c, letM i⟩, 1)], ?_, fun e he => ?_, List.pairwise_singleton _ _, rfl⟩, letP_canon i, fun t ht => ?_⟩
 ·show World.ownsRow _ _ _ _ _ _ _
  exact World.ownsRow_lit (base := w.heap.size) (e := 50) (size := 8) w2 (TV.cells ⟨c, letM i⟩).toArray 1 KG.out.size (by decide) rfl
 ·rw [List.mem_singleton.1 he]
  exact HC.out.below hal
 ·rw [List.mem_singleton.1 ht]
  exact letM_small i
end Go.Proofs.YthcccdjfedbnfaaGreatDoor.Pol
namespace Go.Proofs.YthcccdjfedbnfaaGreatDoor.Pol
open Go.RowKit Go.Sort Go.Proofs.YthcccdjfedbnfaaGreatDoor.Limb Go.ChangeShapes Go.WideShapes Go.ChangeAt
set_option maxRecDepth 100000 in
set_option maxHeartbeats 4000000 in
theorem limbs_sizeX (a : Option Addr) (n c : Nat) (w : World) : Calls Tryz.prog 84 #[.slice a n c] w fun e w' => e = .returned (.int .i64 n) ∧ Below w.heap.size w w' := by
 go_enter Tryz.func84, Tryz.ntmps84
 go_wp2_with fail
 go_ret
 exact ⟨rfl, Below.refl _ _⟩
set_option maxRecDepth 100000 in
set_option maxHeartbeats 4000000 in
theorem num_sizeX (s : Bool) (a : Option Addr) (n c : Nat) (w : World) (hn : n ≤ 281474976710656) : Calls Tryz.prog 39 #[.agg #[.bool s, .slice a n c]] w fun e w' => e = .returned (.int .i64 (1 + (n : Int))) ∧ Below w.heap.size w w' := by
 have en : IntKind.i64.wrap (1 + (n : Int)) = 1 + (n : Int) := IntWalk.i64_in _ (by omega)
 have en2 : wrap64 (1 + (n : Int)) = 1 + (n : Int) := by unfold wrap64; omega
 obtain ⟨V, hV⟩ : ∃ V, V = w.alloc (.cells #[.bool s, .slice a n c] 26) := ⟨_, rfl⟩
 have hbV : Below w.heap.size w V := by rw [hV]; exact (Below.refl _ _).alloc (Nat.le_refl _) _
 have B1 := Lib.hid (show Bxs V w.heap.size 26 [.bool s, .slice a n c] by rw [hV]; exact Bxs.new w 26 [.bool s, .slice a n c])
 have KG := Lib.hid hbV
 have HV := Lib.hid hV
 clear hV hbV
 go_enter Tryz.func39, Tryz.ntmps39
 go_upto_region 1 with (fail)
 rw [show w.alloc (.cells #[.bool s, .slice a n c] 26) = V from HV.out.symm]
 have c0 := B1.out.cell (i := 0) rfl
 have c1 := B1.out.cell (i := 1) rfl
 go_wp2_with fail
 with_reducible refine (limbs_sizeX _ _ _ _).mono ?_
 rintro e w1 ⟨rfl, hb⟩
 have KG := Lib.hid (KG.out.trans (hb.mono KG.out.size))
 have B1 := Lib.hid (B1.out.below hb B1.out.lt)
 clear hb c0 c1
 go_wp2_with fail
 go_ret
 exact ⟨rfl, KG.out⟩
structure FZ (x : FV) (z : Int) : Prop where
 lo : 0 ≤ z
 hi : z ≤ 1000000000000000
 is : z ≤ 1000 → x.t.n ≤ z.toNat ∧ x.l.n ≤ z.toNat
def FSz (w : World) (x : FV) (e : Ending) (w' : World) : Prop := ∃ z : Int, e = .returned (.int .i64 z) ∧ FZ x z ∧ Below w.heap.size w w'
set_option maxRecDepth 100000 in
set_option maxHeartbeats 4000000 in
theorem frac_sizeX (x : FV) (w : World) (ht : x.t.n ≤ 281474976710656) (hl : x.l.n ≤ 281474976710656) : Calls Tryz.prog 10 #[x.v] w (FSz w x) := by
 have e1 : IntKind.i64.wrap (1 + (1 + (x.t.n : Int))) = 1 + (1 + (x.t.n : Int)) := IntWalk.i64_in _ (by omega)
 have e1b : wrap64 (1 + (1 + (x.t.n : Int))) = 1 + (1 + (x.t.n : Int)) := by unfold wrap64; omega
 have e2 : IntKind.i64.wrap (1 + (1 + (x.t.n : Int)) + (1 + (x.l.n : Int))) = 1 + (1 + (x.t.n : Int)) + (1 + (x.l.n : Int)) := IntWalk.i64_in _ (by omega)
 have e2b : wrap64 (1 + (1 + (x.t.n : Int)) + (1 + (x.l.n : Int))) = 1 + (1 + (x.t.n : Int)) + (1 + (x.l.n : Int)) := by unfold wrap64; omega
 obtain ⟨V, hV⟩ : ∃ V, V = w.alloc (.cells #[.bool x.t.s, .slice x.t.a x.t.n x.t.c, .bool x.l.s, .slice x.l.a x.l.n x.l.c] 28) := ⟨_, rfl⟩
 have hbV : Below w.heap.size w V := by rw [hV]; exact (Below.refl _ _).alloc (Nat.le_refl _) _
 have B1 := Lib.hid (show Bxs V w.heap.size 28 [.bool x.t.s, .slice x.t.a x.t.n x.t.c, .bool x.l.s, .slice x.l.a x.l.n x.l.c] by rw [hV]; exact Bxs.new w 28 [.bool x.t.s, .slice x.t.a x.t.n x.t.c, .bool x.l.s, .slice x.l.a x.l.n x.l.c])
 have KG := Lib.hid hbV
 have HV := Lib.hid hV
 clear hV hbV
 change Calls Tryz.prog 10 #[.agg #[.bool x.t.s, .slice x.t.a x.t.n x.t.c, .bool x.l.s, .slice x.l.a x.l.n x.l.c]] w _
 go_enter Tryz.func10, Tryz.ntmps10
 go_upto_region 1 with (fail)
 rw [show w.alloc (.cells #[.bool x.t.s, .slice x.t.a x.t.n x.t.c, .bool x.l.s, .slice x.l.a x.l.n x.l.c] 28) = V from HV.out.symm]
 have c0 := B1.out.cell (i := 0) rfl
 have c1 := B1.out.cell (i := 1) rfl
 have c2 := B1.out.cell (i := 2) rfl
 have c3 := B1.out.cell (i := 3) rfl
 go_wp2_with fail
 with_reducible refine (num_sizeX _ _ _ _ _ ht).mono ?_
 rintro e w1 ⟨rfl, hb⟩
 have KG := Lib.hid (KG.out.trans (hb.mono KG.out.size))
 have B1 := Lib.hid (B1.out.below hb B1.out.lt)
 clear hb c0 c1 c2 c3
 by_cases h : 1 + (1 + (x.t.n : Int)) ≤ 1048576
 ·have c0 := B1.out.cell (i := 0) rfl
  have c1 := B1.out.cell (i := 1) rfl
  have c2 := B1.out.cell (i := 2) rfl
  have c3 := B1.out.cell (i := 3) rfl
  go_wp2_with fail
  with_reducible refine (num_sizeX _ _ _ _ _ hl).mono ?_
  rintro e w2 ⟨rfl, hb⟩
  have KG := Lib.hid (KG.out.trans (hb.mono KG.out.size))
  clear hb c0 c1 c2 c3
  go_wp2_with fail
  go_ret
  exact ⟨_, rfl, ⟨by omega, by omega, fun _ => ⟨by omega, by omega⟩⟩, KG.out⟩
 ·have h2 : 1048576 < 1 + (1 + (x.t.n : Int)) := by omega
  go_wp2_with fail
  go_ret
  exact ⟨_, rfl, ⟨by omega, by omega, fun h => by omega⟩, KG.out⟩
theorem open_listW {H : Type} {enc : TypeId × Value → H} {W : World} {sp : Nat → Bool} {hd : Bool} {fuel : Nat} {v : Value} {x : DataW H × List MemPlace}
  (h : DataW.trod enc Tryz.prog W 0 sp hd fuel 24 [v] = some x) (hw : ∀ k ∈ x.1.weights Tryz.prog 24, k ≤ reachBytes) {a : Option Addr} {n c : Nat} (hv : v = .slice a n c) : n ≤ 281474976710656 := by
 rcases DataW.trod_slice Tryz.underlying24 h with ⟨e, _⟩ | ⟨a', len, cap, elems, rest, m, _, e, hx, _, hl, _, hel, _, _⟩
 ·rw [hv] at e
  simp only [List.cons.injEq, Value.slice.injEq, and_true] at e
  omega
 ·rw [hv] at e
  simp only [List.cons.injEq, Value.slice.injEq, and_true] at e
  have h1 := hw ((elems.map (·.1)).length * 1 + 0) 
  rw [hx] at hw
  have h2 := hw (((elems.map (·.1)).length + (rest.map (·.1)).length) * Tryz.prog.bytesOf 110) (by unfold DataW.weights; rw [Tryz.underlying24]; exact List.mem_cons_self)
  rw [show Tryz.prog.bytesOf 110 = 4 by kernel_rfl, List.length_map, List.length_map] at h2
  have h3 : reachBytes = 140737488351232 := by decide
  omega
theorem weights_part {H : Type} {t : TypeId} {fs : Array Field} (ht : Tryz.prog.underlying t = some (.struct fs)) {parts : List (DataW H)} {B : Nat} (hw : ∀ k ∈ (DataW.agg parts).weights Tryz.prog t, k ≤ B) {i : Nat} {f : Field} (hf : fs[i]? = some f) {d : DataW H} (hd : parts[i]? = some d) : ∀ k ∈ d.weights Tryz.prog f.type, k ≤ B := fun k hk => by
 refine hw k ?_
 unfold DataW.weights
 rw [ht]
 exact DataW.weights_mem_each (t := f.type) (by rw [List.getElem?_map, Array.getElem?_toList, hf]; rfl) hd k hk
set_option maxRecDepth 100000 in
theorem open_numW {H : Type} {enc : TypeId × Value → H} {W : World} {sp : Nat → Bool} {hd : Bool} {fuel : Nat} {l : List Value} {x : DataW H × List MemPlace}
  (hf : DataW.trod enc Tryz.prog W 0 sp hd fuel 26 l = some x) (hw : ∀ k ∈ x.1.weights Tryz.prog 26, k ≤ reachBytes) : ∃ s a n c o, l = [.bool s, .slice a n c] ∧ Rd W a n o ∧ n ≤ c ∧ n ≤ 281474976710656 := by
 obtain ⟨xs, m, _, hx, hlen, hxl, hfld⟩ := DataW.trod_struct Tryz.underlying26 hf
 have hlen : l.length = 2 := hlen.trans cellsNum
 obtain ⟨x0, x1, rfl⟩ : ∃ x0 x1, l = [x0, x1] := by
  match l, hlen with
  | [x0, x1], _ => exact ⟨x0, x1, rfl⟩
 have h0 : DataW.trod enc Tryz.prog W 0 sp hd m 4 (([x0, x1].drop 0).take (Tryz.prog.cellsOf 4)) = xs[0]? := hfld 0 _ rfl
 have h1 : DataW.trod enc Tryz.prog W 0 sp hd m 24 (([x0, x1].drop 1).take (Tryz.prog.cellsOf 24)) = xs[1]? := hfld 1 _ rfl
 have hx2 : xs.length = 2 := hxl
 rw [List.getElem?_eq_getElem (by omega)] at h0
 rw [List.getElem?_eq_getElem (by omega)] at h1
 rw [cellsBool] at h0
 rw [cellsList] at h1
 obtain ⟨s, e0, _⟩ := DataW.trod_bool Tryz.underlying4 h0
 obtain ⟨a, n, c, o, e1, hr, hl⟩ := open_list (v := x1) h1
 have e0 : x0 = .bool s := by
  have : [x0] = [Value.bool s] := e0
  simpa using this
 rw [hx] at hw
 have hn := open_listW (v := x1) h1 (weights_part Tryz.underlying26 hw (i := 1) rfl (by rw [List.getElem?_map, List.getElem?_eq_getElem (by omega)]; rfl)) e1
 exact ⟨s, a, n, c, o, by rw [e0, e1], hr, hl, hn⟩
structure AQ (w : World) (x : FV) : Prop where
 af : ∃ q, AF w x q
 cs : (∃ q, KF w x q) ∨ BF w x
 t : x.t.n ≤ 281474976710656
 l : x.l.n ≤ 281474976710656
set_option maxRecDepth 100000 in
theorem open_fracTW {H : Type} {enc : TypeId × Value → H} {W : World} {sp : Nat → Bool} {hd : Bool} {fuel : Nat} {l : List Value} {x : DataW H × List MemPlace}
  (hf : DataW.trod enc Tryz.prog W 0 sp hd fuel 28 l = some x) (hw : ∀ k ∈ x.1.weights Tryz.prog 28, k ≤ reachBytes) : ∃ y : FV, l = [.bool y.t.s, .slice y.t.a y.t.n y.t.c, .bool y.l.s, .slice y.l.a y.l.n y.l.c] ∧ AQ W y := by
 obtain ⟨xs, m, _, hx, hlen, hxl, hfld⟩ := DataW.trod_struct Tryz.underlying28 hf
 have hlen : l.length = 4 := hlen.trans cellsFrac
 obtain ⟨x0, x1, x2, x3, rfl⟩ : ∃ x0 x1 x2 x3, l = [x0, x1, x2, x3] := by
  match l, hlen with
  | [x0, x1, x2, x3], _ => exact ⟨x0, x1, x2, x3, rfl⟩
 have h0 : DataW.trod enc Tryz.prog W 0 sp hd m 26 (([x0, x1, x2, x3].drop 0).take (Tryz.prog.cellsOf 26)) = xs[0]? := hfld 0 _ rfl
 have h1 : DataW.trod enc Tryz.prog W 0 sp hd m 26 (([x0, x1, x2, x3].drop 2).take (Tryz.prog.cellsOf 26)) = xs[1]? := hfld 1 _ rfl
 have hx2 : xs.length = 2 := hxl
 rw [List.getElem?_eq_getElem (by omega)] at h0
 rw [List.getElem?_eq_getElem (by omega)] at h1
 rw [cellsNum] at h0 h1
 rw [hx] at hw
 obtain ⟨s1, a1, n1, c1, o1, e1, r1, l1, w1⟩ := open_numW h0 (weights_part Tryz.underlying28 hw (i := 0) rfl (by rw [List.getElem?_map, List.getElem?_eq_getElem (by omega)]; rfl))
 obtain ⟨s2, a2, n2, c2, o2, e2, r2, l2, w2⟩ := open_numW h1 (weights_part Tryz.underlying28 hw (i := 1) rfl (by rw [List.getElem?_map, List.getElem?_eq_getElem (by omega)]; rfl))
 have e1 : [x0, x1] = [.bool s1, .slice a1 n1 c1] := e1
 have e2 : [x2, x3] = [.bool s2, .slice a2 n2 c2] := e2
 simp only [List.cons.injEq, and_true] at e1 e2
 refine ⟨⟨⟨s1, a1, n1, c1⟩, ⟨s2, a2, n2, c2⟩⟩, by rw [e1.1, e1.2, e2.1, e2.2], ⟨_, AF.raw r1 l1 r2 l2⟩, ?_, w1, w2⟩
 by_cases hk : okF s1 n1 o1 s2 n2 o2
 ·exact Or.inl ⟨_, KF.raw r1 l1 r2 l2 hk⟩
 ·exact Or.inr (BF.raw r1 l1 r2 l2 hk)
theorem each_weight {H : Type} {ts : List TypeId} {ds : List (DataW H)} (h : (DataW.weightsEach Tryz.prog ts ds).all (· ≤ reachBytes) = true) {j : Nat} {t : TypeId} {d : DataW H} (ht : ts[j]? = some t) (hd : ds[j]? = some d) : ∀ k ∈ d.weights Tryz.prog t, k ≤ reachBytes := fun k hk => by
 have h1 := List.all_eq_true.1 h k (DataW.weights_mem_each ht hd k hk)
 simpa using h1
set_option maxRecDepth 100000 in
theorem open_fracW {H : Type} {enc : TypeId × Value → H} {W : World} {base : Nat} {r : Reach} {sp : Nat → Bool} {hd : Bool} {v : Value} {d : DataW H} {p : List MemPlace}
  (hok : Value.okWide Tryz.prog W r base 28 v) (h : DataW.Trod enc Tryz.prog W 0 sp hd 28 v d p) (hw : ∀ k ∈ d.weights Tryz.prog 28, k ≤ reachBytes) : ∃ y : FV, v = y.v ∧ AQ W y := by
 obtain ⟨cs, rfl, _⟩ : ∃ cs, v = .agg cs ∧ True := by
  unfold Value.okWide at hok
  rw [Tryz.underlying28] at hok
  obtain ⟨cs, h1, _⟩ := hok
  exact ⟨cs, h1, trivial⟩
 obtain ⟨fuel, hf⟩ := h
 obtain ⟨y, e, hy⟩ := open_fracTW (l := cs.toList) hf hw
 refine ⟨y, ?_, hy⟩
 obtain ⟨l⟩ := cs
 have e : l = _ := e
 rw [e]
end Go.Proofs.YthcccdjfedbnfaaGreatDoor.Pol
namespace Go.Proofs.YthcccdjfedbnfaaGreatDoor.Pol
open Go.RowKit Go.Sort Go.Proofs.YthcccdjfedbnfaaGreatDoor.Limb
def moF (m : Mo) : Nat → Int := fun i => ((m.at i : Nat) : Int)
theorem moF_small {m : Mo} (h : m.Small) : Mono.Small (moF m) := fun i _ => ⟨Int.natCast_nonneg _, by have := at_small h i; unfold moF; omega⟩
theorem moF_mul (a b : Mo) (i : Nat) : moF (a.mul b) i = moF a i + moF b i := by unfold moF; rw [at_mul]; omega
def keyO (o : Int) (m : Mo) : Int := Mono.KO o (moF m)
theorem keyO_key (o : Int) : Key 65535 (keyO o) where
 add a b ha hb hab := by
  have hB : Mono.mulB (moF a) (moF b) = true := decide_eq_true (by
   obtain ⟨h1, h2, h3, h4⟩ := hab
   rw [← moF_mul, ← moF_mul, ← moF_mul, ← moF_mul]
   show ((a.mul b).x : Int) ≤ 65535 ∧ ((a.mul b).y : Int) ≤ 65535 ∧ ((a.mul b).z : Int) ≤ 65535 ∧ ((a.mul b).t : Int) ≤ 65535
   omega)
  have h := Mono.KO_mul (o := o) hB
  unfold keyO
  rw [← h]
  congr 1
  funext i
  unfold Mono.mulM
  rw [if_pos hB, moF_mul]
 inj a b ha hb h := by
  have h1 := (Mono.KO_same (moF_small (show a.Small from ha)) (moF_small (show b.Small from hb))).1 h
  rw [Mo.eq_iff]
  have g := fun k hk => Int.ofNat.inj (show ((a.at k : Nat) : Int) = ((b.at k : Nat) : Int) from h1 k hk)
  exact ⟨g 0 (by omega), g 1 (by omega), g 2 (by omega), g 3 (by omega)⟩
theorem cmpZ_dec {a b : Int} : Mono.cmpZ a b > 0 ↔ b < a := by
 rcases Int.lt_trichotomy a b with h | h | h
 ·rw [Mono.cmpZ_lt h]; omega
 ·rw [Mono.cmpZ_eq h]; omega
 ·rw [Mono.cmpZ_gt h]; omega
set_option maxRecDepth 100000 in
set_option maxHeartbeats 16000000 in
theorem max_any (G : Nat) (cs : Array Value) (x : PV) (ts : List TV) (K : Mo → Int) (w : World) (hr : RT w x.a ts) (hl : ts.length = x.n) (hn : x.n ≤ 1000000) (hne : ts ≠ []) (hs : ∀ t ∈ ts, t.m.Small)
  (hcf : ∀ (args : Array Value) (w : World), (callFunc G args).run Tryz.prog w = .ok (.enter G args) w)
  (hF : ∀ t u : TV, t.m.Small → u.m.Small → ∀ w1, Below w.heap.size w w1 → Calls Tryz.prog G (#[TV.v t, TV.v u] ++ cs) w1 fun e w' => e = .returned (.int .i64 (Mono.cmpZ (K t.m) (K u.m))) ∧ Below w1.heap.size w1 w') :
  Calls Tryz.prog 63 #[x.v, .func (.func G) #[] cs] w fun e w' => ∃ t, t ∈ ts ∧ (∀ u ∈ ts, K u.m ≤ K t.m) ∧ e = .returned (TV.v t) ∧ Below w.heap.size w w' := by
 obtain ⟨xa, xn, xc⟩ := x
 change Calls Tryz.prog 63 #[.slice xa xn xc, .func (.func G) #[] cs] w _
 have HL := Lib.hid (show ts.length = xn from hl); have HN := Lib.hid (show xn ≤ 1000000 from hn); have HS := Lib.hid hs; have HF := Lib.hid hF
 obtain ⟨pb, po, rfl, hc⟩ := RT.one hr hne
 have HE := Lib.hid hc
 have HP := Lib.hid (show 0 < xn by rw [← HL.out]; exact List.length_pos_iff.2 hne)
 obtain ⟨t0, ht0⟩ : ∃ t, ts[0]? = some t := ⟨_, List.getElem?_eq_getElem (List.length_pos_iff.2 hne)⟩
 have HT0 := Lib.hid ht0
 have h1 : ¬ ((xn : Int) < 1) := by have := HP.out; omega
 obtain ⟨V, hV⟩ : ∃ V, V = w.alloc (.cells #[.bool false, .slice none 0 0, .bool false, .slice none 0 0, .int .u16 0, .int .u16 0, .int .u16 0, .int .u16 0] 50) := ⟨_, rfl⟩
 have hbV : Below w.heap.size w V := by rw [hV]; exact (Below.refl _ _).alloc (Nat.le_refl _) _
 have B4 := Lib.hid (show Bxs V w.heap.size 50 [.bool false, .slice none 0 0, .bool false, .slice none 0 0, .int .u16 0, .int .u16 0, .int .u16 0, .int .u16 0] by rw [hV]; exact Bxs.new w 50 [.bool false, .slice none 0 0, .bool false, .slice none 0 0, .int .u16 0, .int .u16 0, .int .u16 0, .int .u16 0])
 have E0 := Lib.hid ((hc 0 t0 ht0).below hbV)
 have KG := Lib.hid hbV
 have HV := Lib.hid hV
 have HP0 : (0 : Int) < (xn : Int) := by have := HP.out; omega
 clear hr hl hn hs hF hc ht0 hV hbV
 go_enter Tryz.func63, Tryz.ntmps63
 go_upto_region 1 with (fail)
 rw [show w.alloc (.cells #[.bool false, .slice none 0 0, .bool false, .slice none 0 0, .int .u16 0, .int .u16 0, .int .u16 0, .int .u16 0] 50) = V from HV.out.symm]
 obtain ⟨c0, c1, c2, c3, c4, c5, c6, c7⟩ := E0.out.eight
 simp only [Nat.zero_mul, Nat.add_zero] at c0 c1 c2 c3 c4 c5 c6 c7
 go_upto_region 4 with (fail)
 obtain ⟨U, hU⟩ : ∃ U, U = V.alloc (.cells #[.bool t0.c.t.s, .slice t0.c.t.a t0.c.t.n t0.c.t.c, .bool t0.c.l.s, .slice t0.c.l.a t0.c.l.n t0.c.l.c, .int .u16 t0.m.x, .int .u16 t0.m.y, .int .u16 t0.m.z, .int .u16 t0.m.t] 50) := ⟨_, rfl⟩
 have hbU : Below V.heap.size V U := by rw [hU]; exact (Below.refl _ _).alloc (Nat.le_refl _) _
 have B5 := Lib.hid (show Bxs U V.heap.size 50 [.bool t0.c.t.s, .slice t0.c.t.a t0.c.t.n t0.c.t.c, .bool t0.c.l.s, .slice t0.c.l.a t0.c.l.n t0.c.l.c, .int .u16 t0.m.x, .int .u16 t0.m.y, .int .u16 t0.m.z, .int .u16 t0.m.t] by rw [hU]; exact Bxs.new V 50 [.bool t0.c.t.s, .slice t0.c.t.a t0.c.t.n t0.c.t.c, .bool t0.c.l.s, .slice t0.c.l.a t0.c.l.n t0.c.l.c, .int .u16 t0.m.x, .int .u16 t0.m.y, .int .u16 t0.m.z, .int .u16 t0.m.t])
 obtain ⟨A1, hA1⟩ : ∃ A, A = w.heap.size := ⟨_, rfl⟩
 obtain ⟨A2, hA2⟩ : ∃ A, A = V.heap.size := ⟨_, rfl⟩
 have HA1 := Lib.hid (show w.heap.size ≤ A1 by omega)
 have HA2 := Lib.hid (show w.heap.size ≤ A2 by rw [hA2]; exact KG.out.size)
 have HNE := Lib.hid (show A1 ≠ A2 by have := B4.out.lt; omega)
 have B4 := Lib.hid (B4.out.below hbU B4.out.lt)
 have KG := Lib.hid (KG.out.trans (hbU.mono KG.out.size))
 rw [← hU, ← hA2, ← hA1]
 rw [← hA2] at B5
 rw [← hA1] at B4
 clear hU hbU hA1 hA2 c0 c1 c2 c3 c4 c5 c6 c7 h1 HP0
 go_wp2_with fail
 go_loopw [6] (fun i wr => ∃ (j : Nat) (t : TV), 1 ≤ j ∧ j ≤ xn ∧ i = .int .i64 j ∧ t ∈ ts ∧ (∀ i u, ts[i]? = some u → i < j → K u.m ≤ K t.m) ∧ Bxs wr A2 50 [.bool t.c.t.s, .slice t.c.t.a t.c.t.n t.c.t.c, .bool t.c.l.s, .slice t.c.l.a t.c.l.n t.c.l.c, .int .u16 t.m.x, .int .u16 t.m.y, .int .u16 t.m.z, .int .u16 t.m.t] ∧ Bxs wr A1 50 [.bool false, .slice none 0 0, .bool false, .slice none 0 0, .int .u16 0, .int .u16 0, .int .u16 0, .int .u16 0] ∧ Below w.heap.size w wr) (fun i _ => xn - (intOf i).toNat)
 case atStart =>
  refine ⟨1, t0, Nat.le_refl _, HP.out, rfl, List.mem_of_getElem? HT0.out, fun i u h1 h2 => ?_, B5.out, B4.out, KG.out⟩
  obtain rfl : i = 0 := by omega
  rw [HT0.out] at h1
  obtain rfl := Option.some.inj h1
  exact Int.le_refl _
 case round =>
  obtain ⟨j, t, hj1, hj, rfl, hmem, hmax, hB5, hB4, hb0⟩ := hrel
  have HJ1 := Lib.hid hj1; have HJ := Lib.hid hj; have HME := Lib.hid hmem; have HMX := Lib.hid hmax; have B5 := Lib.hid hB5; have B4 := Lib.hid hB4; have KG := Lib.hid hb0
  clear hj1 hj hmem hmax hB5 hB4 hb0
  by_cases hjn : j < xn
  ·have HJN := Lib.hid hjn
   obtain ⟨u, hu⟩ : ∃ u, ts[j]? = some u := ⟨_, List.getElem?_eq_getElem (by rw [HL.out]; exact hjn)⟩
   have HU := Lib.hid hu
   have E1 := Lib.hid ((HE.out j u hu).below KG.out)
   have HST := Lib.hid (HS.out t HME.out)
   have HSU := Lib.hid (HS.out u (List.mem_of_getElem? hu))
   obtain ⟨cv, hcv⟩ : ∃ c, c = Mono.cmpZ (K u.m) (K t.m) := ⟨_, rfl⟩
   have HCV := Lib.hid hcv
   have ek : IntKind.i64.wrap ((j : Int) + 1) = (j : Int) + 1 := IntWalk.i64_in _ (by have := HJN.out; have := HN.out; omega)
   clear hu hcv
   go_upto_region 7 with (fail)
   refine Go.FreshS.wp_region_fresh 7 [] (Go.FreshS.spOf [(6, Go.FreshS.Sp.know (.int .i64 cv))])
    (fun w' => Below wr.heap.size wr w') (by kernel_rfl) (by kernel_rfl) (by kernel_rfl)
    (Go.FreshS.spOf_cons (Go.FreshS.Sp.know_keeps _ _) (Go.FreshS.spOf_nil)) (fun _ _ h hb => h.trans (hb.mono h.size)) ((Below.refl _ _).drew) ?_
   simp only [List.append_eq, List.cons_append, List.nil_append, List.take_succ_cons, List.take_zero, List.drop_succ_cons, List.drop_zero]
   refine Go.FreshS.wpF_reads rfl rfl rfl ?_ (fun w' hw' => ?_) ?_
   rotate_left
   ·have hb' := hw'.world
    skip
    clear hw'
    go_simp
    try rfl
   conv => arg 10; simp only [Act.put, List.setIfInBounds_toArray, List.set_cons_succ, List.set_cons_zero]
   refine Go.FreshS.wpF_reads rfl rfl rfl ?_ (fun w' hw' => ?_) ?_
   rotate_left
   ·have hb' := hw'.world
    skip
    clear hw'
    go_simp
    try rfl
   conv => arg 10; simp only [Act.put, List.setIfInBounds_toArray, List.set_cons_succ, List.set_cons_zero]
   refine Go.FreshS.wpF_reads rfl rfl rfl ?_ (fun w' hw' => ?_) ?_
   rotate_left
   ·have hb' := hw'.world
    skip
    clear hw'
    go_simp
    try rfl
   conv => arg 10; simp only [Act.put, List.setIfInBounds_toArray, List.set_cons_succ, List.set_cons_zero]
   refine Go.FreshS.wpF_reads rfl rfl rfl ?_ (fun w' hw' => ?_) ?_
   rotate_left
   ·have hb' := hw'.world
    skip
    clear hw'
    go_simp
    try rfl
   conv => arg 10; simp only [Act.put, List.setIfInBounds_toArray, List.set_cons_succ, List.set_cons_zero]
   refine Go.FreshS.wpF_reads rfl rfl rfl ?_ (fun w' hw' => ?_) ?_
   rotate_left
   ·have hb' := hw'.world
    obtain ⟨hs0, hs1, hs2, hs3, hs4, hs5, hs6, hs7⟩ := (E1.out.below hb').eight
    clear hw'
    go_simp
    try rfl
   conv => arg 10; simp only [Act.put, List.setIfInBounds_toArray, List.set_cons_succ, List.set_cons_zero]
   refine Go.FreshS.wpF_reads rfl rfl rfl ?_ (fun w' hw' => ?_) ?_
   rotate_left
   ·have hb' := hw'.world
    have hs0 := (B5.out.below hb' B5.out.lt).cell (i := 0) rfl
    have hs1 := (B5.out.below hb' B5.out.lt).cell (i := 1) rfl
    have hs2 := (B5.out.below hb' B5.out.lt).cell (i := 2) rfl
    have hs3 := (B5.out.below hb' B5.out.lt).cell (i := 3) rfl
    have hs4 := (B5.out.below hb' B5.out.lt).cell (i := 4) rfl
    have hs5 := (B5.out.below hb' B5.out.lt).cell (i := 5) rfl
    have hs6 := (B5.out.below hb' B5.out.lt).cell (i := 6) rfl
    have hs7 := (B5.out.below hb' B5.out.lt).cell (i := 7) rfl
    have hsf := (B5.out.below hb' B5.out.lt).fz
    have hsl := (B5.out.below hb' B5.out.lt).lt
    clear hw'
    go_simp
    try rfl
   conv => arg 10; simp only [Act.put, List.setIfInBounds_toArray, List.set_cons_succ, List.set_cons_zero]
   refine Go.FreshS.wpF_spec rfl rfl rfl (fun w' hw' => ?_) ?_
   ·have hb' := hw'.world
    refine Go.FreshS.gives_of (Go.FreshS.PK (.int .i64 cv)) ?_ (fun _ _ h => h.post)
    go_simp
    have CT := HF.out u t HSU.out HST.out w' (KG.out.trans (hb'.mono KG.out.size))
    rw [show Mono.cmpZ (K u.m) (K t.m) = cv from HCV.out.symm] at CT
    refine CT.mono ?_
    rintro e w'' ⟨rfl, hb⟩
    exact ⟨_, rfl, rfl, hb⟩
   rintro _ rfl
   conv => arg 10; simp only [Act.put, List.setIfInBounds_toArray, List.set_cons_succ, List.set_cons_zero]
   refine Go.FreshS.wpF_nil (fun w101 hb hF => ?_)
   clear hF
   have B5 := Lib.hid (B5.out.below hb B5.out.lt)
   have B4 := Lib.hid (B4.out.below hb B4.out.lt)
   have KG := Lib.hid (KG.out.trans (hb.mono KG.out.size))
   clear hb
   by_cases hcp : cv > 0
   ·have hcq : 0 < cv := hcp
    have HCP := Lib.hid hcp
    have E1 := Lib.hid ((HE.out j u HU.out).below KG.out)
    obtain ⟨c0, c1, c2, c3, c4, c5, c6, c7⟩ := E1.out.eight
    have cf := B5.out.fz
    have cl := B5.out.lt
    have c50 := B5.out.cell (i := 0) rfl
    have c51 := B5.out.cell (i := 1) rfl
    have c52 := B5.out.cell (i := 2) rfl
    have c53 := B5.out.cell (i := 3) rfl
    have c54 := B5.out.cell (i := 4) rfl
    have c55 := B5.out.cell (i := 5) rfl
    have c56 := B5.out.cell (i := 6) rfl
    have c57 := B5.out.cell (i := 7) rfl
    go_wp2_with fail
    go_roundw
    case rel =>
     refine ⟨j + 1, u, by omega, by have := HJN.out; omega, rfl, List.mem_of_getElem? HU.out, fun i v h1 h2 => ?_, put8_bxs B5.out .., ?_, put8_below KG.out HA2.out ..⟩
     ·have h3 : K t.m < K u.m := cmpZ_dec.1 (by rw [← HCV.out]; exact HCP.out)
      by_cases h4 : i < j
      ·have := HMX.out i v h1 h4; omega
      ·obtain rfl : i = j := by omega
       rw [HU.out] at h1
       obtain rfl := Option.some.inj h1
       exact Int.le_refl _
     ·exact ((((((((B4.out.other HNE.out _).other HNE.out _).other HNE.out _).other HNE.out _).other HNE.out _).other HNE.out _).other HNE.out _).other HNE.out _)
    case measure => simp [intOf]; have := HJN.out; omega
   ·have hcq : ¬ (0 < cv) := hcp
    have HCP := Lib.hid hcp
    go_wp2_with fail
    go_roundw
    case rel =>
     refine ⟨j + 1, t, by omega, by have := HJN.out; omega, rfl, HME.out, fun i v h1 h2 => ?_, B5.out, B4.out, KG.out⟩
     by_cases h4 : i < j
     ·exact HMX.out i v h1 h4
     ·obtain rfl : i = j := by omega
      rw [HU.out] at h1
      obtain rfl := Option.some.inj h1
      have h3 : ¬ (K t.m < K u.m) := fun h => HCP.out (by rw [HCV.out]; exact cmpZ_dec.2 h)
      omega
    case measure => simp [intOf]; have := HJN.out; omega
  ·have hge : ¬ ((j : Int) < (xn : Int)) := by omega
   have HJE := Lib.hid (show j = xn by have := HJ.out; omega)
   clear hjn
   have c0 := B5.out.cell (i := 0) rfl
   have c1 := B5.out.cell (i := 1) rfl
   have c2 := B5.out.cell (i := 2) rfl
   have c3 := B5.out.cell (i := 3) rfl
   have c4 := B5.out.cell (i := 4) rfl
   have c5 := B5.out.cell (i := 5) rfl
   have c6 := B5.out.cell (i := 6) rfl
   have c7 := B5.out.cell (i := 7) rfl
   have cf := B4.out.fz
   have cl := B4.out.lt
   have c40 := B4.out.cell (i := 0) rfl
   have c41 := B4.out.cell (i := 1) rfl
   have c42 := B4.out.cell (i := 2) rfl
   have c43 := B4.out.cell (i := 3) rfl
   have c44 := B4.out.cell (i := 4) rfl
   have c45 := B4.out.cell (i := 5) rfl
   have c46 := B4.out.cell (i := 6) rfl
   have c47 := B4.out.cell (i := 7) rfl
   go_wp2_with fail
   refine bodyPost_ret (results_cell rfl _ _ _ _ _ _ _ rfl (put8_bxs B4.out ..) Tryz.underlying50 rfl (by kernel_rfl)) rfl ⟨t, HME.out, fun u hu => ?_, rfl, put8_below KG.out HA1.out ..⟩
   obtain ⟨i, h⟩ := List.mem_iff_getElem?.1 hu
   exact HMX.out i u h (by have h8 := (List.getElem?_eq_some_iff.1 h).1; have h5 := HL.out; have h9 := HJE.out; omega)
set_option maxRecDepth 100000 in
set_option maxHeartbeats 4000000 in
theorem lead1_any (o : Int) (t u : TV) (w : World) (bo : Nat) (hb : Bxs w bo 44 [.int .u8 o]) (ht : t.m.Small) (hu : u.m.Small) :
  Calls Tryz.prog 64 #[TV.v t, TV.v u, .pointer (some ⟨bo, 0, none⟩)] w fun e w' => e = .returned (.int .i64 (Mono.cmpZ (keyO o t.m) (keyO o u.m))) ∧ Below w.heap.size w w' := by
 obtain ⟨V, hV⟩ : ∃ V, V = (w.alloc (.cells #[.bool t.c.t.s, .slice t.c.t.a t.c.t.n t.c.t.c, .bool t.c.l.s, .slice t.c.l.a t.c.l.n t.c.l.c, .int .u16 t.m.x, .int .u16 t.m.y, .int .u16 t.m.z, .int .u16 t.m.t] 50)).alloc (.cells #[.bool u.c.t.s, .slice u.c.t.a u.c.t.n u.c.t.c, .bool u.c.l.s, .slice u.c.l.a u.c.l.n u.c.l.c, .int .u16 u.m.x, .int .u16 u.m.y, .int .u16 u.m.z, .int .u16 u.m.t] 50) := ⟨_, rfl⟩
 have hbV : Below w.heap.size w V := by rw [hV]; exact ((Below.refl _ _).alloc (Nat.le_refl _) _).alloc (by go_size) _
 have B1 := Lib.hid (show Bxs V w.heap.size 50 [.bool t.c.t.s, .slice t.c.t.a t.c.t.n t.c.t.c, .bool t.c.l.s, .slice t.c.l.a t.c.l.n t.c.l.c, .int .u16 t.m.x, .int .u16 t.m.y, .int .u16 t.m.z, .int .u16 t.m.t] by rw [hV]; exact (Bxs.new w 50 [.bool t.c.t.s, .slice t.c.t.a t.c.t.n t.c.t.c, .bool t.c.l.s, .slice t.c.l.a t.c.l.n t.c.l.c, .int .u16 t.m.x, .int .u16 t.m.y, .int .u16 t.m.z, .int .u16 t.m.t]).alloc _)
 have B2 := Lib.hid (show Bxs V (w.heap.size + 1) 50 [.bool u.c.t.s, .slice u.c.t.a u.c.t.n u.c.t.c, .bool u.c.l.s, .slice u.c.l.a u.c.l.n u.c.l.c, .int .u16 u.m.x, .int .u16 u.m.y, .int .u16 u.m.z, .int .u16 u.m.t] by
  have h := Bxs.new (w.alloc (.cells #[.bool t.c.t.s, .slice t.c.t.a t.c.t.n t.c.t.c, .bool t.c.l.s, .slice t.c.l.a t.c.l.n t.c.l.c, .int .u16 t.m.x, .int .u16 t.m.y, .int .u16 t.m.z, .int .u16 t.m.t] 50)) 50 [.bool u.c.t.s, .slice u.c.t.a u.c.t.n u.c.t.c, .bool u.c.l.s, .slice u.c.l.a u.c.l.n u.c.l.c, .int .u16 u.m.x, .int .u16 u.m.y, .int .u16 u.m.z, .int .u16 u.m.t]
  rw [World.size_alloc] at h
  rw [hV]; exact h)
 have BO := Lib.hid (hb.below hbV hb.lt)
 have KG := Lib.hid hbV
 have HV := Lib.hid hV
 have CM := Lib.hid (show Calls Tryz.prog 65 #[.int .u8 o, Mo.v t.m, Mo.v u.m] V _ from Mono.cmp_any o (moF t.m) (moF u.m) V (moF_small ht) (moF_small hu))
 have HK := Lib.hid (Mono.cmp_key (o := o) (moF_small ht) (moF_small hu))
 clear hV hbV hb ht hu
 change Calls Tryz.prog 64 #[.agg #[.bool t.c.t.s, .slice t.c.t.a t.c.t.n t.c.t.c, .bool t.c.l.s, .slice t.c.l.a t.c.l.n t.c.l.c, .int .u16 t.m.x, .int .u16 t.m.y, .int .u16 t.m.z, .int .u16 t.m.t], .agg #[.bool u.c.t.s, .slice u.c.t.a u.c.t.n u.c.t.c, .bool u.c.l.s, .slice u.c.l.a u.c.l.n u.c.l.c, .int .u16 u.m.x, .int .u16 u.m.y, .int .u16 u.m.z, .int .u16 u.m.t], .pointer (some ⟨bo, 0, none⟩)] w _
 go_enter Tryz.func64, Tryz.ntmps64
 go_upto_region 1 with (fail)
 rw [show (w.alloc (.cells #[.bool t.c.t.s, .slice t.c.t.a t.c.t.n t.c.t.c, .bool t.c.l.s, .slice t.c.l.a t.c.l.n t.c.l.c, .int .u16 t.m.x, .int .u16 t.m.y, .int .u16 t.m.z, .int .u16 t.m.t] 50)).alloc (.cells #[.bool u.c.t.s, .slice u.c.t.a u.c.t.n u.c.t.c, .bool u.c.l.s, .slice u.c.l.a u.c.l.n u.c.l.c, .int .u16 u.m.x, .int .u16 u.m.y, .int .u16 u.m.z, .int .u16 u.m.t] 50) = V from HV.out.symm]
 have c10 := B1.out.cell (i := 0) rfl
 have c11 := B1.out.cell (i := 1) rfl
 have c12 := B1.out.cell (i := 2) rfl
 have c13 := B1.out.cell (i := 3) rfl
 have c14 := B1.out.cell (i := 4) rfl
 have c15 := B1.out.cell (i := 5) rfl
 have c16 := B1.out.cell (i := 6) rfl
 have c17 := B1.out.cell (i := 7) rfl
 have c20 := B2.out.cell (i := 0) rfl
 have c21 := B2.out.cell (i := 1) rfl
 have c22 := B2.out.cell (i := 2) rfl
 have c23 := B2.out.cell (i := 3) rfl
 have c24 := B2.out.cell (i := 4) rfl
 have c25 := B2.out.cell (i := 5) rfl
 have c26 := B2.out.cell (i := 6) rfl
 have c27 := B2.out.cell (i := 7) rfl
 have co := BO.out.cell (i := 0) rfl
 go_wp2_with fail
 with_reducible refine CM.out.mono ?_
 rintro e w1 ⟨rfl, hb⟩
 have KG := Lib.hid (KG.out.trans (hb.mono KG.out.size))
 clear hb CM c10 c11 c12 c13 c14 c15 c16 c17 c20 c21 c22 c23 c24 c25 c26 c27 co
 go_wp2_with fail
 go_ret
 refine ⟨?_, KG.out⟩
 rw [HK.out]
 rfl
set_option maxRecDepth 100000 in
set_option maxHeartbeats 16000000 in
theorem lead_k (o : Int) (x : PV) (P : List Tm) (w : World) (hx : AP w x P) (hp : ∀ t ∈ P, LQ t.2 900000) (hn : x.n ≤ 1000000) (hne : P ≠ []) :
  Calls Tryz.prog 22 #[.int .u8 o, x.v] w fun e w' => ∃ (y : FV) (t : Tm), e = .returned (.tuple #[TV.v ⟨y, t.1⟩, .bool true]) ∧ DF w' w.heap.size y t.2 ∧ Lead (keyO o) P t ∧ Below w.heap.size w w' := by
 obtain ⟨V0, hV⟩ : ∃ V, V = (w.alloc (.cells #[.int .u8 o] 44)).alloc (.cells #[.bool false, .slice none 0 0, .bool false, .slice none 0 0, .int .u16 0, .int .u16 0, .int .u16 0, .int .u16 0] 50) := ⟨_, rfl⟩
 have hbV : Below w.heap.size w V0 := by rw [hV]; exact ((Below.refl _ _).alloc (Nat.le_refl _) _).alloc (by go_size) _
 have BO := Lib.hid (show Bxs V0 w.heap.size 44 [.int .u8 o] by rw [hV]; exact (Bxs.new w 44 [.int .u8 o]).alloc _)
 have B4 := Lib.hid (show Bxs V0 (w.heap.size + 1) 50 [.bool false, .slice none 0 0, .bool false, .slice none 0 0, .int .u16 0, .int .u16 0, .int .u16 0, .int .u16 0] by
  have h := Bxs.new (w.alloc (.cells #[.int .u8 o] 44)) 50 [.bool false, .slice none 0 0, .bool false, .slice none 0 0, .int .u16 0, .int .u16 0, .int .u16 0, .int .u16 0]
  rw [World.size_alloc] at h
  rw [hV]; exact h)
 have OF := Lib.hid (of_at hx hbV hp (by omega))
 have HP := Lib.hid hp; have HN := Lib.hid hn; have HNE := Lib.hid hne
 have KG := Lib.hid hbV
 have HV := Lib.hid hV
 obtain ⟨A4, hA4⟩ : ∃ A, A = w.heap.size + 1 := ⟨_, rfl⟩
 have HA4 := Lib.hid (show w.heap.size ≤ A4 by omega)
 rw [← hA4] at B4
 have HA5 := Lib.hid hA4
 obtain ⟨xa, xn, xc⟩ := x
 change Calls Tryz.prog 22 #[.int .u8 o, .slice xa xn xc] w _
 clear hV hbV hx hp hn hne hA4
 go_enter Tryz.func22, Tryz.ntmps22
 go_upto_region 1 with (fail)
 rw [show (w.alloc (.cells #[.int .u8 o] 44)).alloc (.cells #[.bool false, .slice none 0 0, .bool false, .slice none 0 0, .int .u16 0, .int .u16 0, .int .u16 0, .int .u16 0] 50) = V0 from HV.out.symm, show w.heap.size + 1 = A4 from HA5.out.symm]
 go_wp2_with fail
 with_reducible refine OF.out.mono ?_
 rintro e w1 ⟨⟨pa, pn, pc⟩, he, hkp, hpn, hb⟩
 obtain rfl : e = .returned (.slice pa pn pc) := he
 have BO := Lib.hid (BO.out.below hb BO.out.lt)
 have B4 := Lib.hid (B4.out.below hb B4.out.lt)
 have KG := Lib.hid (KG.out.trans (hb.mono KG.out.size))
 have HX := Lib.hid hkp
 obtain ⟨L, g1, g2, g3, g4⟩ := hkp.ex
 have g2 : L.length = pn := g2
 have hlne : L ≠ [] := fun h => HNE.out (by rw [← g4, h]; rfl)
 have hne2 : L.map Prod.fst ≠ [] := fun h => hlne (List.map_eq_nil_iff.1 h)
 have h0 : ¬ ((pn : Int) = 0) := by have := List.length_pos_iff.2 hlne; omega
 have T1 := Lib.hid g4; have F1 := Lib.hid g3
 have hcf : ∀ (args : Array Value) (w : World), (callFunc 64 args).run Tryz.prog w = .ok (.enter 64 args) w := fun _ _ => by kernel_rfl
 have MX := Lib.hid (max_any 64 #[.pointer (some ⟨w.heap.size, 0, none⟩)] ⟨pa, pn, pc⟩ (L.map Prod.fst) (keyO o) w1 (g1.below KG.out) (by rw [List.length_map]; exact g2) (Nat.le_trans hpn HN.out) hne2
  (fun t ht => by
   obtain ⟨e, he, rfl⟩ := List.mem_map.1 ht
   exact HX.out.small (tm e) (by rw [← g4]; exact List.mem_map_of_mem he))
  hcf (fun t u ht hu w2 hb2 => lead1_any o t u w2 w.heap.size (BO.out.below hb2 BO.out.lt) ht hu))
 clear hkp hpn hb g1 g2 g3 g4 OF hlne hne2 hcf
 go_wp2_with fail
 with_reducible refine MX.out.mono ?_
 rintro e w2 ⟨t, htm, htx, rfl, hb⟩
 have B4 := Lib.hid (B4.out.below hb B4.out.lt)
 have KG := Lib.hid (KG.out.trans (hb.mono KG.out.size))
 obtain ⟨⟨t', q⟩, he, e1⟩ := List.mem_map.1 htm
 obtain rfl : t' = t := e1
 have hmem : (t'.m, q) ∈ P := by rw [← T1.out]; exact List.mem_map_of_mem he
 have HLD := Lib.hid (show Lead (keyO o) P (t'.m, q) from ⟨hmem, fun s hs => by
  rw [← T1.out] at hs
  obtain ⟨e, he, rfl⟩ := List.mem_map.1 hs
  exact htx e.1 (List.mem_map_of_mem he)⟩)
 have LQq := Lib.hid (HP.out _ hmem)
 have NT0 := Lib.hid (F1.out _ he)
 obtain ⟨t, ht⟩ : ∃ t, t = t' := ⟨_, rfl⟩
 rw [← ht] at HLD NT0 ⊢
 clear htm htx hb he hmem MX ht h0
 have c40 := B4.out.cell (i := 0) rfl
 have c41 := B4.out.cell (i := 1) rfl
 have c42 := B4.out.cell (i := 2) rfl
 have c43 := B4.out.cell (i := 3) rfl
 have c44 := B4.out.cell (i := 4) rfl
 have c45 := B4.out.cell (i := 5) rfl
 have c46 := B4.out.cell (i := 6) rfl
 have c47 := B4.out.cell (i := 7) rfl
 have c4f := B4.out.fz
 have c4l := B4.out.lt
 go_upto_region 5 with (fail)
 clear c40 c41 c42 c43 c44 c45 c46 c47 c4f c4l
 obtain ⟨V, hV⟩ : ∃ V, V = put8 w2 A4 (.bool t.c.t.s) (.slice t.c.t.a t.c.t.n t.c.t.c) (.bool t.c.l.s) (.slice t.c.l.a t.c.l.n t.c.l.c) (.int .u16 t.m.x) (.int .u16 t.m.y) (.int .u16 t.m.z) (.int .u16 t.m.t) := ⟨_, rfl⟩
 have B4 := Lib.hid (show Bxs V A4 50 [.bool t.c.t.s, .slice t.c.t.a t.c.t.n t.c.t.c, .bool t.c.l.s, .slice t.c.l.a t.c.l.n t.c.l.c, .int .u16 t.m.x, .int .u16 t.m.y, .int .u16 t.m.z, .int .u16 t.m.t] by rw [hV]; exact put8_bxs B4.out ..)
 have KG := Lib.hid (show Below w.heap.size w V by rw [hV]; exact put8_below KG.out HA4.out ..)
 unfold put8 at hV
 rw [← hV]
 have NT := Lib.hid (show KF V t.c q from NT0.out.below KG.out)
 have HSZ := Lib.hid (show w.heap.size ≤ V.heap.size from KG.out.size)
 clear hV NT0
 obtain ⟨q101, hq101⟩ : ∃ z : Rat, z = ((1 : Int) : Rat) := ⟨_, rfl⟩
 have Hq101 := Lib.hid hq101
 have LQq101 := Lib.hid (show LQ q101 3 by rw [hq101]; exact LQ.int (by decide) (by decide))
 clear hq101
 obtain ⟨q102, hq102⟩ : ∃ z : Rat, z = q * q101 := ⟨_, rfl⟩
 have Hq102 := Lib.hid hq102
 have LQq102 := Lib.hid (show LQ q102 1800000 by rw [hq102]; exact LQ.mul (LQq.out.up (by decide : _ ≤ 900000)) (LQq101.out.up (by decide : _ ≤ 900000)) (by decide))
 clear hq102
 go_upto_region 5 with (fail)
 refine Go.FreshS.wp_region_fresh 7 [] (Go.FreshS.spOf [(2, Go.FreshS.Sp.made (fun x : FV => x.v) (fun x w' => DF w' V.heap.size x q101) FV.blk), (3, Go.FreshS.Sp.made (fun x : FV => x.v) (fun x w' => DF w' V.heap.size x q102) FV.blk)])
  (fun w' => Below V.heap.size V w') (by kernel_rfl) (by kernel_rfl) (by kernel_rfl)
  (Go.FreshS.spOf_cons (Go.FreshS.Sp.made_keeps _ (fun _ _ _ h _ hk => h.kept hk) (Go.FreshS.notTaken (by kernel_rfl))) (Go.FreshS.spOf_cons (Go.FreshS.Sp.made_keeps _ (fun _ _ _ h _ hk => h.kept hk) (Go.FreshS.notTaken (by kernel_rfl))) (Go.FreshS.spOf_nil))) (fun _ _ h hb => h.trans (hb.mono h.size)) ((Below.refl _ _).drew) ?_
 simp only [List.append_eq, List.cons_append, List.nil_append, List.take_succ_cons, List.take_zero, List.drop_succ_cons, List.drop_zero]
 refine Go.FreshS.wpF_reads rfl rfl rfl ?_ (fun w' hw' => ?_) ?_
 rotate_left
 ·have hb' := hw'.world
  skip
  clear hw'
  go_simp
  try rfl
 conv => arg 10; simp only [Act.put, List.setIfInBounds_toArray, List.set_cons_succ, List.set_cons_zero]
 refine Go.FreshS.wpF_reads rfl rfl rfl ?_ (fun w' hw' => ?_) ?_
 rotate_left
 ·have hb' := hw'.world
  have hs0 := (B4.out.below hb' B4.out.lt).cell (i := 0) rfl
  have hs1 := (B4.out.below hb' B4.out.lt).cell (i := 1) rfl
  have hs2 := (B4.out.below hb' B4.out.lt).cell (i := 2) rfl
  have hs3 := (B4.out.below hb' B4.out.lt).cell (i := 3) rfl
  have hs4 := (B4.out.below hb' B4.out.lt).cell (i := 4) rfl
  have hs5 := (B4.out.below hb' B4.out.lt).cell (i := 5) rfl
  have hs6 := (B4.out.below hb' B4.out.lt).cell (i := 6) rfl
  have hs7 := (B4.out.below hb' B4.out.lt).cell (i := 7) rfl
  have hsf := (B4.out.below hb' B4.out.lt).fz
  have hsl := (B4.out.below hb' B4.out.lt).lt
  clear hw'
  go_simp
  try rfl
 conv => arg 10; simp only [Act.put, List.setIfInBounds_toArray, List.set_cons_succ, List.set_cons_zero]
 refine Go.FreshS.wpF_spec rfl rfl rfl (fun w' hw' => ?_) ?_
 ·have hb' := hw'.world
  refine Go.FreshS.gives_of (Go.FreshS.PM (fun x : FV => x.v) (fun x w' => DF w' V.heap.size x q101) FV.blk w'.heap.size) ?_ (fun _ _ h => h.post (fun _ _ => FV.inj))
  go_simp
  have CT := qof 1 w' (by decide) (by decide)
  rw [show ((1 : Int) : Rat) = q101 from Hq101.out.symm] at CT
  refine CT.mono ?_
  rintro e w'' ⟨za, rfl, ho, hb⟩
  exact ⟨_, rfl, ⟨za, rfl, ho.mono hb'.size, ho.blks⟩, hb⟩
 rintro _ ⟨y2, rfl⟩
 conv => arg 10; simp only [Act.put, List.setIfInBounds_toArray, List.set_cons_succ, List.set_cons_zero]
 refine Go.FreshS.wpF_spec rfl rfl rfl (fun w' hw' => ?_) ?_
 ·have hb' := hw'.world
  refine Go.FreshS.gives_of (Go.FreshS.PM (fun x : FV => x.v) (fun x w' => DF w' V.heap.size x q102) FV.blk w'.heap.size) ?_ (fun _ _ h => h.post (fun _ _ => FV.inj))
  go_simp
  have f2 := Go.FreshS.made_of (val := (fun x : FV => x.v)) (Φ := fun x w' => DF w' V.heap.size x q101) (fun _ _ => FV.inj) (hw'.fact 2 (by kernel_rfl))
  have CT := qmul ((NT.out.below hb')).any (((NT.out.below hb')).len LQq.out (by decide : _ ≤ 900000)) (f2).k.any (((f2).k).len LQq101.out (by decide : _ ≤ 900000))
  rw [show q * q101 = q102 from Hq102.out.symm] at CT
  refine CT.mono ?_
  rintro e w'' ⟨za, rfl, ho, hb⟩
  exact ⟨_, rfl, ⟨za, rfl, ho.mono hb'.size, ho.blks⟩, hb⟩
 rintro _ ⟨y3, rfl⟩
 conv => arg 10; simp only [Act.put, List.setIfInBounds_toArray, List.set_cons_succ, List.set_cons_zero]
 refine Go.FreshS.wpF_reads rfl rfl rfl ?_ (fun w' hw' => ?_) ?_
 rotate_left
 ·have hb' := hw'.world
  skip
  clear hw'
  go_simp
  try rfl
 conv => arg 10; simp only [Act.put, List.setIfInBounds_toArray, List.set_cons_succ, List.set_cons_zero]
 refine Go.FreshS.wpF_reads rfl rfl rfl ?_ (fun w' hw' => ?_) ?_
 rotate_left
 ·have hb' := hw'.world
  have hs0 := (B4.out.below hb' B4.out.lt).cell (i := 0) rfl
  have hs1 := (B4.out.below hb' B4.out.lt).cell (i := 1) rfl
  have hs2 := (B4.out.below hb' B4.out.lt).cell (i := 2) rfl
  have hs3 := (B4.out.below hb' B4.out.lt).cell (i := 3) rfl
  have hs4 := (B4.out.below hb' B4.out.lt).cell (i := 4) rfl
  have hs5 := (B4.out.below hb' B4.out.lt).cell (i := 5) rfl
  have hs6 := (B4.out.below hb' B4.out.lt).cell (i := 6) rfl
  have hs7 := (B4.out.below hb' B4.out.lt).cell (i := 7) rfl
  have hsf := (B4.out.below hb' B4.out.lt).fz
  have hsl := (B4.out.below hb' B4.out.lt).lt
  clear hw'
  go_simp
  try rfl
 conv => arg 10; simp only [Act.put, List.setIfInBounds_toArray, List.set_cons_succ, List.set_cons_zero]
 refine Go.FreshS.wpF_reads rfl rfl rfl ?_ (fun w' hw' => ?_) ?_
 rotate_left
 ·have hb' := hw'.world
  skip
  clear hw'
  go_simp
  try rfl
 conv => arg 10; simp only [Act.put, List.setIfInBounds_toArray, List.set_cons_succ, List.set_cons_zero]
 refine Go.FreshS.wpF_nil (fun w103 hb hF => ?_)
 have N104 := Lib.hid (show DF w103 V.heap.size y3 q102 from (Go.FreshS.made_of (val := (fun x : FV => x.v)) (Φ := fun x w' => DF w' V.heap.size x q102) (fun _ _ => FV.inj) (hF.all 3)))
 clear hF
 have NT := Lib.hid (NT.out.below hb)
 have B4 := Lib.hid (B4.out.below hb B4.out.lt)
 have KG := Lib.hid (KG.out.trans (hb.mono KG.out.size))
 clear hb
 have HQ := Lib.hid (show q102 = q by rw [Hq102.out, Hq101.out]; grind)
 have HD := Lib.hid (show DF (put8 w103 A4 (.bool y3.t.s) (.slice y3.t.a y3.t.n y3.t.c) (.bool y3.l.s) (.slice y3.l.a y3.l.n y3.l.c) (.int .u16 t.m.x) (.int .u16 t.m.y) (.int .u16 t.m.z) (.int .u16 t.m.t)) w.heap.size y3 q from by rw [← HQ.out]; exact put8_df (N104.out.mono HSZ.out) B4.out (by decide) ..)
 have HB := Lib.hid (show Below w.heap.size w (put8 w103 A4 (.bool y3.t.s) (.slice y3.t.a y3.t.n y3.t.c) (.bool y3.l.s) (.slice y3.l.a y3.l.n y3.l.c) (.int .u16 t.m.x) (.int .u16 t.m.y) (.int .u16 t.m.z) (.int .u16 t.m.t)) from put8_below KG.out HA4.out ..)
 have c40 := B4.out.cell (i := 0) rfl
 have c41 := B4.out.cell (i := 1) rfl
 have c42 := B4.out.cell (i := 2) rfl
 have c43 := B4.out.cell (i := 3) rfl
 have c44 := B4.out.cell (i := 4) rfl
 have c45 := B4.out.cell (i := 5) rfl
 have c46 := B4.out.cell (i := 6) rfl
 have c47 := B4.out.cell (i := 7) rfl
 have c4f := B4.out.fz
 have c4l := B4.out.lt
 go_wp2_with fail
 exact bodyPost_ret (results_ct rfl _ _ _ _ _ _ _ rfl (put8_bxs B4.out ..) Tryz.underlying50 rfl (by kernel_rfl)) rfl ⟨y3, (t.m, q), rfl, HD.out, HLD.out, HB.out⟩
set_option maxRecDepth 100000 in
set_option maxHeartbeats 4000000 in
theorem lead_nil (o : Int) (x : PV) (w : World) (hx : AP w x []) (hn : x.n ≤ 1000000) :
  Calls Tryz.prog 22 #[.int .u8 o, x.v] w fun e w' => e = .returned (.tuple #[.agg #[.bool false, .slice none 0 0, .bool false, .slice none 0 0, .int .u16 0, .int .u16 0, .int .u16 0, .int .u16 0], .bool false]) ∧ Below w.heap.size w w' := by
 obtain ⟨V0, hV⟩ : ∃ V, V = (w.alloc (.cells #[.int .u8 o] 44)).alloc (.cells #[.bool false, .slice none 0 0, .bool false, .slice none 0 0, .int .u16 0, .int .u16 0, .int .u16 0, .int .u16 0] 50) := ⟨_, rfl⟩
 have hbV : Below w.heap.size w V0 := by rw [hV]; exact ((Below.refl _ _).alloc (Nat.le_refl _) _).alloc (by go_size) _
 have B4 := Lib.hid (show Bxs V0 (w.heap.size + 1) 50 [.bool false, .slice none 0 0, .bool false, .slice none 0 0, .int .u16 0, .int .u16 0, .int .u16 0, .int .u16 0] by
  have h := Bxs.new (w.alloc (.cells #[.int .u8 o] 44)) 50 [.bool false, .slice none 0 0, .bool false, .slice none 0 0, .int .u16 0, .int .u16 0, .int .u16 0, .int .u16 0]
  rw [World.size_alloc] at h
  rw [hV]; exact h)
 have OF := Lib.hid (of_at hx hbV (fun t ht => by cases ht) (by omega))
 have KG := Lib.hid hbV
 have HV := Lib.hid hV
 obtain ⟨A4, hA4⟩ : ∃ A, A = w.heap.size + 1 := ⟨_, rfl⟩
 have HA4 := Lib.hid (show w.heap.size ≤ A4 by omega)
 rw [← hA4] at B4
 have HA5 := Lib.hid hA4
 obtain ⟨xa, xn, xc⟩ := x
 change Calls Tryz.prog 22 #[.int .u8 o, .slice xa xn xc] w _
 clear hV hbV hx hn hA4
 go_enter Tryz.func22, Tryz.ntmps22
 go_upto_region 1 with (fail)
 rw [show (w.alloc (.cells #[.int .u8 o] 44)).alloc (.cells #[.bool false, .slice none 0 0, .bool false, .slice none 0 0, .int .u16 0, .int .u16 0, .int .u16 0, .int .u16 0] 50) = V0 from HV.out.symm, show w.heap.size + 1 = A4 from HA5.out.symm]
 go_wp2_with fail
 with_reducible refine OF.out.mono ?_
 rintro e w1 ⟨⟨pa, pn, pc⟩, he, hkp, hpn, hb⟩
 obtain rfl : e = .returned (.slice pa pn pc) := he
 have B4 := Lib.hid (B4.out.below hb B4.out.lt)
 have KG := Lib.hid (KG.out.trans (hb.mono KG.out.size))
 have h0 := hkp.len
 obtain rfl : pn = 0 := h0
 clear hkp hpn hb OF
 have c40 := B4.out.cell (i := 0) rfl
 have c41 := B4.out.cell (i := 1) rfl
 have c42 := B4.out.cell (i := 2) rfl
 have c43 := B4.out.cell (i := 3) rfl
 have c44 := B4.out.cell (i := 4) rfl
 have c45 := B4.out.cell (i := 5) rfl
 have c46 := B4.out.cell (i := 6) rfl
 have c47 := B4.out.cell (i := 7) rfl
 have c4f := B4.out.fz
 have c4l := B4.out.lt
 go_wp2_with fail
 exact bodyPost_ret (results_ct rfl _ _ _ _ _ _ _ rfl (put8_bxs B4.out ..) Tryz.underlying50 rfl (by kernel_rfl)) rfl ⟨rfl, put8_below KG.out HA4.out ..⟩
def put4 (w : World) (b : Nat) (v0 v1 v2 v3 : Value) : World := (((w.setCell ⟨b, 0, none⟩ v0).setCell ⟨b, 1, none⟩ v1).setCell ⟨b, 2, none⟩ v2).setCell ⟨b, 3, none⟩ v3
theorem put4_bxs {w : World} {b : Nat} {t : TypeId} {u0 u1 u2 u3 : Value} (h : Bxs w b t [u0, u1, u2, u3]) (v0 v1 v2 v3 : Value) : Bxs (put4 w b v0 v1 v2 v3) b t [v0, v1, v2, v3] := (((h.put 0 v0).put 1 v1).put 2 v2).put 3 v3
theorem put4_other {w : World} {b g : Nat} {t : TypeId} {l : List Value} (h : Bxs w g t l) (hn : g ≠ b) (v0 v1 v2 v3 : Value) : Bxs (put4 w b v0 v1 v2 v3) g t l := (((h.other (a := ⟨b, 0, none⟩) hn v0).other (a := ⟨b, 1, none⟩) hn v1).other (a := ⟨b, 2, none⟩) hn v2).other (a := ⟨b, 3, none⟩) hn v3
theorem put4_df {w : World} {lo b : Nat} {x : FV} {q : Rat} {t : TypeId} {u0 u1 u2 u3 : Value} (h : DF w lo x q) (hb : Bxs w b t [u0, u1, u2, u3]) (ht : 110 ≠ t) (v0 v1 v2 v3 : Value) : DF (put4 w b v0 v1 v2 v3) lo x q :=
 (((h.setBxs hb ht 0 v0).setBxs (hb.put 0 v0) ht 1 v1).setBxs ((hb.put 0 v0).put 1 v1) ht 2 v2).setBxs (((hb.put 0 v0).put 1 v1).put 2 v2) ht 3 v3
theorem put4_below {B : Nat} {u w : World} {b : Nat} (h : Below B u w) (hb : B ≤ b) (v0 v1 v2 v3 : Value) : Below B u (put4 w b v0 v1 v2 v3) := (((h.setCell hb v0).setCell hb v1).setCell hb v2).setCell hb v3
structure PC (P : List Tm) (n k e : Nat) : Prop where
 c : Canon P
 b : PB P n k e
theorem PC.lq {P : List Tm} {n k e m : Nat} (h : PC P n k e) (hm : k ≤ m) : ∀ t ∈ P, LQ t.2 m := fun t ht => (h.b.lq t ht).up hm
theorem PC.both {P : List Tm} {n k e : Nat} (h : PC P n k e) : ∀ t ∈ P, LQ t.2 k ∧ t.1.le e := fun t ht => ⟨h.b.lq t ht, h.b.ex t ht⟩
theorem PC.add {P Q : List Tm} {n1 k1 e1 n2 k2 e2 : Nat} (h1 : PC P n1 k1 e1) (h2 : PC Q n2 k2 e2) (k e : Nat) (a : k1 ≤ k) (b : k2 ≤ k) (c : e1 ≤ e) (d : e2 ≤ e) : PC (addP P Q) (n1 + n2) (2 * k + 1) e :=
 ⟨addP_canon _ _, PB.add h1.c h2.c (h1.b.up (Nat.le_refl _) a c) (h2.b.up (Nat.le_refl _) b d)⟩
theorem PC.mul {P Q : List Tm} {n1 k1 e1 n2 k2 e2 : Nat} (h1 : PC P n1 k1 e1) (h2 : PC Q n2 k2 e2) : PC (mulP P Q) (n1 * n2) (n1 * (k1 + k2 + 1)) (e1 + e2) := ⟨mulP_canon _ _, PB.mulC h2.c h1.b h2.b⟩
theorem PC.scale {P : List Tm} {n k e k2 : Nat} {c : Rat} (h : PC P n k e) (hc : LQ c k2) : PC (scaleP c P) n (k + k2) e := ⟨scaleP_canon _ _, PB.scale h.c h.b hc⟩
theorem lq_minus : LQ (-1 : Rat) 3 := by rw [show ((-1 : Rat)) = ((-1 : Int) : Rat) by decide +kernel]; exact lq_neg
theorem PC.sub {P Q : List Tm} {n1 k1 e1 n2 k2 e2 : Nat} (h1 : PC P n1 k1 e1) (h2 : PC Q n2 k2 e2) (k e : Nat) (a : k1 ≤ k) (b : k2 + 3 ≤ k) (c : e1 ≤ e) (d : e2 ≤ e) : PC (subP P Q) (n1 + n2) (2 * k + 1) e :=
 h1.add (h2.scale lq_minus) k e a b c d
theorem PC.of {q : Rat} {k : Nat} (h : LQ q k) : PC (nf [(Mo.one, q)]) 1 (k + 1) 0 := by
 have hb : PB [(Mo.one, q)] 1 k 0 := ⟨Nat.le_refl _, fun t ht => by rw [List.mem_singleton.1 ht]; exact h, fun t ht => by rw [List.mem_singleton.1 ht]; exact ⟨Nat.le_refl _, Nat.le_refl _, Nat.le_refl _, Nat.le_refl _⟩⟩
 have h1 := hb.nf
 rw [Nat.one_mul] at h1
 exact ⟨nf_canon _, h1⟩
theorem PC.letter (i : Nat) : PC (letP i) 1 3 1 := by
 refine ⟨letP_canon i, Nat.le_refl _, fun t ht => ?_, fun t ht => ?_⟩
 ·rw [List.mem_singleton.1 ht]
  show LQ (1 : Rat) 3
  rw [show ((1 : Rat)) = ((1 : Int) : Rat) by decide +kernel]
  exact lq_one
 ·rw [List.mem_singleton.1 ht]
  show (letM i).le 1
  unfold letM
  split
  ·exact ⟨by decide, by decide, by decide, by decide⟩
  ·split
   ·exact ⟨by decide, by decide, by decide, by decide⟩
   ·split
    ·exact ⟨by decide, by decide, by decide, by decide⟩
    ·exact ⟨by decide, by decide, by decide, by decide⟩
theorem KP.n_le {w : World} {x : PV} {P : List Tm} {n k e : Nat} (h : KP w x P) (b : PC P n k e) : x.n ≤ n := by rw [h.len]; exact b.b.len
theorem padd {w : World} {x y : PV} {P Q : List Tm} {n1 k1 e1 n2 k2 e2 : Nat} (hx : KP w x P) (b1 : PC P n1 k1 e1) (hy : KP w y Q) (b2 : PC Q n2 k2 e2) (k : Nat) (a : k1 ≤ k) (b : k2 ≤ k) (hk : 2 * k + 2 ≤ 900000) (hn : n1 + n2 ≤ 1000000) :
  Calls Tryz.prog 29 #[x.v, y.v] w fun e w' => ∃ z : PV, e = .returned z.v ∧ DP w' w.heap.size z (addP P Q) ∧ Below w.heap.size w w' :=
 have h1 := hx.n_le b1; have h2 := hy.n_le b2; have h3 := b1.b.len; have h4 := b2.b.len
 add_any x y P Q k w hx.any hy.any (by omega) (by omega) (b1.lq a) (b2.lq b) hk (by omega)
theorem psub {w : World} {x y : PV} {P Q : List Tm} {n1 k1 e1 n2 k2 e2 : Nat} (hx : KP w x P) (b1 : PC P n1 k1 e1) (hy : KP w y Q) (b2 : PC Q n2 k2 e2) (k : Nat) (a : k1 ≤ k) (b : k2 ≤ k) (he : e2 ≤ 65535) (hk : 2 * k + 8 ≤ 900000) (hkk : n2 * (k + 4) ≤ 900000) (hn : n1 + n2 ≤ 1000000) :
  Calls Tryz.prog 35 #[x.v, y.v] w fun e w' => ∃ z : PV, e = .returned z.v ∧ DP w' w.heap.size z (subP P Q) ∧ Below w.heap.size w w' :=
 have h1 := hx.n_le b1; have h2 := hy.n_le b2; have h3 := b1.b.len
 psub_any x y P Q k n2 w hx.any hy.any (by omega) (by omega) (b1.lq a) (b2.b.up (Nat.le_refl _) b he) hk hkk (by omega)
theorem pscale {w : World} {x : PV} {c : FV} {P : List Tm} {r : Rat} {n k e k2 : Nat} (hx : KP w x P) (b1 : PC P n k e) (hc : AF w c r) (lc : LF c 900000) (hr : LQ r k2) (he : e ≤ 65535) (hk : k ≤ 900000) (hn : n ≤ 1000000) (hkk : n * (k + k2 + 1) ≤ 900000) :
  Calls Tryz.prog 14 #[x.v, c.v] w fun e w' => ∃ y : PV, e = .returned y.v ∧ DP w' w.heap.size y (scaleP r P) ∧ Below w.heap.size w w' :=
 have h1 := hx.n_le b1
 scale_any x P c r k n k2 w hx.any (b1.b.up (Nat.le_refl _) (Nat.le_refl _) he) (by omega) hc lc hr hk hkk
theorem pcheck {w : World} {x : PV} {P : List Tm} {n k e : Nat} (hx : KP w x P) (b : PC P n k e) (hk : k ≤ 900000) (hn : n ≤ 1000000000) : Calls Tryz.prog 11 #[x.v] w fun e w' => e = .returned (.bool true) ∧ Below w.heap.size w w' :=
 check_k hx (b.lq hk) (Nat.le_trans (hx.n_le b) hn)
theorem pof {w : World} {c : FV} {q : Rat} {k : Nat} (hc : AF w c q) (lc : LF c 900000) (hq : LQ q k) (hk : k ≤ 400000) : Calls Tryz.prog 32 #[c.v] w fun e w' => ∃ y : PV, e = .returned y.v ∧ DP w' w.heap.size y (nf [(Mo.one, q)]) ∧ Below w.heap.size w w' :=
 of_num c q w hc lc (hq.up hk)
def rowT (T : TypeId) : Bool := T == 50 || T == 110
theorem DP.rows {w w' : World} {lo : Nat} {x : PV} {P : List Tm} (h : DP w lo x P) (hs : ∀ (b : Nat) (c : Array Value) (T : TypeId), w.heap[b]? = some (.cells c T (0, 0)) → rowT T = true → w'.heap[b]? = w.heap[b]?) : DP w' lo x P := by
 obtain ⟨L, h1, h2, h3, h4⟩ := h.ex
 refine ⟨⟨L, ⟨h1.1, h1.2.imp id ?_⟩, fun e he => (h2 e he).kept fun b hb => ?_, h3, h4⟩, h.canon, h.small⟩
 ·rintro ⟨g, cap, cur, hv, hlo, hgk, h3⟩
  exact ⟨g, cap, cur, hv, hlo, (hs g _ _ hgk rfl).trans hgk, h3⟩
 ·obtain ⟨cur, h5⟩ := DF.blkc (h2 e he) hb
  exact hs b _ _ h5 rfl
theorem get2 {α : Type} {a b : α} {Φ : Nat → α → Prop} (h0 : Φ 0 a) (h1 : Φ 1 b) : ∀ i e, [a, b][i]? = some e → Φ i e := fun i e h => by
 match i, h with
 | 0, h => exact (Option.some.inj h) ▸ h0
 | 1, h => exact (Option.some.inj h) ▸ h1
theorem RawQ.gr {w : World} {x : PV} {L : List TO} (h : RawQ w x L) : RT w x.a (L.map Prod.fst) ∧ (L.map Prod.fst).length = x.n := ⟨h.1, by rw [List.length_map]; exact h.2.1⟩
theorem great1P {w : World} {g m : Nat} {x : PV} {L : List TO} (hb : Bxs w g 23 [x.v]) (h1 : RawQ w x L) (hm : m ≤ 1000) :
  Calls Tryz.prog 9 #[.int .i64 m, .slice (some ⟨g, 0, none⟩) 1 1] w (BR w (NotGreat m (L.map Prod.fst))) :=
 (pgreat_any g m 1 [(x, L.map Prod.fst)] w rfl (fun i e h => by match i, h with | 0, h => exact (Option.some.inj h) ▸ hb.cell (i := 0) rfl) (fun e he => by rw [List.mem_singleton.1 he]; exact h1.gr) (by simp) hm).mono
  fun e w' ⟨b, g1, g2, g3⟩ => ⟨b, g1, fun hb => g2 hb _ (List.mem_singleton.2 rfl), g3⟩
theorem great2P {w : World} {g m : Nat} {x y : PV} {L M : List TO} (hb : Bxs w g 23 [x.v, y.v]) (h1 : RawQ w x L) (h2 : RawQ w y M) (hm : m ≤ 1000) :
  Calls Tryz.prog 9 #[.int .i64 m, .slice (some ⟨g, 0, none⟩) 2 2] w (BR w (NotGreat m (L.map Prod.fst) ∧ NotGreat m (M.map Prod.fst))) :=
 (pgreat_any g m 2 [(x, L.map Prod.fst), (y, M.map Prod.fst)] w rfl (get2 (Φ := fun i (e : PV × List TV) => w.cell? ⟨g, i, none⟩ = some e.1.v) (hb.cell (i := 0) rfl) (hb.cell (i := 1) rfl)) (pair_get h1.gr h2.gr) (by simp) hm).mono
  fun e w' ⟨b, g1, g2, g3⟩ => ⟨b, g1, fun hb => ⟨g2 hb (x, L.map Prod.fst) (by simp), g2 hb (y, M.map Prod.fst) (by simp)⟩, g3⟩
theorem RawQ.rawP {w : World} {x : PV} {L : List TO} {m : Nat} (h : RawQ w x L) (hg : NotGreat m (L.map Prod.fst)) : RawP w x L := h.raw fun e he => by
 obtain ⟨h1, h2⟩ := hg.2 e.1 (List.mem_map_of_mem he)
 exact ⟨Nat.le_trans h1 (by decide), Nat.le_trans h2 (by decide)⟩
theorem raw_cases {w : World} {x : PV} {L : List TO} {m E : Nat} (h : RawQ w x L) (hg : NotGreat m (L.map Prod.fst)) (hw : ∀ e ∈ L, e.1.m.le E) : (∃ P, KP w x P ∧ PC P m 4 E) ∨ BP w x := by
 have hr := h.rawP hg
 by_cases hk : okP L
 ·obtain ⟨P, hv, hc⟩ := hk
  refine Or.inl ⟨P, hr.kp hv hc, hc, ?_⟩
  obtain ⟨K, hK, hP⟩ := vals_spec hv
  have hin : ∀ e ∈ K, (e.1, some e.2) ∈ L := fun e he => by rw [hK]; exact List.mem_map_of_mem he
  refine ⟨?_, fun t ht => ?_, fun t ht => ?_⟩
  ·have h1 := hg.1
   rw [List.length_map, hK, List.length_map] at h1
   rw [← hP, List.length_map]
   exact h1
  ·rw [← hP] at ht
   obtain ⟨e, he, rfl⟩ := List.mem_map.1 ht
   have h1 : KF w e.1.c e.2 := hr.2.2.2.1 _ (hin e he)
   obtain ⟨h2, h3⟩ := hg.2 e.1 (List.mem_map_of_mem (f := Prod.fst) (hin e he))
   exact h1.lq ⟨h2, Nat.le_trans h3 (by decide)⟩
  ·rw [← hP] at ht
   obtain ⟨e, he, rfl⟩ := List.mem_map.1 ht
   exact hw _ (hin e he)
 ·exact Or.inr ⟨L, hr, hk⟩
theorem raw_cases3 {w : World} {x : PV} {L : List TO} {m E : Nat} (h : RawQ w x L) (hg : NotGreat m (L.map Prod.fst)) (hw : ∀ e ∈ L, e.1.m.le E) : BP w x ∨ (∃ P, KP w x P ∧ PC P m 4 E ∧ P = []) ∨ (∃ P, KP w x P ∧ PC P m 4 E ∧ P ≠ []) := by
 rcases raw_cases h hg hw with ⟨P, hk, hc⟩ | hb
 ·by_cases hz : P = []
  ·exact Or.inr (Or.inl ⟨P, hk, hc, hz⟩)
  ·exact Or.inr (Or.inr ⟨P, hk, hc, hz⟩)
 ·exact Or.inl hb
theorem BP.n_le {w : World} {x : PV} {L : List TO} {m : Nat} (h : RawQ w x L) (hg : NotGreat m (L.map Prod.fst)) : x.n ≤ m := by
 have h1 := hg.1
 rw [List.length_map, h.2.1] at h1
 exact h1
def R2 (w : World) (p q : Int) (e : Ending) (w' : World) : Prop := ∃ x y : NV, e = .returned (.agg #[.bool x.s, .slice x.a x.n x.c, .bool y.s, .slice y.a y.n y.c]) ∧ DN w' w.heap.size x p ∧ DN w' w.heap.size y q ∧ Below w.heap.size w w'
theorem put4_dn {w : World} {lo b : Nat} {x : NV} {z : Int} {t : TypeId} {u0 u1 u2 u3 : Value} (h : DN w lo x z) (hb : Bxs w b t [u0, u1, u2, u3]) (ht : 110 ≠ t) (v0 v1 v2 v3 : Value) : DN (put4 w b v0 v1 v2 v3) lo x z :=
 (((h.setBxs hb ht 0 v0).setBxs (hb.put 0 v0) ht 1 v1).setBxs ((hb.put 0 v0).put 1 v1) ht 2 v2).setBxs (((hb.put 0 v0).put 1 v1).put 2 v2) ht 3 v3
set_option maxRecDepth 100000 in
set_option maxHeartbeats 16000000 in
theorem content1_k (x0 x1 y0 y1 : NV) (a0 a1 b0 b1 : Int) (w : World) (nx0 : KN w x0 a0) (nx1 : KN w x1 a1) (ny0 : KN w y0 b0) (ny1 : KN w y1 b1) (la0 : lenB a0.natAbs ≤ 400000) (la1 : lenB a1.natAbs ≤ 400000) (lb0 : lenB b0.natAbs ≤ 400000) (lb1 : lenB b1.natAbs ≤ 400000) (hb1 : b1 ≠ 0) :
  Calls Tryz.prog 52 #[.agg #[.bool x0.s, .slice x0.a x0.n x0.c, .bool x1.s, .slice x1.a x1.n x1.c], .agg #[.bool y0.s, .slice y0.a y0.n y0.c, .bool y1.s, .slice y1.a y1.n y1.c]] w (R2 w ((Int.gcd a0 b0 : Nat) : Int) (a1 * (b1 / ((Int.gcd a1 b1 : Nat) : Int)))) := by
 have KG := Lib.hid (Below.refl w.heap.size w)
 have NX0 := Lib.hid nx0
 have NX1 := Lib.hid nx1
 have NY0 := Lib.hid ny0
 have NY1 := Lib.hid ny1
 have LZa0 := Lib.hid (show lenB a0.natAbs ≤ 400000 from la0)
 have LZa1 := Lib.hid (show lenB a1.natAbs ≤ 400000 from la1)
 have LZb0 := Lib.hid (show lenB b0.natAbs ≤ 400000 from lb0)
 have LZb1 := Lib.hid (show lenB b1.natAbs ≤ 400000 from lb1)
 obtain ⟨zg, hzg⟩ : ∃ z : Int, z = ((Int.gcd a1 b1 : Nat) : Int) := ⟨_, rfl⟩
 have Hzg := Lib.hid hzg
 have LZzg := Lib.hid (show lenB zg.natAbs ≤ 400000 by rw [hzg]; exact len_gcd la1 lb1)
 have HNZ := Lib.hid (show zg ≠ 0 by rw [hzg]; exact fun e => hb1 (Int.gcd_eq_zero_iff.1 (Int.natCast_eq_zero.1 e)).2)
 clear hzg
 clear nx0 nx1 ny0 ny1 la0 la1 lb0 lb1 hb1
 obtain ⟨z5, hz5⟩ : ∃ z : Int, z = b1 / zg := ⟨_, rfl⟩
 have Hz5 := Lib.hid hz5
 have LZz5 := Lib.hid (show lenB z5.natAbs ≤ 400001 by rw [hz5]; exact len_ediv (Nat.le_trans LZb1.out (by decide) : lenB b1.natAbs ≤ 400000) (by decide) (HNZ.out))
 clear hz5
 obtain ⟨z6, hz6⟩ : ∃ z : Int, z = b1 % zg := ⟨_, rfl⟩
 have Hz6 := Lib.hid hz6
 have LZz6 := Lib.hid (show lenB z6.natAbs ≤ 400000 by rw [hz6]; exact len_emod (x := b1) LZzg.out (HNZ.out))
 clear hz6
 obtain ⟨z12, hz12⟩ : ∃ z : Int, z = ((Int.gcd a0 b0 : Nat) : Int) := ⟨_, rfl⟩
 have Hz12 := Lib.hid hz12
 have LZz12 := Lib.hid (show lenB z12.natAbs ≤ 400000 by rw [hz12]; exact len_gcd (Nat.le_trans LZa0.out (by decide) : lenB a0.natAbs ≤ 400000) (Nat.le_trans LZb0.out (by decide) : lenB b0.natAbs ≤ 400000))
 clear hz12
 obtain ⟨z13, hz13⟩ : ∃ z : Int, z = a1 * z5 := ⟨_, rfl⟩
 have Hz13 := Lib.hid hz13
 have LZz13 := Lib.hid (show lenB z13.natAbs ≤ 800001 by rw [hz13]; exact lenZ_mul LZa1.out LZz5.out)
 clear hz13
 go_enter Tryz.func52, Tryz.ntmps52
 go_upto_region 1 with (fail)
 obtain ⟨v4, hV⟩ : ∃ V, V = ((w.alloc (.cells #[.bool x0.s, .slice x0.a x0.n x0.c, .bool x1.s, .slice x1.a x1.n x1.c] 76)).alloc (.cells #[.bool y0.s, .slice y0.a y0.n y0.c, .bool y1.s, .slice y1.a y1.n y1.c] 76)).alloc (.cells #[.bool false, .slice none 0 0, .bool false, .slice none 0 0] 76) := ⟨_, rfl⟩
 have hbV : Below w.heap.size w v4 := by rw [hV]; exact ((((Below.refl _ _).alloc (Nat.le_refl _) _).alloc (by go_size) _).alloc (by go_size) _)
 have BX1 := Lib.hid (show Bxs v4 (w.heap.size) 76 [.bool x0.s, .slice x0.a x0.n x0.c, .bool x1.s, .slice x1.a x1.n x1.c] by have h := ((Bxs.new (w) 76 [.bool x0.s, .slice x0.a x0.n x0.c, .bool x1.s, .slice x1.a x1.n x1.c]).alloc (.cells #[.bool y0.s, .slice y0.a y0.n y0.c, .bool y1.s, .slice y1.a y1.n y1.c] 76)).alloc (.cells #[.bool false, .slice none 0 0, .bool false, .slice none 0 0] 76); rw [hV]; exact h)
 have BX2 := Lib.hid (show Bxs v4 (w.heap.size + 1) 76 [.bool y0.s, .slice y0.a y0.n y0.c, .bool y1.s, .slice y1.a y1.n y1.c] by have h := (Bxs.new (w.alloc (.cells #[.bool x0.s, .slice x0.a x0.n x0.c, .bool x1.s, .slice x1.a x1.n x1.c] 76)) 76 [.bool y0.s, .slice y0.a y0.n y0.c, .bool y1.s, .slice y1.a y1.n y1.c]).alloc (.cells #[.bool false, .slice none 0 0, .bool false, .slice none 0 0] 76); simp only [World.size_alloc] at h; rw [hV]; exact h)
 have BX3 := Lib.hid (show Bxs v4 (w.heap.size + 1 + 1) 76 [.bool false, .slice none 0 0, .bool false, .slice none 0 0] by have h := Bxs.new ((w.alloc (.cells #[.bool x0.s, .slice x0.a x0.n x0.c, .bool x1.s, .slice x1.a x1.n x1.c] 76)).alloc (.cells #[.bool y0.s, .slice y0.a y0.n y0.c, .bool y1.s, .slice y1.a y1.n y1.c] 76)) 76 [.bool false, .slice none 0 0, .bool false, .slice none 0 0]; simp only [World.size_alloc] at h; rw [hV]; exact h)
 rw [show ((w.alloc (.cells #[.bool x0.s, .slice x0.a x0.n x0.c, .bool x1.s, .slice x1.a x1.n x1.c] 76)).alloc (.cells #[.bool y0.s, .slice y0.a y0.n y0.c, .bool y1.s, .slice y1.a y1.n y1.c] 76)).alloc (.cells #[.bool false, .slice none 0 0, .bool false, .slice none 0 0] 76) = v4 from hV.symm]
 have KG := Lib.hid (KG.out.trans (hbV.mono KG.out.size))
 clear hV hbV
 go_upto_region 1 with (fail)
 refine Go.FreshS.wp_region_fresh 16 [(14, 12), (15, 13)] (Go.FreshS.spOf [(6, Go.FreshS.Sp.made (fun x : NV => x.v) (fun x w' => DN w' v4.heap.size x zg) NV.blk), (7, Go.FreshS.Sp.made (NV2.v 0) (fun x w' => DN w' v4.heap.size x.p z5 ∧ DN w' v4.heap.size x.q z6) NV2.blk), (12, Go.FreshS.Sp.box 26 2 v4.heap.size), (13, Go.FreshS.Sp.box 26 2 v4.heap.size)])
  (fun w' => Below v4.heap.size v4 w') (by kernel_rfl) (by kernel_rfl) (by kernel_rfl)
  (Go.FreshS.spOf_cons (Go.FreshS.Sp.made_keeps _ (fun _ _ _ h _ hk => h.kept hk) (Go.FreshS.notTaken (by kernel_rfl))) (Go.FreshS.spOf_cons (Go.FreshS.Sp.made_keeps _ (fun _ _ _ h _ hk => ⟨h.1.kept fun b hb => hk b (Or.inl hb), h.2.kept fun b hb => hk b (Or.inr hb)⟩) (Go.FreshS.notTaken (by kernel_rfl))) (Go.FreshS.spOf_cons (Go.FreshS.Sp.box_keeps _ _ _ _) (Go.FreshS.spOf_cons (Go.FreshS.Sp.box_keeps _ _ _ _) (Go.FreshS.spOf_nil))))) (fun _ _ h hb => h.trans (hb.mono h.size)) ((Below.refl _ _).drew) ?_
 simp only [List.append_eq, List.cons_append, List.nil_append, List.take_succ_cons, List.take_zero, List.drop_succ_cons, List.drop_zero]
 refine Go.FreshS.wpF_reads rfl rfl rfl ?_ (fun w' hw' => ?_) ?_
 rotate_left
 ·have hb' := hw'.world
  skip
  clear hw'
  go_simp
  try rfl
 conv => arg 10; simp only [Act.put, List.setIfInBounds_toArray, List.set_cons_succ, List.set_cons_zero]
 refine Go.FreshS.wpF_reads rfl rfl rfl ?_ (fun w' hw' => ?_) ?_
 rotate_left
 ·have hb' := hw'.world
  have hs0 := (BX2.out.below hb' BX2.out.lt).cell (i := 0) rfl
  have hs1 := (BX2.out.below hb' BX2.out.lt).cell (i := 1) rfl
  have hs2 := (BX2.out.below hb' BX2.out.lt).cell (i := 2) rfl
  have hs3 := (BX2.out.below hb' BX2.out.lt).cell (i := 3) rfl
  have hsf := (BX2.out.below hb' BX2.out.lt).fz
  have hsl := (BX2.out.below hb' BX2.out.lt).lt
  clear hw'
  go_simp
  try rfl
 conv => arg 10; simp only [Act.put, List.setIfInBounds_toArray, List.set_cons_succ, List.set_cons_zero]
 refine Go.FreshS.wpF_reads rfl rfl rfl ?_ (fun w' hw' => ?_) ?_
 rotate_left
 ·have hb' := hw'.world
  skip
  clear hw'
  go_simp
  try rfl
 conv => arg 10; simp only [Act.put, List.setIfInBounds_toArray, List.set_cons_succ, List.set_cons_zero]
 refine Go.FreshS.wpF_reads rfl rfl rfl ?_ (fun w' hw' => ?_) ?_
 rotate_left
 ·have hb' := hw'.world
  have hs0 := (BX1.out.below hb' BX1.out.lt).cell (i := 0) rfl
  have hs1 := (BX1.out.below hb' BX1.out.lt).cell (i := 1) rfl
  have hs2 := (BX1.out.below hb' BX1.out.lt).cell (i := 2) rfl
  have hs3 := (BX1.out.below hb' BX1.out.lt).cell (i := 3) rfl
  have hsf := (BX1.out.below hb' BX1.out.lt).fz
  have hsl := (BX1.out.below hb' BX1.out.lt).lt
  clear hw'
  go_simp
  try rfl
 conv => arg 10; simp only [Act.put, List.setIfInBounds_toArray, List.set_cons_succ, List.set_cons_zero]
 refine Go.FreshS.wpF_reads rfl rfl rfl ?_ (fun w' hw' => ?_) ?_
 rotate_left
 ·have hb' := hw'.world
  skip
  clear hw'
  go_simp
  try rfl
 conv => arg 10; simp only [Act.put, List.setIfInBounds_toArray, List.set_cons_succ, List.set_cons_zero]
 refine Go.FreshS.wpF_reads rfl rfl rfl ?_ (fun w' hw' => ?_) ?_
 rotate_left
 ·have hb' := hw'.world
  have hs0 := (BX2.out.below hb' BX2.out.lt).cell (i := 0) rfl
  have hs1 := (BX2.out.below hb' BX2.out.lt).cell (i := 1) rfl
  have hs2 := (BX2.out.below hb' BX2.out.lt).cell (i := 2) rfl
  have hs3 := (BX2.out.below hb' BX2.out.lt).cell (i := 3) rfl
  have hsf := (BX2.out.below hb' BX2.out.lt).fz
  have hsl := (BX2.out.below hb' BX2.out.lt).lt
  clear hw'
  go_simp
  try rfl
 conv => arg 10; simp only [Act.put, List.setIfInBounds_toArray, List.set_cons_succ, List.set_cons_zero]
 refine Go.FreshS.wpF_spec rfl rfl rfl (fun w' hw' => ?_) ?_
 ·have hb' := hw'.world
  refine Go.FreshS.gives_of (Go.FreshS.PM (fun x : NV => x.v) (fun x w' => DN w' v4.heap.size x zg) NV.blk w'.heap.size) ?_ (fun _ _ h => h.post @NV.inj)
  go_simp
  have CT := gcdN (NX1.out.below (KG.out.trans (hb'.mono KG.out.size))).any ((NX1.out.below (KG.out.trans (hb'.mono KG.out.size))).len LZa1.out (by decide)) (NY1.out.below (KG.out.trans (hb'.mono KG.out.size))).any ((NY1.out.below (KG.out.trans (hb'.mono KG.out.size))).len LZb1.out (by decide))
  rw [show ((Int.gcd a1 b1 : Nat) : Int) = zg from Hzg.out.symm] at CT
  refine CT.mono ?_
  rintro e w'' ⟨za, rfl, ho, hb⟩
  exact ⟨_, rfl, ⟨za, rfl, ho.mono hb'.size, ho.blks⟩, hb⟩
 rintro _ ⟨y6, rfl⟩
 conv => arg 10; simp only [Act.put, List.setIfInBounds_toArray, List.set_cons_succ, List.set_cons_zero]
 refine Go.FreshS.wpF_spec rfl rfl rfl (fun w' hw' => ?_) ?_
 ·have hb' := hw'.world
  refine Go.FreshS.gives_of (Go.FreshS.PM (NV2.v 0) (fun x w' => DN w' v4.heap.size x.p z5 ∧ DN w' v4.heap.size x.q z6) NV2.blk w'.heap.size) ?_ (fun _ _ h => h.post (NV2.inj 0))
  go_simp
  have f6 := Go.FreshS.made_of (val := fun x : NV => x.v) (Φ := fun x w' => DN w' v4.heap.size x zg) @NV.inj (hw'.fact 6 (by kernel_rfl))
  have CT := divN (NY1.out.below (KG.out.trans (hb'.mono KG.out.size))) ((NY1.out.below (KG.out.trans (hb'.mono KG.out.size))).len LZb1.out (by decide)) f6.k (f6.k.len LZzg.out (by decide)) (HNZ.out)
  rw [show b1 / zg = z5 from Hz5.out.symm] at CT
  rw [show b1 % zg = z6 from Hz6.out.symm] at CT
  refine CT.mono ?_
  rintro e w'' ⟨za, zb, rfl, ho, ho', hb⟩
  exact ⟨_, rfl, ⟨⟨za, zb⟩, rfl, ⟨ho.mono hb'.size, ho'.mono hb'.size⟩, fun b hb => hb.elim (ho.blks b) (ho'.blks b)⟩, hb⟩
 rintro _ ⟨y7, rfl⟩
 conv => arg 10; simp only [Act.put, List.setIfInBounds_toArray, List.set_cons_succ, List.set_cons_zero]
 refine Go.FreshS.wpF_reads rfl rfl rfl ?_ (fun w' hw' => ?_) ?_
 rotate_left
 ·have hb' := hw'.world
  skip
  clear hw'
  go_simp
  try rfl
 conv => arg 10; simp only [Act.put, List.setIfInBounds_toArray, List.set_cons_succ, List.set_cons_zero]
 refine Go.FreshS.wpF_reads rfl rfl rfl ?_ (fun w' hw' => ?_) ?_
 rotate_left
 ·have hb' := hw'.world
  skip
  clear hw'
  go_simp
  try rfl
 conv => arg 10; simp only [Act.put, List.setIfInBounds_toArray, List.set_cons_succ, List.set_cons_zero]
 refine Go.FreshS.wpF_reads rfl rfl rfl ?_ (fun w' hw' => ?_) ?_
 rotate_left
 ·have hb' := hw'.world
  skip
  clear hw'
  go_simp
  try rfl
 conv => arg 10; simp only [Act.put, List.setIfInBounds_toArray, List.set_cons_succ, List.set_cons_zero]
 refine Go.FreshS.wpF_reads rfl rfl rfl ?_ (fun w' hw' => ?_) ?_
 rotate_left
 ·have hb' := hw'.world
  skip
  clear hw'
  go_simp
  try rfl
 conv => arg 10; simp only [Act.put, List.setIfInBounds_toArray, List.set_cons_succ, List.set_cons_zero]
 refine Go.FreshS.wpF_spec rfl rfl rfl (fun w' hw' => ?_) ?_
 ·have hb' := hw'.world
  refine Go.FreshS.gives_of (Go.FreshS.PB 26 2 v4.heap.size w'.heap.size) ?_ (fun _ _ h => h.post)
  go_simp
  exact ⟨Go.FreshS.PB.new _ rfl hb'.size, (Below.refl _ _).alloc (Nat.le_refl _) _⟩
 rintro _ ⟨y12, rfl⟩
 conv => arg 10; simp only [Act.put, List.setIfInBounds_toArray, List.set_cons_succ, List.set_cons_zero]
 refine Go.FreshS.wpF_spec rfl rfl rfl (fun w' hw' => ?_) ?_
 ·have hb' := hw'.world
  refine Go.FreshS.gives_of (Go.FreshS.PB 26 2 v4.heap.size w'.heap.size) ?_ (fun _ _ h => h.post)
  go_simp
  exact ⟨Go.FreshS.PB.new _ rfl hb'.size, (Below.refl _ _).alloc (Nat.le_refl _) _⟩
 rintro _ ⟨y13, rfl⟩
 conv => arg 10; simp only [Act.put, List.setIfInBounds_toArray, List.set_cons_succ, List.set_cons_zero]
 refine Go.FreshS.wpF_store rfl rfl 12 rfl rfl rfl rfl (fun _ => Iff.rfl) (fun w' hw' => ?_) ?_
 ·have hb' := hw'.world
  have hX := Go.FreshS.box_of (hw'.fact 12 (by kernel_rfl))
  obtain ⟨c0, c1, hB⟩ := shp2 hX.1
  have m0 := hB.cell (i := 0) rfl
  have m1 := hB.cell (i := 1) rfl
  have mf := hB.fz
  have ml := hB.lt
  refine Go.FreshS.stores_of ?_ (store2 hb' hX.2 hB (.bool y7.p.s) (.slice y7.p.a y7.p.n y7.p.c))
  clear hw'
  go_simp
  try rfl
 conv => arg 10; simp only [Act.put, List.setIfInBounds_toArray, List.set_cons_succ, List.set_cons_zero]
 refine Go.FreshS.wpF_store rfl rfl 13 rfl rfl rfl rfl (fun _ => Iff.rfl) (fun w' hw' => ?_) ?_
 ·have hb' := hw'.world
  have hX := Go.FreshS.box_of (hw'.fact 13 (by kernel_rfl))
  obtain ⟨c0, c1, hB⟩ := shp2 hX.1
  have m0 := hB.cell (i := 0) rfl
  have m1 := hB.cell (i := 1) rfl
  have mf := hB.fz
  have ml := hB.lt
  refine Go.FreshS.stores_of ?_ (store2 hb' hX.2 hB (.bool y7.q.s) (.slice y7.q.a y7.q.n y7.q.c))
  clear hw'
  go_simp
  try rfl
 conv => arg 10; simp only [Act.put, List.setIfInBounds_toArray, List.set_cons_succ, List.set_cons_zero]
 refine Go.FreshS.wpF_nil (fun w9 hb hF => ?_)
 have BX7 := Lib.hid (show Bxs w9 y12 26 [.bool y7.p.s, .slice y7.p.a y7.p.n y7.p.c] from stored_bxs (hF.all 14))
 have N10 := Lib.hid (show DN w9 v4.heap.size y7.p z5 from (Go.FreshS.made_of (val := NV2.v 0) (Φ := fun x w' => DN w' v4.heap.size x.p z5 ∧ DN w' v4.heap.size x.q z6) (NV2.inj 0) (hF.all 7)).1)
 have BX8 := Lib.hid (show Bxs w9 y13 26 [.bool y7.q.s, .slice y7.q.a y7.q.n y7.q.c] from stored_bxs (hF.all 15))
 have N11 := Lib.hid (show DN w9 v4.heap.size y7.q z6 from (Go.FreshS.made_of (val := NV2.v 0) (Φ := fun x w' => DN w' v4.heap.size x.p z5 ∧ DN w' v4.heap.size x.q z6) (NV2.inj 0) (hF.all 7)).2)
 clear hF
 have BX1 := Lib.hid (BX1.out.below hb BX1.out.lt)
 have BX2 := Lib.hid (BX2.out.below hb BX2.out.lt)
 have BX3 := Lib.hid (BX3.out.below hb BX3.out.lt)
 have KG := Lib.hid (KG.out.trans (hb.mono KG.out.size))
 clear hb
 clear BX8
 clear N11
 have HSZ := Lib.hid (show w.heap.size ≤ w9.heap.size from KG.out.size)
 go_upto_region 2 with (fail)
 refine Go.FreshS.wp_region_fresh 10 [] (Go.FreshS.spOf [(4, Go.FreshS.Sp.made (fun x : NV => x.v) (fun x w' => DN w' w9.heap.size x z12) NV.blk), (8, Go.FreshS.Sp.made (fun x : NV => x.v) (fun x w' => DN w' w9.heap.size x z13) NV.blk)])
  (fun w' => Below w9.heap.size w9 w') (by kernel_rfl) (by kernel_rfl) (by kernel_rfl)
  (Go.FreshS.spOf_cons (Go.FreshS.Sp.made_keeps _ (fun _ _ _ h _ hk => h.kept hk) (Go.FreshS.notTaken (by kernel_rfl))) (Go.FreshS.spOf_cons (Go.FreshS.Sp.made_keeps _ (fun _ _ _ h _ hk => h.kept hk) (Go.FreshS.notTaken (by kernel_rfl))) (Go.FreshS.spOf_nil))) (fun _ _ h hb => h.trans (hb.mono h.size)) ((Below.refl _ _).drew) ?_
 simp only [List.append_eq, List.cons_append, List.nil_append, List.take_succ_cons, List.take_zero, List.drop_succ_cons, List.drop_zero]
 refine Go.FreshS.wpF_reads rfl rfl rfl ?_ (fun w' hw' => ?_) ?_
 rotate_left
 ·have hb' := hw'.world
  skip
  clear hw'
  go_simp
  try rfl
 conv => arg 10; simp only [Act.put, List.setIfInBounds_toArray, List.set_cons_succ, List.set_cons_zero]
 refine Go.FreshS.wpF_reads rfl rfl rfl ?_ (fun w' hw' => ?_) ?_
 rotate_left
 ·have hb' := hw'.world
  have hs0 := (BX1.out.below hb' BX1.out.lt).cell (i := 0) rfl
  have hs1 := (BX1.out.below hb' BX1.out.lt).cell (i := 1) rfl
  have hs2 := (BX1.out.below hb' BX1.out.lt).cell (i := 2) rfl
  have hs3 := (BX1.out.below hb' BX1.out.lt).cell (i := 3) rfl
  have hsf := (BX1.out.below hb' BX1.out.lt).fz
  have hsl := (BX1.out.below hb' BX1.out.lt).lt
  clear hw'
  go_simp
  try rfl
 conv => arg 10; simp only [Act.put, List.setIfInBounds_toArray, List.set_cons_succ, List.set_cons_zero]
 refine Go.FreshS.wpF_reads rfl rfl rfl ?_ (fun w' hw' => ?_) ?_
 rotate_left
 ·have hb' := hw'.world
  skip
  clear hw'
  go_simp
  try rfl
 conv => arg 10; simp only [Act.put, List.setIfInBounds_toArray, List.set_cons_succ, List.set_cons_zero]
 refine Go.FreshS.wpF_reads rfl rfl rfl ?_ (fun w' hw' => ?_) ?_
 rotate_left
 ·have hb' := hw'.world
  have hs0 := (BX2.out.below hb' BX2.out.lt).cell (i := 0) rfl
  have hs1 := (BX2.out.below hb' BX2.out.lt).cell (i := 1) rfl
  have hs2 := (BX2.out.below hb' BX2.out.lt).cell (i := 2) rfl
  have hs3 := (BX2.out.below hb' BX2.out.lt).cell (i := 3) rfl
  have hsf := (BX2.out.below hb' BX2.out.lt).fz
  have hsl := (BX2.out.below hb' BX2.out.lt).lt
  clear hw'
  go_simp
  try rfl
 conv => arg 10; simp only [Act.put, List.setIfInBounds_toArray, List.set_cons_succ, List.set_cons_zero]
 refine Go.FreshS.wpF_spec rfl rfl rfl (fun w' hw' => ?_) ?_
 ·have hb' := hw'.world
  refine Go.FreshS.gives_of (Go.FreshS.PM (fun x : NV => x.v) (fun x w' => DN w' w9.heap.size x z12) NV.blk w'.heap.size) ?_ (fun _ _ h => h.post @NV.inj)
  go_simp
  have CT := gcdN (NX0.out.below (KG.out.trans (hb'.mono KG.out.size))).any ((NX0.out.below (KG.out.trans (hb'.mono KG.out.size))).len LZa0.out (by decide)) (NY0.out.below (KG.out.trans (hb'.mono KG.out.size))).any ((NY0.out.below (KG.out.trans (hb'.mono KG.out.size))).len LZb0.out (by decide))
  rw [show ((Int.gcd a0 b0 : Nat) : Int) = z12 from Hz12.out.symm] at CT
  refine CT.mono ?_
  rintro e w'' ⟨za, rfl, ho, hb⟩
  exact ⟨_, rfl, ⟨za, rfl, ho.mono hb'.size, ho.blks⟩, hb⟩
 rintro _ ⟨y4, rfl⟩
 conv => arg 10; simp only [Act.put, List.setIfInBounds_toArray, List.set_cons_succ, List.set_cons_zero]
 refine Go.FreshS.wpF_reads rfl rfl rfl ?_ (fun w' hw' => ?_) ?_
 rotate_left
 ·have hb' := hw'.world
  skip
  clear hw'
  go_simp
  try rfl
 conv => arg 10; simp only [Act.put, List.setIfInBounds_toArray, List.set_cons_succ, List.set_cons_zero]
 refine Go.FreshS.wpF_reads rfl rfl rfl ?_ (fun w' hw' => ?_) ?_
 rotate_left
 ·have hb' := hw'.world
  have hs0 := (BX1.out.below hb' BX1.out.lt).cell (i := 0) rfl
  have hs1 := (BX1.out.below hb' BX1.out.lt).cell (i := 1) rfl
  have hs2 := (BX1.out.below hb' BX1.out.lt).cell (i := 2) rfl
  have hs3 := (BX1.out.below hb' BX1.out.lt).cell (i := 3) rfl
  have hsf := (BX1.out.below hb' BX1.out.lt).fz
  have hsl := (BX1.out.below hb' BX1.out.lt).lt
  clear hw'
  go_simp
  try rfl
 conv => arg 10; simp only [Act.put, List.setIfInBounds_toArray, List.set_cons_succ, List.set_cons_zero]
 refine Go.FreshS.wpF_reads rfl rfl rfl ?_ (fun w' hw' => ?_) ?_
 rotate_left
 ·have hb' := hw'.world
  have hs0 := (BX7.out.below hb' BX7.out.lt).cell (i := 0) rfl
  have hs1 := (BX7.out.below hb' BX7.out.lt).cell (i := 1) rfl
  have hsf := (BX7.out.below hb' BX7.out.lt).fz
  have hsl := (BX7.out.below hb' BX7.out.lt).lt
  clear hw'
  go_simp
  try rfl
 conv => arg 10; simp only [Act.put, List.setIfInBounds_toArray, List.set_cons_succ, List.set_cons_zero]
 refine Go.FreshS.wpF_spec rfl rfl rfl (fun w' hw' => ?_) ?_
 ·have hb' := hw'.world
  refine Go.FreshS.gives_of (Go.FreshS.PM (fun x : NV => x.v) (fun x w' => DN w' w9.heap.size x z13) NV.blk w'.heap.size) ?_ (fun _ _ h => h.post @NV.inj)
  go_simp
  have CT := mulN (NX1.out.below (KG.out.trans (hb'.mono KG.out.size))).any ((NX1.out.below (KG.out.trans (hb'.mono KG.out.size))).len LZa1.out (by decide)) (N10.out.below hb').k.any ((N10.out.below hb').k.len LZz5.out (by decide))
  rw [show a1 * z5 = z13 from Hz13.out.symm] at CT
  refine CT.mono ?_
  rintro e w'' ⟨za, rfl, ho, hb⟩
  exact ⟨_, rfl, ⟨za, rfl, ho.mono hb'.size, ho.blks⟩, hb⟩
 rintro _ ⟨y8, rfl⟩
 conv => arg 10; simp only [Act.put, List.setIfInBounds_toArray, List.set_cons_succ, List.set_cons_zero]
 refine Go.FreshS.wpF_reads rfl rfl rfl ?_ (fun w' hw' => ?_) ?_
 rotate_left
 ·have hb' := hw'.world
  skip
  clear hw'
  go_simp
  try rfl
 conv => arg 10; simp only [Act.put, List.setIfInBounds_toArray, List.set_cons_succ, List.set_cons_zero]
 refine Go.FreshS.wpF_nil (fun w14 hb hF => ?_)
 have N15 := Lib.hid (show DN w14 w9.heap.size y4 z12 from (Go.FreshS.made_of (val := fun x : NV => x.v) (Φ := fun x w' => DN w' w9.heap.size x z12) @NV.inj (hF.all 4)))
 have N16 := Lib.hid (show DN w14 w9.heap.size y8 z13 from (Go.FreshS.made_of (val := fun x : NV => x.v) (Φ := fun x w' => DN w' w9.heap.size x z13) @NV.inj (hF.all 8)))
 clear hF
 clear N10
 clear BX1
 clear BX2
 have BX3 := Lib.hid (BX3.out.below hb BX3.out.lt)
 clear BX7
 have KG := Lib.hid (KG.out.trans (hb.mono KG.out.size))
 clear hb
 have ca0 := BX3.out.cell (i := 0) rfl
 have ca1 := BX3.out.cell (i := 1) rfl
 have ca2 := BX3.out.cell (i := 2) rfl
 have ca3 := BX3.out.cell (i := 3) rfl
 have caf := BX3.out.fz
 have cal := BX3.out.lt
 have HA := Lib.hid (show w.heap.size ≤ w.heap.size + 1 + 1 by omega)
 have R0 := Lib.hid (put4_dn (N15.out.mono HSZ.out) BX3.out (by decide) (.bool y4.s) (.slice y4.a y4.n y4.c) (.bool y8.s) (.slice y8.a y8.n y8.c))
 have R1 := Lib.hid (put4_dn (N16.out.mono HSZ.out) BX3.out (by decide) (.bool y4.s) (.slice y4.a y4.n y4.c) (.bool y8.s) (.slice y8.a y8.n y8.c))
 have HB := Lib.hid (put4_below KG.out HA.out (.bool y4.s) (.slice y4.a y4.n y4.c) (.bool y8.s) (.slice y8.a y8.n y8.c))
 go_wp2_with fail
 refine bodyPost_ret (results_cell rfl _ _ _ _ _ _ _ rfl (put4_bxs BX3.out ..) Tryz.underlying76 rfl (by kernel_rfl)) rfl ⟨y4, y8, rfl, ?_, ?_, HB.out⟩
 ·rw [show ((Int.gcd a0 b0 : Nat) : Int) = z12 from Hz12.out.symm]; exact R0.out
 ·rw [show a1 * (b1 / ((Int.gcd a1 b1 : Nat) : Int)) = z13 from by rw [Hz13.out, show z5 = b1 / zg from Hz5.out, Hzg.out]]; exact R1.out
set_option maxRecDepth 100000 in
set_option maxHeartbeats 16000000 in
theorem both_k (x : PV) (P : List Tm) (k lo : Nat) (z0 z1 : NV) (w : World) (hx : KP w x P) (hp : ∀ t ∈ P, LQ t.2 k) (hn : P.length ≤ 1000000) (hk : P.length * k + 1 ≤ 400000) (hk4 : k ≤ 400000) (h0 : DN w lo z0 0) (h1 : DN w lo z1 1) (hlo : lo ≤ w.heap.size) :
  Calls Tryz.prog 50 #[x.v, .agg #[.bool z0.s, .slice z0.a z0.n z0.c, .bool z1.s, .slice z1.a z1.n z1.c], .func (.func 52) #[] #[]] w fun e w' => ∃ a b : NV, e = .returned (.agg #[.bool a.s, .slice a.a a.n a.c, .bool b.s, .slice b.a b.n b.c]) ∧ DN w' lo a (gT P 0 : Int) ∧ DN w' lo b (lL P 1 : Int) ∧ Below w.heap.size w w' := by
 obtain ⟨V0, hV⟩ : ∃ V, V = (w.alloc (.cells #[.bool z0.s, .slice z0.a z0.n z0.c, .bool z1.s, .slice z1.a z1.n z1.c] 76)).alloc (.cells #[.bool false, .slice none 0 0, .bool false, .slice none 0 0] 76) := ⟨_, rfl⟩
 have hbV : Below w.heap.size w V0 := by rw [hV]; exact ((Below.refl _ _).alloc (Nat.le_refl _) _).alloc (by go_size) _
 have B4 := Lib.hid (show Bxs V0 w.heap.size 76 [.bool z0.s, .slice z0.a z0.n z0.c, .bool z1.s, .slice z1.a z1.n z1.c] by rw [hV]; exact (Bxs.new w 76 [.bool z0.s, .slice z0.a z0.n z0.c, .bool z1.s, .slice z1.a z1.n z1.c]).alloc _)
 have B6 := Lib.hid (show Bxs V0 (w.heap.size + 1) 76 [.bool false, .slice none 0 0, .bool false, .slice none 0 0] by
  have h := Bxs.new (w.alloc (.cells #[.bool z0.s, .slice z0.a z0.n z0.c, .bool z1.s, .slice z1.a z1.n z1.c] 76)) 76 [.bool false, .slice none 0 0, .bool false, .slice none 0 0]
  rw [World.size_alloc] at h
  rw [hV]; exact h)
 have KG := Lib.hid hbV
 have HV := Lib.hid hV
 have D0 := Lib.hid (h0.below hbV); have D1 := Lib.hid (h1.below hbV); have HLO := Lib.hid hlo
 have HX := Lib.hid hx; have HP := Lib.hid hp; have HN := Lib.hid hn; have HK := Lib.hid hk; have HK4 := Lib.hid hk4
 obtain ⟨A4, hA4⟩ : ∃ A, A = w.heap.size := ⟨_, rfl⟩
 obtain ⟨A6, hA6⟩ : ∃ A, A = w.heap.size + 1 := ⟨_, rfl⟩
 have HA4 := Lib.hid (show w.heap.size ≤ A4 by omega)
 have HA6 := Lib.hid (show w.heap.size ≤ A6 by omega)
 have HN46 := Lib.hid (show A4 ≠ A6 by omega)
 have HN64 := Lib.hid (show A6 ≠ A4 by omega)
 have HE4 := Lib.hid hA4; have HE6 := Lib.hid hA6
 rw [← hA4] at B4
 rw [← hA6] at B6
 obtain ⟨L1, g1, g2, g3, g4⟩ := hx.ex
 have R1 := Lib.hid g1; have F1 := Lib.hid g3; have T1 := Lib.hid g4
 obtain ⟨xa, xn, xc⟩ := x
 have N1 := Lib.hid (show L1.length = xn from g2)
 have HXL := Lib.hid (show xn = P.length from hx.len)
 have hcf : ∀ (args : Array Value) (w : World), (callFunc 52 args).run Tryz.prog w = .ok (.enter 52 args) w := fun _ _ => by kernel_rfl
 change Calls Tryz.prog 50 #[.slice xa xn xc, .agg #[.bool z0.s, .slice z0.a z0.n z0.c, .bool z1.s, .slice z1.a z1.n z1.c], .func (.func 52) #[] #[]] w _
 clear hV hbV hx hp hn hk hk4 h0 h1 hlo hA4 hA6 g1 g2 g3 g4
 go_enter Tryz.func50, Tryz.ntmps50
 go_upto_region 1 with (fail)
 rw [show (w.alloc (.cells #[.bool z0.s, .slice z0.a z0.n z0.c, .bool z1.s, .slice z1.a z1.n z1.c] 76)).alloc (.cells #[.bool false, .slice none 0 0, .bool false, .slice none 0 0] 76) = V0 from HV.out.symm, show w.heap.size + 1 = A6 from HE6.out.symm, show w.heap.size = A4 from HE4.out.symm]
 go_wp2_with fail
 go_loopw [11] (fun i wr => ∃ (j : Nat) (a b : NV), j ≤ xn ∧ i = .int .i64 j ∧ DN wr lo a (gT (P.take j) 0 : Int) ∧ DN wr lo b (lL (P.take j) 1 : Int) ∧ Bxs wr A4 76 [.bool a.s, .slice a.a a.n a.c, .bool b.s, .slice b.a b.n b.c] ∧ Bxs wr A6 76 [.bool false, .slice none 0 0, .bool false, .slice none 0 0] ∧ Below w.heap.size w wr) (fun i _ => xn - (intOf i).toNat)
 case atStart =>
  exact ⟨0, z0, z1, Nat.zero_le _, rfl, D0.out, D1.out, B4.out, B6.out, KG.out⟩
 case round =>
  obtain ⟨j, a, b, hj, rfl, ha, hb, hb4, hb6, hb0⟩ := hrel
  have HJ := Lib.hid hj; have NA := Lib.hid ha; have NB := Lib.hid hb; have B4 := Lib.hid hb4; have B6 := Lib.hid hb6; have KG := Lib.hid hb0
  clear hj ha hb hb4 hb6 hb0
  by_cases hjn : j < xn
  ·have HJN := Lib.hid hjn
   have hjl : j < L1.length := by rw [N1.out]; exact hjn
   obtain ⟨pb, po, rfl, hpb, hcs⟩ := (R1.out.below KG.out).off (i := j) (by rw [List.length_map]; exact hjl)
   obtain ⟨e, he⟩ : ∃ e, L1[j]? = some e := ⟨_, List.getElem?_eq_getElem hjl⟩
   obtain ⟨t, q⟩ := e
   obtain ⟨c0, c1, c2, c3, c4, c5, c6, c7⟩ := RT.eight hcs (i := j) (t := t) (by rw [List.getElem?_map, he]; rfl)
   have hmem := List.mem_of_getElem? he
   have HPJ := Lib.hid (show P[j]? = some (t.m, q) by rw [← T1.out, List.getElem?_map, he]; rfl)
   have NT := Lib.hid (show KF w t.c q from F1.out _ hmem)
   have hpm := List.mem_of_getElem? HPJ.out
   have HTQ := Lib.hid (show LQ q k from HP.out _ hpm)
   have LA := Lib.hid (show lenB ((gT (P.take j) 0 : Nat) : Int).natAbs ≤ 400000 from Nat.le_trans (by
    rw [Int.natAbs_natCast]
    exact gT_len (by rw [lenB_zero]; omega) fun u hu => ⟨HX.out.canon.non u (List.mem_of_mem_take hu), HP.out u (List.mem_of_mem_take hu)⟩) HK4.out)
   have LB := Lib.hid (show lenB ((lL (P.take j) 1 : Nat) : Int).natAbs ≤ 400000 from by
    rw [Int.natAbs_natCast]
    have h1 := lL_len (P := P.take j) (l := 1) (k := k) fun u hu => HP.out u (List.mem_of_mem_take hu)
    rw [lenB_one] at h1
    have h2 : (P.take j).length * k ≤ P.length * k := Nat.mul_le_mul_right _ (by rw [List.length_take]; omega)
    have := HK.out
    omega)
   clear hcs he hpb hjl hmem hpm
   go_upto_region 4 with (fail)
   obtain ⟨V, hV⟩ : ∃ V, V = wr.alloc (.cells #[.bool t.c.t.s, .slice t.c.t.a t.c.t.n t.c.t.c, .bool t.c.l.s, .slice t.c.l.a t.c.l.n t.c.l.c, .int .u16 t.m.x, .int .u16 t.m.y, .int .u16 t.m.z, .int .u16 t.m.t] 50) := ⟨_, rfl⟩
   have hbV : Below wr.heap.size wr V := by rw [hV]; exact (Below.refl _ _).alloc (Nat.le_refl _) _
   have B8 := Lib.hid (show Bxs V wr.heap.size 50 [.bool t.c.t.s, .slice t.c.t.a t.c.t.n t.c.t.c, .bool t.c.l.s, .slice t.c.l.a t.c.l.n t.c.l.c, .int .u16 t.m.x, .int .u16 t.m.y, .int .u16 t.m.z, .int .u16 t.m.t] by rw [hV]; exact Bxs.new wr 50 [.bool t.c.t.s, .slice t.c.t.a t.c.t.n t.c.t.c, .bool t.c.l.s, .slice t.c.l.a t.c.l.n t.c.l.c, .int .u16 t.m.x, .int .u16 t.m.y, .int .u16 t.m.z, .int .u16 t.m.t])
   obtain ⟨A8, hA8⟩ : ∃ A, A = wr.heap.size := ⟨_, rfl⟩
   rw [← hV, ← hA8]
   rw [← hA8] at B8
   have B4 := Lib.hid (B4.out.below hbV B4.out.lt)
   have B6 := Lib.hid (B6.out.below hbV B6.out.lt)
   have NA := Lib.hid (NA.out.below hbV); have NB := Lib.hid (NB.out.below hbV)
   have KG := Lib.hid (KG.out.trans (hbV.mono KG.out.size))
   have NT := Lib.hid (NT.out.below KG.out)
   have ek : IntKind.i64.wrap ((j : Int) + 1) = (j : Int) + 1 := IntWalk.i64_in _ (by have := HJN.out; have := HXL.out; have := HN.out; omega)
   have CT := Lib.hid (content1_k a b t.c.t t.c.l _ _ _ _ V NA.out.k NB.out.k NT.out.t NT.out.l LA.out LB.out (Nat.le_trans HTQ.out.t HK4.out) (Nat.le_trans HTQ.out.l HK4.out) (by have := q.den_pos; omega))
   clear hV hbV hA8 c0 c1 c2 c3 c4 c5 c6 c7 hjn
   have d40 := B4.out.cell (i := 0) rfl
   have d41 := B4.out.cell (i := 1) rfl
   have d42 := B4.out.cell (i := 2) rfl
   have d43 := B4.out.cell (i := 3) rfl
   have d4f := B4.out.fz
   have d4l := B4.out.lt
   have d80 := B8.out.cell (i := 0) rfl
   have d81 := B8.out.cell (i := 1) rfl
   have d82 := B8.out.cell (i := 2) rfl
   have d83 := B8.out.cell (i := 3) rfl
   have d84 := B8.out.cell (i := 4) rfl
   have d85 := B8.out.cell (i := 5) rfl
   have d86 := B8.out.cell (i := 6) rfl
   have d87 := B8.out.cell (i := 7) rfl
   have d8f := B8.out.fz
   have d8l := B8.out.lt
   go_wp2_with fail
   with_reducible refine CT.out.mono ?_
   rintro e w2 ⟨a', b', rfl, ha, hb, hbw⟩
   have B4 := Lib.hid (B4.out.below hbw B4.out.lt)
   have B6 := Lib.hid (B6.out.below hbw B6.out.lt)
   have hsz : lo ≤ V.heap.size := Nat.le_trans HLO.out KG.out.size
   have NA := Lib.hid (show DN w2 lo a' (gT (P.take (j + 1)) 0 : Int) by
    rw [gT_take P j _ HPJ.out]
    exact ha.mono hsz)
   have NB := Lib.hid (show DN w2 lo b' (lL (P.take (j + 1)) 1 : Int) by
    rw [lL_take P j _ HPJ.out]
    have e : ((lL (P.take j) 1 * (q.den / Nat.gcd (lL (P.take j) 1) q.den) : Nat) : Int) = (lL (P.take j) 1 : Int) * ((q.den : Int) / ((Int.gcd (lL (P.take j) 1 : Int) (q.den : Int) : Nat) : Int)) := by
     rw [Int.natCast_mul, Int.natCast_ediv]
     rfl
    exact e ▸ hb.mono hsz)
   have KG := Lib.hid (KG.out.trans (hbw.mono KG.out.size))
   clear ha hb hbw hsz CT d40 d41 d42 d43 d4f d4l d80 d81 d82 d83 d84 d85 d86 d87 d8f d8l
   have d40 := B4.out.cell (i := 0) rfl
   have d41 := B4.out.cell (i := 1) rfl
   have d42 := B4.out.cell (i := 2) rfl
   have d43 := B4.out.cell (i := 3) rfl
   have d4f := B4.out.fz
   have d4l := B4.out.lt
   go_wp2_with fail
   go_roundw
   case rel =>
    exact ⟨j + 1, a', b', by have := HJN.out; omega, rfl, put4_dn NA.out B4.out (by decide) .., put4_dn NB.out B4.out (by decide) .., put4_bxs B4.out .., put4_other B6.out HN64.out .., put4_below KG.out HA4.out ..⟩
   case measure => simp [intOf]; have := HJN.out; omega
  ·have hge : ¬ ((j : Int) < (xn : Int)) := by omega
   have HJE := Lib.hid (show j = xn by have := HJ.out; omega)
   clear hjn
   have htk : P.take j = P := List.take_of_length_le (by rw [HJE.out, HXL.out]; exact Nat.le_refl _)
   have NA := Lib.hid (show DN wr lo a (gT P 0 : Int) by have h := NA.out; rwa [htk] at h)
   have NB := Lib.hid (show DN wr lo b (lL P 1 : Int) by have h := NB.out; rwa [htk] at h)
   clear htk
   have d40 := B4.out.cell (i := 0) rfl
   have d41 := B4.out.cell (i := 1) rfl
   have d42 := B4.out.cell (i := 2) rfl
   have d43 := B4.out.cell (i := 3) rfl
   have d4f := B4.out.fz
   have d4l := B4.out.lt
   have d60 := B6.out.cell (i := 0) rfl
   have d61 := B6.out.cell (i := 1) rfl
   have d62 := B6.out.cell (i := 2) rfl
   have d63 := B6.out.cell (i := 3) rfl
   have d6f := B6.out.fz
   have d6l := B6.out.lt
   go_wp2_with fail
   exact bodyPost_ret (results_cell rfl _ _ _ _ _ _ _ rfl (put4_bxs B6.out (.bool a.s) (.slice a.a a.n a.c) (.bool b.s) (.slice b.a b.n b.c)) Tryz.underlying76 rfl (by kernel_rfl)) rfl ⟨a, b, rfl, put4_dn NA.out B6.out (by decide) .., put4_dn NB.out B6.out (by decide) .., put4_below KG.out HA6.out ..⟩
theorem plead {w : World} {x : PV} {P : List Tm} {n k e : Nat} (o : Int) (hx : KP w x P) (b : PC P n k e) (hk : k ≤ 900000) (hn : n ≤ 1000000) (hne : P ≠ []) :
  Calls Tryz.prog 22 #[.int .u8 o, x.v] w fun e w' => ∃ (y : FV) (t : Tm), e = .returned (.tuple #[TV.v ⟨y, t.1⟩, .bool true]) ∧ DF w' w.heap.size y t.2 ∧ Lead (keyO o) P t ∧ Below w.heap.size w w' :=
 lead_k o x P w hx.any (b.lq hk) (Nat.le_trans (hx.n_le b) hn) hne
end Go.Proofs.YthcccdjfedbnfaaGreatDoor.Pol
