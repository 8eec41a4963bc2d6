/-
  The walks of ContainsFunc over the sums to divide by, and of divisors.
-/
import Derived.Test.YthcccdjfedbnfaaGreatDbJ
import Derived.Lib.EndianBits
set_option linter.unusedSimpArgs false
set_option linter.unusedVariables false
namespace Go.Proofs.YthcccdjfedbnfaaGreat.Pol
open Go.RowKit Go.Sort Go.Proofs.YthcccdjfedbnfaaGreat.Limb
def moF (m : Mo) : Nat → Int := fun i => ((m.at i : Nat) : Int)
theorem moF_small {m : Mo} (h : m.Small) : Mono.Small (moF m) := fun i _ => ⟨Int.natCast_nonneg _, by have := at_small h i; unfold moF; omega⟩
theorem moF_mul (a b : Mo) (i : Nat) : moF (a.mul b) i = moF a i + moF b i := by unfold moF; rw [at_mul]; omega
def keyO (o : Int) (m : Mo) : Int := Mono.KO o (moF m)
theorem keyO_key (o : Int) : Key 65535 (keyO o) where
 add a b ha hb hab := by
  have hB : Mono.mulB (moF a) (moF b) = true := decide_eq_true (by
   obtain ⟨h1, h2, h3, h4⟩ := hab
   rw [← moF_mul, ← moF_mul, ← moF_mul, ← moF_mul]
   show ((a.mul b).x : Int) ≤ 65535 ∧ ((a.mul b).y : Int) ≤ 65535 ∧ ((a.mul b).z : Int) ≤ 65535 ∧ ((a.mul b).t : Int) ≤ 65535
   omega)
  have h := Mono.KO_mul (o := o) hB
  unfold keyO
  rw [← h]
  congr 1
  funext i
  unfold Mono.mulM
  rw [if_pos hB, moF_mul]
 inj a b ha hb h := by
  have h1 := (Mono.KO_same (moF_small (show a.Small from ha)) (moF_small (show b.Small from hb))).1 h
  rw [Mo.eq_iff]
  have g := fun k hk => Int.ofNat.inj (show ((a.at k : Nat) : Int) = ((b.at k : Nat) : Int) from h1 k hk)
  exact ⟨g 0 (by omega), g 1 (by omega), g 2 (by omega), g 3 (by omega)⟩
theorem cmpZ_dec {a b : Int} : Mono.cmpZ a b > 0 ↔ b < a := by
 rcases Int.lt_trichotomy a b with h | h | h
 ·rw [Mono.cmpZ_lt h]; omega
 ·rw [Mono.cmpZ_eq h]; omega
 ·rw [Mono.cmpZ_gt h]; omega
set_option maxRecDepth 100000 in
set_option maxHeartbeats 16000000 in
theorem max_any (G : Nat) (cs : Array Value) (x : PV) (ts : List TV) (K : Mo → Int) (w : World) (hr : RT w x.a ts) (hl : ts.length = x.n) (hn : x.n ≤ 1000000) (hne : ts ≠ []) (hs : ∀ t ∈ ts, t.m.Small)
  (hcf : ∀ (args : Array Value) (w : World), (callFunc G args).run Tryz.prog w = .ok (.enter G args) w)
  (hF : ∀ t u : TV, t.m.Small → u.m.Small → ∀ w1, Below w.heap.size w w1 → Calls Tryz.prog G (#[TV.v t, TV.v u] ++ cs) w1 fun e w' => e = .returned (.int .i64 (Mono.cmpZ (K t.m) (K u.m))) ∧ Below w1.heap.size w1 w') :
  Calls Tryz.prog 37 #[x.v, .func (.func G) #[] cs] w fun e w' => ∃ t, t ∈ ts ∧ (∀ u ∈ ts, K u.m ≤ K t.m) ∧ e = .returned (TV.v t) ∧ Below w.heap.size w w' := by
 obtain ⟨xa, xn, xc⟩ := x
 change Calls Tryz.prog 37 #[.slice xa xn xc, .func (.func G) #[] cs] w _
 have HL := Lib.hid (show ts.length = xn from hl); have HN := Lib.hid (show xn ≤ 1000000 from hn); have HS := Lib.hid hs; have HF := Lib.hid hF
 obtain ⟨pb, po, rfl, hc⟩ := RT.one hr hne
 have HE := Lib.hid hc
 have HP := Lib.hid (show 0 < xn by rw [← HL.out]; exact List.length_pos_iff.2 hne)
 obtain ⟨t0, ht0⟩ : ∃ t, ts[0]? = some t := ⟨_, List.getElem?_eq_getElem (List.length_pos_iff.2 hne)⟩
 have HT0 := Lib.hid ht0
 have h1 : ¬ ((xn : Int) < 1) := by have := HP.out; omega
 obtain ⟨V, hV⟩ : ∃ V, V = w.alloc (.cells #[.bool false, .slice none 0 0, .bool false, .slice none 0 0, .int .u16 0, .int .u16 0, .int .u16 0, .int .u16 0] 41) := ⟨_, rfl⟩
 have hbV : Below w.heap.size w V := by rw [hV]; exact (Below.refl _ _).alloc (Nat.le_refl _) _
 have B4 := Lib.hid (show Bxs V w.heap.size 41 [.bool false, .slice none 0 0, .bool false, .slice none 0 0, .int .u16 0, .int .u16 0, .int .u16 0, .int .u16 0] by rw [hV]; exact Bxs.new w 41 [.bool false, .slice none 0 0, .bool false, .slice none 0 0, .int .u16 0, .int .u16 0, .int .u16 0, .int .u16 0])
 have E0 := Lib.hid ((hc 0 t0 ht0).below hbV)
 have KG := Lib.hid hbV
 have HV := Lib.hid hV
 have HP0 : (0 : Int) < (xn : Int) := by have := HP.out; omega
 clear hr hl hn hs hF hc ht0 hV hbV
 go_enter Tryz.func37, Tryz.ntmps37
 go_upto_region 1 with (fail)
 rw [show w.alloc (.cells #[.bool false, .slice none 0 0, .bool false, .slice none 0 0, .int .u16 0, .int .u16 0, .int .u16 0, .int .u16 0] 41) = V from HV.out.symm]
 obtain ⟨c0, c1, c2, c3, c4, c5, c6, c7⟩ := E0.out.eight
 simp only [Nat.zero_mul, Nat.add_zero] at c0 c1 c2 c3 c4 c5 c6 c7
 go_upto_region 4 with (fail)
 obtain ⟨U, hU⟩ : ∃ U, U = V.alloc (.cells #[.bool t0.c.t.s, .slice t0.c.t.a t0.c.t.n t0.c.t.c, .bool t0.c.l.s, .slice t0.c.l.a t0.c.l.n t0.c.l.c, .int .u16 t0.m.x, .int .u16 t0.m.y, .int .u16 t0.m.z, .int .u16 t0.m.t] 41) := ⟨_, rfl⟩
 have hbU : Below V.heap.size V U := by rw [hU]; exact (Below.refl _ _).alloc (Nat.le_refl _) _
 have B5 := Lib.hid (show Bxs U V.heap.size 41 [.bool t0.c.t.s, .slice t0.c.t.a t0.c.t.n t0.c.t.c, .bool t0.c.l.s, .slice t0.c.l.a t0.c.l.n t0.c.l.c, .int .u16 t0.m.x, .int .u16 t0.m.y, .int .u16 t0.m.z, .int .u16 t0.m.t] by rw [hU]; exact Bxs.new V 41 [.bool t0.c.t.s, .slice t0.c.t.a t0.c.t.n t0.c.t.c, .bool t0.c.l.s, .slice t0.c.l.a t0.c.l.n t0.c.l.c, .int .u16 t0.m.x, .int .u16 t0.m.y, .int .u16 t0.m.z, .int .u16 t0.m.t])
 obtain ⟨A1, hA1⟩ : ∃ A, A = w.heap.size := ⟨_, rfl⟩
 obtain ⟨A2, hA2⟩ : ∃ A, A = V.heap.size := ⟨_, rfl⟩
 have HA1 := Lib.hid (show w.heap.size ≤ A1 by omega)
 have HA2 := Lib.hid (show w.heap.size ≤ A2 by rw [hA2]; exact KG.out.size)
 have HNE := Lib.hid (show A1 ≠ A2 by have := B4.out.lt; omega)
 have B4 := Lib.hid (B4.out.below hbU B4.out.lt)
 have KG := Lib.hid (KG.out.trans (hbU.mono KG.out.size))
 rw [← hU, ← hA2, ← hA1]
 rw [← hA2] at B5
 rw [← hA1] at B4
 clear hU hbU hA1 hA2 c0 c1 c2 c3 c4 c5 c6 c7 h1 HP0
 go_wp2_with fail
 go_loopw [6] (fun i wr => ∃ (j : Nat) (t : TV), 1 ≤ j ∧ j ≤ xn ∧ i = .int .i64 j ∧ t ∈ ts ∧ (∀ i u, ts[i]? = some u → i < j → K u.m ≤ K t.m) ∧ Bxs wr A2 41 [.bool t.c.t.s, .slice t.c.t.a t.c.t.n t.c.t.c, .bool t.c.l.s, .slice t.c.l.a t.c.l.n t.c.l.c, .int .u16 t.m.x, .int .u16 t.m.y, .int .u16 t.m.z, .int .u16 t.m.t] ∧ Bxs wr A1 41 [.bool false, .slice none 0 0, .bool false, .slice none 0 0, .int .u16 0, .int .u16 0, .int .u16 0, .int .u16 0] ∧ Below w.heap.size w wr) (fun i _ => xn - (intOf i).toNat)
 case atStart =>
  refine ⟨1, t0, Nat.le_refl _, HP.out, rfl, List.mem_of_getElem? HT0.out, fun i u h1 h2 => ?_, B5.out, B4.out, KG.out⟩
  obtain rfl : i = 0 := by omega
  rw [HT0.out] at h1
  obtain rfl := Option.some.inj h1
  exact Int.le_refl _
 case round =>
  obtain ⟨j, t, hj1, hj, rfl, hmem, hmax, hB5, hB4, hb0⟩ := hrel
  have HJ1 := Lib.hid hj1; have HJ := Lib.hid hj; have HME := Lib.hid hmem; have HMX := Lib.hid hmax; have B5 := Lib.hid hB5; have B4 := Lib.hid hB4; have KG := Lib.hid hb0
  clear hj1 hj hmem hmax hB5 hB4 hb0
  by_cases hjn : j < xn
  ·have HJN := Lib.hid hjn
   obtain ⟨u, hu⟩ : ∃ u, ts[j]? = some u := ⟨_, List.getElem?_eq_getElem (by rw [HL.out]; exact hjn)⟩
   have HU := Lib.hid hu
   have E1 := Lib.hid ((HE.out j u hu).below KG.out)
   have HST := Lib.hid (HS.out t HME.out)
   have HSU := Lib.hid (HS.out u (List.mem_of_getElem? hu))
   obtain ⟨cv, hcv⟩ : ∃ c, c = Mono.cmpZ (K u.m) (K t.m) := ⟨_, rfl⟩
   have HCV := Lib.hid hcv
   have ek : IntKind.i64.wrap ((j : Int) + 1) = (j : Int) + 1 := IntWalk.i64_in _ (by have := HJN.out; have := HN.out; omega)
   clear hu hcv
   go_upto_region 7 with (fail)
   refine Go.FreshS.wp_region_fresh 7 [] (Go.FreshS.spOf [(6, Go.FreshS.Sp.know (.int .i64 cv))])
    (fun w' => Below wr.heap.size wr w') (by kernel_rfl) (by kernel_rfl) (by kernel_rfl)
    (Go.FreshS.spOf_cons (Go.FreshS.Sp.know_keeps _ _) (Go.FreshS.spOf_nil)) (fun _ _ h hb => h.trans (hb.mono h.size)) ((Below.refl _ _).drew) ?_
   simp only [List.append_eq, List.cons_append, List.nil_append, List.take_succ_cons, List.take_zero, List.drop_succ_cons, List.drop_zero]
   refine Go.FreshS.wpF_reads rfl rfl rfl ?_ (fun w' hw' => ?_) ?_
   rotate_left
   ·have hb' := hw'.world
    skip
    clear hw'
    go_simp
    try rfl
   conv => arg 10; simp only [Act.put, List.setIfInBounds_toArray, List.set_cons_succ, List.set_cons_zero]
   refine Go.FreshS.wpF_reads rfl rfl rfl ?_ (fun w' hw' => ?_) ?_
   rotate_left
   ·have hb' := hw'.world
    skip
    clear hw'
    go_simp
    try rfl
   conv => arg 10; simp only [Act.put, List.setIfInBounds_toArray, List.set_cons_succ, List.set_cons_zero]
   refine Go.FreshS.wpF_reads rfl rfl rfl ?_ (fun w' hw' => ?_) ?_
   rotate_left
   ·have hb' := hw'.world
    skip
    clear hw'
    go_simp
    try rfl
   conv => arg 10; simp only [Act.put, List.setIfInBounds_toArray, List.set_cons_succ, List.set_cons_zero]
   refine Go.FreshS.wpF_reads rfl rfl rfl ?_ (fun w' hw' => ?_) ?_
   rotate_left
   ·have hb' := hw'.world
    skip
    clear hw'
    go_simp
    try rfl
   conv => arg 10; simp only [Act.put, List.setIfInBounds_toArray, List.set_cons_succ, List.set_cons_zero]
   refine Go.FreshS.wpF_reads rfl rfl rfl ?_ (fun w' hw' => ?_) ?_
   rotate_left
   ·have hb' := hw'.world
    obtain ⟨hs0, hs1, hs2, hs3, hs4, hs5, hs6, hs7⟩ := (E1.out.below hb').eight
    clear hw'
    go_simp
    try rfl
   conv => arg 10; simp only [Act.put, List.setIfInBounds_toArray, List.set_cons_succ, List.set_cons_zero]
   refine Go.FreshS.wpF_reads rfl rfl rfl ?_ (fun w' hw' => ?_) ?_
   rotate_left
   ·have hb' := hw'.world
    have hs0 := (B5.out.below hb' B5.out.lt).cell (i := 0) rfl
    have hs1 := (B5.out.below hb' B5.out.lt).cell (i := 1) rfl
    have hs2 := (B5.out.below hb' B5.out.lt).cell (i := 2) rfl
    have hs3 := (B5.out.below hb' B5.out.lt).cell (i := 3) rfl
    have hs4 := (B5.out.below hb' B5.out.lt).cell (i := 4) rfl
    have hs5 := (B5.out.below hb' B5.out.lt).cell (i := 5) rfl
    have hs6 := (B5.out.below hb' B5.out.lt).cell (i := 6) rfl
    have hs7 := (B5.out.below hb' B5.out.lt).cell (i := 7) rfl
    have hsf := (B5.out.below hb' B5.out.lt).fz
    have hsl := (B5.out.below hb' B5.out.lt).lt
    clear hw'
    go_simp
    try rfl
   conv => arg 10; simp only [Act.put, List.setIfInBounds_toArray, List.set_cons_succ, List.set_cons_zero]
   refine Go.FreshS.wpF_spec rfl rfl rfl (fun w' hw' => ?_) ?_
   ·have hb' := hw'.world
    refine Go.FreshS.gives_of (Go.FreshS.PK (.int .i64 cv)) ?_ (fun _ _ h => h.post)
    go_simp
    have CT := HF.out u t HSU.out HST.out w' (KG.out.trans (hb'.mono KG.out.size))
    rw [show Mono.cmpZ (K u.m) (K t.m) = cv from HCV.out.symm] at CT
    refine CT.mono ?_
    rintro e w'' ⟨rfl, hb⟩
    exact ⟨_, rfl, rfl, hb⟩
   rintro _ rfl
   conv => arg 10; simp only [Act.put, List.setIfInBounds_toArray, List.set_cons_succ, List.set_cons_zero]
   refine Go.FreshS.wpF_nil (fun w101 hb hF => ?_)
   clear hF
   have B5 := Lib.hid (B5.out.below hb B5.out.lt)
   have B4 := Lib.hid (B4.out.below hb B4.out.lt)
   have KG := Lib.hid (KG.out.trans (hb.mono KG.out.size))
   clear hb
   by_cases hcp : cv > 0
   ·have hcq : 0 < cv := hcp
    have HCP := Lib.hid hcp
    have E1 := Lib.hid ((HE.out j u HU.out).below KG.out)
    obtain ⟨c0, c1, c2, c3, c4, c5, c6, c7⟩ := E1.out.eight
    have cf := B5.out.fz
    have cl := B5.out.lt
    have c50 := B5.out.cell (i := 0) rfl
    have c51 := B5.out.cell (i := 1) rfl
    have c52 := B5.out.cell (i := 2) rfl
    have c53 := B5.out.cell (i := 3) rfl
    have c54 := B5.out.cell (i := 4) rfl
    have c55 := B5.out.cell (i := 5) rfl
    have c56 := B5.out.cell (i := 6) rfl
    have c57 := B5.out.cell (i := 7) rfl
    go_wp2_with fail
    go_roundw
    case rel =>
     refine ⟨j + 1, u, by omega, by have := HJN.out; omega, rfl, List.mem_of_getElem? HU.out, fun i v h1 h2 => ?_, put8_bxs B5.out .., ?_, put8_below KG.out HA2.out ..⟩
     ·have h3 : K t.m < K u.m := cmpZ_dec.1 (by rw [← HCV.out]; exact HCP.out)
      by_cases h4 : i < j
      ·have := HMX.out i v h1 h4; omega
      ·obtain rfl : i = j := by omega
       rw [HU.out] at h1
       obtain rfl := Option.some.inj h1
       exact Int.le_refl _
     ·exact ((((((((B4.out.other HNE.out _).other HNE.out _).other HNE.out _).other HNE.out _).other HNE.out _).other HNE.out _).other HNE.out _).other HNE.out _)
    case measure => simp [intOf]; have := HJN.out; omega
   ·have hcq : ¬ (0 < cv) := hcp
    have HCP := Lib.hid hcp
    go_wp2_with fail
    go_roundw
    case rel =>
     refine ⟨j + 1, t, by omega, by have := HJN.out; omega, rfl, HME.out, fun i v h1 h2 => ?_, B5.out, B4.out, KG.out⟩
     by_cases h4 : i < j
     ·exact HMX.out i v h1 h4
     ·obtain rfl : i = j := by omega
      rw [HU.out] at h1
      obtain rfl := Option.some.inj h1
      have h3 : ¬ (K t.m < K u.m) := fun h => HCP.out (by rw [HCV.out]; exact cmpZ_dec.2 h)
      omega
    case measure => simp [intOf]; have := HJN.out; omega
  ·have hge : ¬ ((j : Int) < (xn : Int)) := by omega
   have HJE := Lib.hid (show j = xn by have := HJ.out; omega)
   clear hjn
   have c0 := B5.out.cell (i := 0) rfl
   have c1 := B5.out.cell (i := 1) rfl
   have c2 := B5.out.cell (i := 2) rfl
   have c3 := B5.out.cell (i := 3) rfl
   have c4 := B5.out.cell (i := 4) rfl
   have c5 := B5.out.cell (i := 5) rfl
   have c6 := B5.out.cell (i := 6) rfl
   have c7 := B5.out.cell (i := 7) rfl
   have cf := B4.out.fz
   have cl := B4.out.lt
   have c40 := B4.out.cell (i := 0) rfl
   have c41 := B4.out.cell (i := 1) rfl
   have c42 := B4.out.cell (i := 2) rfl
   have c43 := B4.out.cell (i := 3) rfl
   have c44 := B4.out.cell (i := 4) rfl
   have c45 := B4.out.cell (i := 5) rfl
   have c46 := B4.out.cell (i := 6) rfl
   have c47 := B4.out.cell (i := 7) rfl
   go_wp2_with fail
   refine bodyPost_ret (results_cell rfl _ _ _ _ _ _ _ rfl (put8_bxs B4.out ..) Tryz.underlying41 rfl (by kernel_rfl)) rfl ⟨t, HME.out, fun u hu => ?_, rfl, put8_below KG.out HA1.out ..⟩
   obtain ⟨i, h⟩ := List.mem_iff_getElem?.1 hu
   exact HMX.out i u h (by have h8 := (List.getElem?_eq_some_iff.1 h).1; have h5 := HL.out; have h9 := HJE.out; omega)
set_option maxRecDepth 100000 in
set_option maxHeartbeats 4000000 in
theorem lead1_any (o : Int) (t u : TV) (w : World) (bo : Nat) (hb : Bxs w bo 22 [.int .u8 o]) (ht : t.m.Small) (hu : u.m.Small) :
  Calls Tryz.prog 38 #[TV.v t, TV.v u, .pointer (some ⟨bo, 0, none⟩)] w fun e w' => e = .returned (.int .i64 (Mono.cmpZ (keyO o t.m) (keyO o u.m))) ∧ Below w.heap.size w w' := by
 obtain ⟨V, hV⟩ : ∃ V, V = (w.alloc (.cells #[.bool t.c.t.s, .slice t.c.t.a t.c.t.n t.c.t.c, .bool t.c.l.s, .slice t.c.l.a t.c.l.n t.c.l.c, .int .u16 t.m.x, .int .u16 t.m.y, .int .u16 t.m.z, .int .u16 t.m.t] 41)).alloc (.cells #[.bool u.c.t.s, .slice u.c.t.a u.c.t.n u.c.t.c, .bool u.c.l.s, .slice u.c.l.a u.c.l.n u.c.l.c, .int .u16 u.m.x, .int .u16 u.m.y, .int .u16 u.m.z, .int .u16 u.m.t] 41) := ⟨_, rfl⟩
 have hbV : Below w.heap.size w V := by rw [hV]; exact ((Below.refl _ _).alloc (Nat.le_refl _) _).alloc (by go_size) _
 have B1 := Lib.hid (show Bxs V w.heap.size 41 [.bool t.c.t.s, .slice t.c.t.a t.c.t.n t.c.t.c, .bool t.c.l.s, .slice t.c.l.a t.c.l.n t.c.l.c, .int .u16 t.m.x, .int .u16 t.m.y, .int .u16 t.m.z, .int .u16 t.m.t] by rw [hV]; exact (Bxs.new w 41 [.bool t.c.t.s, .slice t.c.t.a t.c.t.n t.c.t.c, .bool t.c.l.s, .slice t.c.l.a t.c.l.n t.c.l.c, .int .u16 t.m.x, .int .u16 t.m.y, .int .u16 t.m.z, .int .u16 t.m.t]).alloc _)
 have B2 := Lib.hid (show Bxs V (w.heap.size + 1) 41 [.bool u.c.t.s, .slice u.c.t.a u.c.t.n u.c.t.c, .bool u.c.l.s, .slice u.c.l.a u.c.l.n u.c.l.c, .int .u16 u.m.x, .int .u16 u.m.y, .int .u16 u.m.z, .int .u16 u.m.t] by
  have h := Bxs.new (w.alloc (.cells #[.bool t.c.t.s, .slice t.c.t.a t.c.t.n t.c.t.c, .bool t.c.l.s, .slice t.c.l.a t.c.l.n t.c.l.c, .int .u16 t.m.x, .int .u16 t.m.y, .int .u16 t.m.z, .int .u16 t.m.t] 41)) 41 [.bool u.c.t.s, .slice u.c.t.a u.c.t.n u.c.t.c, .bool u.c.l.s, .slice u.c.l.a u.c.l.n u.c.l.c, .int .u16 u.m.x, .int .u16 u.m.y, .int .u16 u.m.z, .int .u16 u.m.t]
  rw [World.size_alloc] at h
  rw [hV]; exact h)
 have BO := Lib.hid (hb.below hbV hb.lt)
 have KG := Lib.hid hbV
 have HV := Lib.hid hV
 have CM := Lib.hid (show Calls Tryz.prog 15 #[.int .u8 o, Mo.v t.m, Mo.v u.m] V _ from Mono.cmp_any o (moF t.m) (moF u.m) V (moF_small ht) (moF_small hu))
 have HK := Lib.hid (Mono.cmp_key (o := o) (moF_small ht) (moF_small hu))
 clear hV hbV hb ht hu
 change Calls Tryz.prog 38 #[.agg #[.bool t.c.t.s, .slice t.c.t.a t.c.t.n t.c.t.c, .bool t.c.l.s, .slice t.c.l.a t.c.l.n t.c.l.c, .int .u16 t.m.x, .int .u16 t.m.y, .int .u16 t.m.z, .int .u16 t.m.t], .agg #[.bool u.c.t.s, .slice u.c.t.a u.c.t.n u.c.t.c, .bool u.c.l.s, .slice u.c.l.a u.c.l.n u.c.l.c, .int .u16 u.m.x, .int .u16 u.m.y, .int .u16 u.m.z, .int .u16 u.m.t], .pointer (some ⟨bo, 0, none⟩)] w _
 go_enter Tryz.func38, Tryz.ntmps38
 go_upto_region 1 with (fail)
 rw [show (w.alloc (.cells #[.bool t.c.t.s, .slice t.c.t.a t.c.t.n t.c.t.c, .bool t.c.l.s, .slice t.c.l.a t.c.l.n t.c.l.c, .int .u16 t.m.x, .int .u16 t.m.y, .int .u16 t.m.z, .int .u16 t.m.t] 41)).alloc (.cells #[.bool u.c.t.s, .slice u.c.t.a u.c.t.n u.c.t.c, .bool u.c.l.s, .slice u.c.l.a u.c.l.n u.c.l.c, .int .u16 u.m.x, .int .u16 u.m.y, .int .u16 u.m.z, .int .u16 u.m.t] 41) = V from HV.out.symm]
 have c10 := B1.out.cell (i := 0) rfl
 have c11 := B1.out.cell (i := 1) rfl
 have c12 := B1.out.cell (i := 2) rfl
 have c13 := B1.out.cell (i := 3) rfl
 have c14 := B1.out.cell (i := 4) rfl
 have c15 := B1.out.cell (i := 5) rfl
 have c16 := B1.out.cell (i := 6) rfl
 have c17 := B1.out.cell (i := 7) rfl
 have c20 := B2.out.cell (i := 0) rfl
 have c21 := B2.out.cell (i := 1) rfl
 have c22 := B2.out.cell (i := 2) rfl
 have c23 := B2.out.cell (i := 3) rfl
 have c24 := B2.out.cell (i := 4) rfl
 have c25 := B2.out.cell (i := 5) rfl
 have c26 := B2.out.cell (i := 6) rfl
 have c27 := B2.out.cell (i := 7) rfl
 have co := BO.out.cell (i := 0) rfl
 go_wp2_with fail
 with_reducible refine CM.out.mono ?_
 rintro e w1 ⟨rfl, hb⟩
 have KG := Lib.hid (KG.out.trans (hb.mono KG.out.size))
 clear hb CM c10 c11 c12 c13 c14 c15 c16 c17 c20 c21 c22 c23 c24 c25 c26 c27 co
 go_wp2_with fail
 go_ret
 refine ⟨?_, KG.out⟩
 rw [HK.out]
 rfl
set_option maxRecDepth 100000 in
set_option maxHeartbeats 16000000 in
theorem lead_k (o : Int) (x : PV) (P : List Tm) (w : World) (hx : AP w x P) (hp : ∀ t ∈ P, LQ t.2 900000) (hn : x.n ≤ 1000000) (hne : P ≠ []) :
  Calls Tryz.prog 12 #[.int .u8 o, x.v] w fun e w' => ∃ (y : FV) (t : Tm), e = .returned (.tuple #[TV.v ⟨y, t.1⟩, .bool true]) ∧ DF w' w.heap.size y t.2 ∧ Lead (keyO o) P t ∧ Below w.heap.size w w' := by
 obtain ⟨V0, hV⟩ : ∃ V, V = (w.alloc (.cells #[.int .u8 o] 22)).alloc (.cells #[.bool false, .slice none 0 0, .bool false, .slice none 0 0, .int .u16 0, .int .u16 0, .int .u16 0, .int .u16 0] 41) := ⟨_, rfl⟩
 have hbV : Below w.heap.size w V0 := by rw [hV]; exact ((Below.refl _ _).alloc (Nat.le_refl _) _).alloc (by go_size) _
 have BO := Lib.hid (show Bxs V0 w.heap.size 22 [.int .u8 o] by rw [hV]; exact (Bxs.new w 22 [.int .u8 o]).alloc _)
 have B4 := Lib.hid (show Bxs V0 (w.heap.size + 1) 41 [.bool false, .slice none 0 0, .bool false, .slice none 0 0, .int .u16 0, .int .u16 0, .int .u16 0, .int .u16 0] by
  have h := Bxs.new (w.alloc (.cells #[.int .u8 o] 22)) 41 [.bool false, .slice none 0 0, .bool false, .slice none 0 0, .int .u16 0, .int .u16 0, .int .u16 0, .int .u16 0]
  rw [World.size_alloc] at h
  rw [hV]; exact h)
 have OF := Lib.hid (of_at hx hbV hp (by omega))
 have HP := Lib.hid hp; have HN := Lib.hid hn; have HNE := Lib.hid hne
 have KG := Lib.hid hbV
 have HV := Lib.hid hV
 obtain ⟨A4, hA4⟩ : ∃ A, A = w.heap.size + 1 := ⟨_, rfl⟩
 have HA4 := Lib.hid (show w.heap.size ≤ A4 by omega)
 rw [← hA4] at B4
 have HA5 := Lib.hid hA4
 obtain ⟨xa, xn, xc⟩ := x
 change Calls Tryz.prog 12 #[.int .u8 o, .slice xa xn xc] w _
 clear hV hbV hx hp hn hne hA4
 go_enter Tryz.func12, Tryz.ntmps12
 go_upto_region 1 with (fail)
 rw [show (w.alloc (.cells #[.int .u8 o] 22)).alloc (.cells #[.bool false, .slice none 0 0, .bool false, .slice none 0 0, .int .u16 0, .int .u16 0, .int .u16 0, .int .u16 0] 41) = V0 from HV.out.symm, show w.heap.size + 1 = A4 from HA5.out.symm]
 go_wp2_with fail
 with_reducible refine OF.out.mono ?_
 rintro e w1 ⟨⟨pa, pn, pc⟩, he, hkp, hpn, hb⟩
 obtain rfl : e = .returned (.slice pa pn pc) := he
 have BO := Lib.hid (BO.out.below hb BO.out.lt)
 have B4 := Lib.hid (B4.out.below hb B4.out.lt)
 have KG := Lib.hid (KG.out.trans (hb.mono KG.out.size))
 have HX := Lib.hid hkp
 obtain ⟨L, g1, g2, g3, g4⟩ := hkp.ex
 have g2 : L.length = pn := g2
 have hlne : L ≠ [] := fun h => HNE.out (by rw [← g4, h]; rfl)
 have hne2 : L.map Prod.fst ≠ [] := fun h => hlne (List.map_eq_nil_iff.1 h)
 have h0 : ¬ ((pn : Int) = 0) := by have := List.length_pos_iff.2 hlne; omega
 have T1 := Lib.hid g4; have F1 := Lib.hid g3
 have hcf : ∀ (args : Array Value) (w : World), (callFunc 38 args).run Tryz.prog w = .ok (.enter 38 args) w := fun _ _ => by kernel_rfl
 have MX := Lib.hid (max_any 38 #[.pointer (some ⟨w.heap.size, 0, none⟩)] ⟨pa, pn, pc⟩ (L.map Prod.fst) (keyO o) w1 (g1.below KG.out) (by rw [List.length_map]; exact g2) (Nat.le_trans hpn HN.out) hne2
  (fun t ht => by
   obtain ⟨e, he, rfl⟩ := List.mem_map.1 ht
   exact HX.out.small (tm e) (by rw [← g4]; exact List.mem_map_of_mem he))
  hcf (fun t u ht hu w2 hb2 => lead1_any o t u w2 w.heap.size (BO.out.below hb2 BO.out.lt) ht hu))
 clear hkp hpn hb g1 g2 g3 g4 OF hlne hne2 hcf
 go_wp2_with fail
 with_reducible refine MX.out.mono ?_
 rintro e w2 ⟨t, htm, htx, rfl, hb⟩
 have B4 := Lib.hid (B4.out.below hb B4.out.lt)
 have KG := Lib.hid (KG.out.trans (hb.mono KG.out.size))
 obtain ⟨⟨t', q⟩, he, e1⟩ := List.mem_map.1 htm
 obtain rfl : t' = t := e1
 have hmem : (t'.m, q) ∈ P := by rw [← T1.out]; exact List.mem_map_of_mem he
 have HLD := Lib.hid (show Lead (keyO o) P (t'.m, q) from ⟨hmem, fun s hs => by
  rw [← T1.out] at hs
  obtain ⟨e, he, rfl⟩ := List.mem_map.1 hs
  exact htx e.1 (List.mem_map_of_mem he)⟩)
 have LQq := Lib.hid (HP.out _ hmem)
 have NT0 := Lib.hid (F1.out _ he)
 obtain ⟨t, ht⟩ : ∃ t, t = t' := ⟨_, rfl⟩
 rw [← ht] at HLD NT0 ⊢
 clear htm htx hb he hmem MX ht h0
 have c40 := B4.out.cell (i := 0) rfl
 have c41 := B4.out.cell (i := 1) rfl
 have c42 := B4.out.cell (i := 2) rfl
 have c43 := B4.out.cell (i := 3) rfl
 have c44 := B4.out.cell (i := 4) rfl
 have c45 := B4.out.cell (i := 5) rfl
 have c46 := B4.out.cell (i := 6) rfl
 have c47 := B4.out.cell (i := 7) rfl
 have c4f := B4.out.fz
 have c4l := B4.out.lt
 go_upto_region 5 with (fail)
 clear c40 c41 c42 c43 c44 c45 c46 c47 c4f c4l
 obtain ⟨V, hV⟩ : ∃ V, V = put8 w2 A4 (.bool t.c.t.s) (.slice t.c.t.a t.c.t.n t.c.t.c) (.bool t.c.l.s) (.slice t.c.l.a t.c.l.n t.c.l.c) (.int .u16 t.m.x) (.int .u16 t.m.y) (.int .u16 t.m.z) (.int .u16 t.m.t) := ⟨_, rfl⟩
 have B4 := Lib.hid (show Bxs V A4 41 [.bool t.c.t.s, .slice t.c.t.a t.c.t.n t.c.t.c, .bool t.c.l.s, .slice t.c.l.a t.c.l.n t.c.l.c, .int .u16 t.m.x, .int .u16 t.m.y, .int .u16 t.m.z, .int .u16 t.m.t] by rw [hV]; exact put8_bxs B4.out ..)
 have KG := Lib.hid (show Below w.heap.size w V by rw [hV]; exact put8_below KG.out HA4.out ..)
 unfold put8 at hV
 rw [← hV]
 have NT := Lib.hid (show KF V t.c q from NT0.out.below KG.out)
 have HSZ := Lib.hid (show w.heap.size ≤ V.heap.size from KG.out.size)
 clear hV NT0
 obtain ⟨q101, hq101⟩ : ∃ z : Rat, z = ((1 : Int) : Rat) := ⟨_, rfl⟩
 have Hq101 := Lib.hid hq101
 have LQq101 := Lib.hid (show LQ q101 3 by rw [hq101]; exact LQ.int (by decide) (by decide))
 clear hq101
 obtain ⟨q102, hq102⟩ : ∃ z : Rat, z = q * q101 := ⟨_, rfl⟩
 have Hq102 := Lib.hid hq102
 have LQq102 := Lib.hid (show LQ q102 1800000 by rw [hq102]; exact LQ.mul (LQq.out.up (by decide : _ ≤ 900000)) (LQq101.out.up (by decide : _ ≤ 900000)) (by decide))
 clear hq102
 go_upto_region 5 with (fail)
 refine Go.FreshS.wp_region_fresh 7 [] (Go.FreshS.spOf [(2, Go.FreshS.Sp.made (fun x : FV => x.v) (fun x w' => DF w' V.heap.size x q101) FV.blk), (3, Go.FreshS.Sp.made (fun x : FV => x.v) (fun x w' => DF w' V.heap.size x q102) FV.blk)])
  (fun w' => Below V.heap.size V w') (by kernel_rfl) (by kernel_rfl) (by kernel_rfl)
  (Go.FreshS.spOf_cons (Go.FreshS.Sp.made_keeps _ (fun _ _ _ h _ hk => h.kept hk) (Go.FreshS.notTaken (by kernel_rfl))) (Go.FreshS.spOf_cons (Go.FreshS.Sp.made_keeps _ (fun _ _ _ h _ hk => h.kept hk) (Go.FreshS.notTaken (by kernel_rfl))) (Go.FreshS.spOf_nil))) (fun _ _ h hb => h.trans (hb.mono h.size)) ((Below.refl _ _).drew) ?_
 simp only [List.append_eq, List.cons_append, List.nil_append, List.take_succ_cons, List.take_zero, List.drop_succ_cons, List.drop_zero]
 refine Go.FreshS.wpF_reads rfl rfl rfl ?_ (fun w' hw' => ?_) ?_
 rotate_left
 ·have hb' := hw'.world
  skip
  clear hw'
  go_simp
  try rfl
 conv => arg 10; simp only [Act.put, List.setIfInBounds_toArray, List.set_cons_succ, List.set_cons_zero]
 refine Go.FreshS.wpF_reads rfl rfl rfl ?_ (fun w' hw' => ?_) ?_
 rotate_left
 ·have hb' := hw'.world
  have hs0 := (B4.out.below hb' B4.out.lt).cell (i := 0) rfl
  have hs1 := (B4.out.below hb' B4.out.lt).cell (i := 1) rfl
  have hs2 := (B4.out.below hb' B4.out.lt).cell (i := 2) rfl
  have hs3 := (B4.out.below hb' B4.out.lt).cell (i := 3) rfl
  have hs4 := (B4.out.below hb' B4.out.lt).cell (i := 4) rfl
  have hs5 := (B4.out.below hb' B4.out.lt).cell (i := 5) rfl
  have hs6 := (B4.out.below hb' B4.out.lt).cell (i := 6) rfl
  have hs7 := (B4.out.below hb' B4.out.lt).cell (i := 7) rfl
  have hsf := (B4.out.below hb' B4.out.lt).fz
  have hsl := (B4.out.below hb' B4.out.lt).lt
  clear hw'
  go_simp
  try rfl
 conv => arg 10; simp only [Act.put, List.setIfInBounds_toArray, List.set_cons_succ, List.set_cons_zero]
 refine Go.FreshS.wpF_spec rfl rfl rfl (fun w' hw' => ?_) ?_
 ·have hb' := hw'.world
  refine Go.FreshS.gives_of (Go.FreshS.PM (fun x : FV => x.v) (fun x w' => DF w' V.heap.size x q101) FV.blk w'.heap.size) ?_ (fun _ _ h => h.post (fun _ _ => FV.inj))
  go_simp
  have CT := qof 1 w' (by decide) (by decide)
  rw [show ((1 : Int) : Rat) = q101 from Hq101.out.symm] at CT
  refine CT.mono ?_
  rintro e w'' ⟨za, rfl, ho, hb⟩
  exact ⟨_, rfl, ⟨za, rfl, ho.mono hb'.size, ho.blks⟩, hb⟩
 rintro _ ⟨y2, rfl⟩
 conv => arg 10; simp only [Act.put, List.setIfInBounds_toArray, List.set_cons_succ, List.set_cons_zero]
 refine Go.FreshS.wpF_spec rfl rfl rfl (fun w' hw' => ?_) ?_
 ·have hb' := hw'.world
  refine Go.FreshS.gives_of (Go.FreshS.PM (fun x : FV => x.v) (fun x w' => DF w' V.heap.size x q102) FV.blk w'.heap.size) ?_ (fun _ _ h => h.post (fun _ _ => FV.inj))
  go_simp
  have f2 := Go.FreshS.made_of (val := (fun x : FV => x.v)) (Φ := fun x w' => DF w' V.heap.size x q101) (fun _ _ => FV.inj) (hw'.fact 2 (by kernel_rfl))
  have CT := qmul ((NT.out.below hb')).any (((NT.out.below hb')).len LQq.out (by decide : _ ≤ 900000)) (f2).k.any (((f2).k).len LQq101.out (by decide : _ ≤ 900000))
  rw [show q * q101 = q102 from Hq102.out.symm] at CT
  refine CT.mono ?_
  rintro e w'' ⟨za, rfl, ho, hb⟩
  exact ⟨_, rfl, ⟨za, rfl, ho.mono hb'.size, ho.blks⟩, hb⟩
 rintro _ ⟨y3, rfl⟩
 conv => arg 10; simp only [Act.put, List.setIfInBounds_toArray, List.set_cons_succ, List.set_cons_zero]
 refine Go.FreshS.wpF_reads rfl rfl rfl ?_ (fun w' hw' => ?_) ?_
 rotate_left
 ·have hb' := hw'.world
  skip
  clear hw'
  go_simp
  try rfl
 conv => arg 10; simp only [Act.put, List.setIfInBounds_toArray, List.set_cons_succ, List.set_cons_zero]
 refine Go.FreshS.wpF_reads rfl rfl rfl ?_ (fun w' hw' => ?_) ?_
 rotate_left
 ·have hb' := hw'.world
  have hs0 := (B4.out.below hb' B4.out.lt).cell (i := 0) rfl
  have hs1 := (B4.out.below hb' B4.out.lt).cell (i := 1) rfl
  have hs2 := (B4.out.below hb' B4.out.lt).cell (i := 2) rfl
  have hs3 := (B4.out.below hb' B4.out.lt).cell (i := 3) rfl
  have hs4 := (B4.out.below hb' B4.out.lt).cell (i := 4) rfl
  have hs5 := (B4.out.below hb' B4.out.lt).cell (i := 5) rfl
  have hs6 := (B4.out.below hb' B4.out.lt).cell (i := 6) rfl
  have hs7 := (B4.out.below hb' B4.out.lt).cell (i := 7) rfl
  have hsf := (B4.out.below hb' B4.out.lt).fz
  have hsl := (B4.out.below hb' B4.out.lt).lt
  clear hw'
  go_simp
  try rfl
 conv => arg 10; simp only [Act.put, List.setIfInBounds_toArray, List.set_cons_succ, List.set_cons_zero]
 refine Go.FreshS.wpF_reads rfl rfl rfl ?_ (fun w' hw' => ?_) ?_
 rotate_left
 ·have hb' := hw'.world
  skip
  clear hw'
  go_simp
  try rfl
 conv => arg 10; simp only [Act.put, List.setIfInBounds_toArray, List.set_cons_succ, List.set_cons_zero]
 refine Go.FreshS.wpF_nil (fun w103 hb hF => ?_)
 have N104 := Lib.hid (show DF w103 V.heap.size y3 q102 from (Go.FreshS.made_of (val := (fun x : FV => x.v)) (Φ := fun x w' => DF w' V.heap.size x q102) (fun _ _ => FV.inj) (hF.all 3)))
 clear hF
 have NT := Lib.hid (NT.out.below hb)
 have B4 := Lib.hid (B4.out.below hb B4.out.lt)
 have KG := Lib.hid (KG.out.trans (hb.mono KG.out.size))
 clear hb
 have HQ := Lib.hid (show q102 = q by rw [Hq102.out, Hq101.out]; grind)
 have HD := Lib.hid (show DF (put8 w103 A4 (.bool y3.t.s) (.slice y3.t.a y3.t.n y3.t.c) (.bool y3.l.s) (.slice y3.l.a y3.l.n y3.l.c) (.int .u16 t.m.x) (.int .u16 t.m.y) (.int .u16 t.m.z) (.int .u16 t.m.t)) w.heap.size y3 q from by rw [← HQ.out]; exact put8_df (N104.out.mono HSZ.out) B4.out (by decide) ..)
 have HB := Lib.hid (show Below w.heap.size w (put8 w103 A4 (.bool y3.t.s) (.slice y3.t.a y3.t.n y3.t.c) (.bool y3.l.s) (.slice y3.l.a y3.l.n y3.l.c) (.int .u16 t.m.x) (.int .u16 t.m.y) (.int .u16 t.m.z) (.int .u16 t.m.t)) from put8_below KG.out HA4.out ..)
 have c40 := B4.out.cell (i := 0) rfl
 have c41 := B4.out.cell (i := 1) rfl
 have c42 := B4.out.cell (i := 2) rfl
 have c43 := B4.out.cell (i := 3) rfl
 have c44 := B4.out.cell (i := 4) rfl
 have c45 := B4.out.cell (i := 5) rfl
 have c46 := B4.out.cell (i := 6) rfl
 have c47 := B4.out.cell (i := 7) rfl
 have c4f := B4.out.fz
 have c4l := B4.out.lt
 go_wp2_with fail
 exact bodyPost_ret (results_ct rfl _ _ _ _ _ _ _ rfl (put8_bxs B4.out ..) Tryz.underlying41 rfl (by kernel_rfl)) rfl ⟨y3, (t.m, q), rfl, HD.out, HLD.out, HB.out⟩
set_option maxRecDepth 100000 in
set_option maxHeartbeats 4000000 in
theorem lead_nil (o : Int) (x : PV) (w : World) (hx : AP w x []) (hn : x.n ≤ 1000000) :
  Calls Tryz.prog 12 #[.int .u8 o, x.v] w fun e w' => e = .returned (.tuple #[.agg #[.bool false, .slice none 0 0, .bool false, .slice none 0 0, .int .u16 0, .int .u16 0, .int .u16 0, .int .u16 0], .bool false]) ∧ Below w.heap.size w w' := by
 obtain ⟨V0, hV⟩ : ∃ V, V = (w.alloc (.cells #[.int .u8 o] 22)).alloc (.cells #[.bool false, .slice none 0 0, .bool false, .slice none 0 0, .int .u16 0, .int .u16 0, .int .u16 0, .int .u16 0] 41) := ⟨_, rfl⟩
 have hbV : Below w.heap.size w V0 := by rw [hV]; exact ((Below.refl _ _).alloc (Nat.le_refl _) _).alloc (by go_size) _
 have B4 := Lib.hid (show Bxs V0 (w.heap.size + 1) 41 [.bool false, .slice none 0 0, .bool false, .slice none 0 0, .int .u16 0, .int .u16 0, .int .u16 0, .int .u16 0] by
  have h := Bxs.new (w.alloc (.cells #[.int .u8 o] 22)) 41 [.bool false, .slice none 0 0, .bool false, .slice none 0 0, .int .u16 0, .int .u16 0, .int .u16 0, .int .u16 0]
  rw [World.size_alloc] at h
  rw [hV]; exact h)
 have OF := Lib.hid (of_at hx hbV (fun t ht => by cases ht) (by omega))
 have KG := Lib.hid hbV
 have HV := Lib.hid hV
 obtain ⟨A4, hA4⟩ : ∃ A, A = w.heap.size + 1 := ⟨_, rfl⟩
 have HA4 := Lib.hid (show w.heap.size ≤ A4 by omega)
 rw [← hA4] at B4
 have HA5 := Lib.hid hA4
 obtain ⟨xa, xn, xc⟩ := x
 change Calls Tryz.prog 12 #[.int .u8 o, .slice xa xn xc] w _
 clear hV hbV hx hn hA4
 go_enter Tryz.func12, Tryz.ntmps12
 go_upto_region 1 with (fail)
 rw [show (w.alloc (.cells #[.int .u8 o] 22)).alloc (.cells #[.bool false, .slice none 0 0, .bool false, .slice none 0 0, .int .u16 0, .int .u16 0, .int .u16 0, .int .u16 0] 41) = V0 from HV.out.symm, show w.heap.size + 1 = A4 from HA5.out.symm]
 go_wp2_with fail
 with_reducible refine OF.out.mono ?_
 rintro e w1 ⟨⟨pa, pn, pc⟩, he, hkp, hpn, hb⟩
 obtain rfl : e = .returned (.slice pa pn pc) := he
 have B4 := Lib.hid (B4.out.below hb B4.out.lt)
 have KG := Lib.hid (KG.out.trans (hb.mono KG.out.size))
 have h0 := hkp.len
 obtain rfl : pn = 0 := h0
 clear hkp hpn hb OF
 have c40 := B4.out.cell (i := 0) rfl
 have c41 := B4.out.cell (i := 1) rfl
 have c42 := B4.out.cell (i := 2) rfl
 have c43 := B4.out.cell (i := 3) rfl
 have c44 := B4.out.cell (i := 4) rfl
 have c45 := B4.out.cell (i := 5) rfl
 have c46 := B4.out.cell (i := 6) rfl
 have c47 := B4.out.cell (i := 7) rfl
 have c4f := B4.out.fz
 have c4l := B4.out.lt
 go_wp2_with fail
 exact bodyPost_ret (results_ct rfl _ _ _ _ _ _ _ rfl (put8_bxs B4.out ..) Tryz.underlying41 rfl (by kernel_rfl)) rfl ⟨rfl, put8_below KG.out HA4.out ..⟩
theorem moS {m : Mo} (h : m.Small) : Mono.Small (fun i => ((m.at i : Nat) : Int)) := fun i _ => ⟨Int.natCast_nonneg _, by have := at_small h i; show ((m.at i : Nat) : Int) ≤ 65535; omega⟩
theorem mono_div (a b : Mo) (w : World) (ha : a.Small) (hb : b.Small) (h : b.stands a) : Calls Tryz.prog 16 #[Mo.v a, Mo.v b] w fun e w' => e = .returned (.tuple #[Mo.v (a.quo b), .bool true]) ∧ Below w.heap.size w w' := by
 obtain ⟨h1, h2, h3, h4⟩ := h
 have hB : Mono.divB (fun i => ((a.at i : Nat) : Int)) (fun i => ((b.at i : Nat) : Int)) = true := decide_eq_true (by
  show (b.x : Int) ≤ a.x ∧ (b.y : Int) ≤ a.y ∧ (b.z : Int) ≤ a.z ∧ (b.t : Int) ≤ a.t
  omega)
 refine (Mono.div_any (fun i => ((a.at i : Nat) : Int)) (fun i => ((b.at i : Nat) : Int)) w (moS ha) (moS hb)).mono ?_
 rintro e w' ⟨rfl, hb⟩
 refine ⟨?_, hb⟩
 have e0 : (a.x : Int) - b.x = ((a.x - b.x : Nat) : Int) := by omega
 have e1 : (a.y : Int) - b.y = ((a.y - b.y : Nat) : Int) := by omega
 have e2 : (a.z : Int) - b.z = ((a.z - b.z : Nat) : Int) := by omega
 have e3 : (a.t : Int) - b.t = ((a.t - b.t : Nat) : Int) := by omega
 show Ending.returned (.tuple #[.agg #[.int .u16 (Mono.divM _ _ 0), .int .u16 (Mono.divM _ _ 1), .int .u16 (Mono.divM _ _ 2), .int .u16 (Mono.divM _ _ 3)], .bool (Mono.divB _ _)]) = .returned (.tuple #[.agg #[.int .u16 ((a.x - b.x : Nat) : Int), .int .u16 ((a.y - b.y : Nat) : Int), .int .u16 ((a.z - b.z : Nat) : Int), .int .u16 ((a.t - b.t : Nat) : Int)], .bool true])
 rw [hB, Mono.div_true hB, Mono.div_true hB, Mono.div_true hB, Mono.div_true hB, ← e0, ← e1, ← e2, ← e3]
 rfl
theorem mono_divN (a b : Mo) (w : World) (ha : a.Small) (hb : b.Small) (h : ¬ b.stands a) : Calls Tryz.prog 16 #[Mo.v a, Mo.v b] w fun e w' => e = .returned (.tuple #[.agg #[.int .u16 0, .int .u16 0, .int .u16 0, .int .u16 0], .bool false]) ∧ Below w.heap.size w w' := by
 have hB : Mono.divB (fun i => ((a.at i : Nat) : Int)) (fun i => ((b.at i : Nat) : Int)) = false := decide_eq_false (by
  show ¬ ((b.x : Int) ≤ a.x ∧ (b.y : Int) ≤ a.y ∧ (b.z : Int) ≤ a.z ∧ (b.t : Int) ≤ a.t)
  intro h2
  exact h ⟨by omega, by omega, by omega, by omega⟩)
 refine (Mono.div_any (fun i => ((a.at i : Nat) : Int)) (fun i => ((b.at i : Nat) : Int)) w (moS ha) (moS hb)).mono ?_
 rintro e w' ⟨rfl, hb⟩
 refine ⟨?_, hb⟩
 rw [hB, Mono.divB_false hB]
 rfl
def dvC (y : FV) (m : Mo) (all often : PV) : List Value := [.bool y.t.s, .slice y.t.a y.t.n y.t.c, .bool y.l.s, .slice y.l.a y.l.n y.l.c, .int .u16 m.x, .int .u16 m.y, .int .u16 m.z, .int .u16 m.t, .slice all.a all.n all.c, .slice often.a often.n often.c]
set_option maxRecDepth 100000 in
set_option maxHeartbeats 4000000 in
theorem into_y (bd : Nat) (y : FV) (q : Rat) (m : Mo) (all often : PV) (t : FV) (tq : Rat) (tm : Mo) (w : World) (hd : Bxs w bd 75 (dvC y m all often)) (hst : tm.Small) (hsm : m.Small) (hs : m.stands tm) (hy : KF w y q) (ht : KF w t tq) (lq : LQ q 400000) (lt : LQ tq 400000) (hnz : q ≠ 0) (hz : tq ≠ 0) :
  Calls Tryz.prog 32 #[.pointer (some ⟨bd, 0, none⟩), .agg #[.bool t.t.s, .slice t.t.a t.t.n t.t.c, .bool t.l.s, .slice t.l.a t.l.n t.l.c, .int .u16 tm.x, .int .u16 tm.y, .int .u16 tm.z, .int .u16 tm.t]] w fun e w' => ∃ u : PV, e = .returned (.tuple #[u.v, .bool true]) ∧ DP w' w.heap.size u [byT (tm, tq) (m, q)] ∧ Below w.heap.size w w' := by
 have KG := Lib.hid (Below.refl w.heap.size w)
 have BD := Lib.hid (show Bxs w bd 75 [.bool y.t.s, .slice y.t.a y.t.n y.t.c, .bool y.l.s, .slice y.l.a y.l.n y.l.c, .int .u16 m.x, .int .u16 m.y, .int .u16 m.z, .int .u16 m.t, .slice all.a all.n all.c, .slice often.a often.n often.c] from hd)
 have HSA := Lib.hid hst; have HSB := Lib.hid hsm; have HST := Lib.hid hs
 have NY := Lib.hid hy; have NT := Lib.hid ht; have LQq := Lib.hid lq; have LQtq := Lib.hid lt; have HNZ := Lib.hid hnz
 clear hd hst hsm hs hy ht lq lt hnz
 obtain ⟨u, hu⟩ : ∃ v, v = tm.quo m := ⟨_, rfl⟩
 have HU := Lib.hid hu
 clear hu
 obtain ⟨q5, hq5⟩ : ∃ z : Rat, z = tq / q := ⟨_, rfl⟩
 have Hq5 := Lib.hid hq5
 have LQq5 := Lib.hid (show LQ q5 800000 by rw [hq5]; exact LQ.div (HNZ.out) (LQtq.out.up (by decide : _ ≤ 400000)) (LQq.out.up (by decide : _ ≤ 400000)) (by decide))
 clear hq5
 go_enter Tryz.func32, Tryz.ntmps32
 go_upto_region 1 with (fail)
 obtain ⟨v2, hV⟩ : ∃ V, V = w.alloc (.cells #[.bool t.t.s, .slice t.t.a t.t.n t.t.c, .bool t.l.s, .slice t.l.a t.l.n t.l.c, .int .u16 tm.x, .int .u16 tm.y, .int .u16 tm.z, .int .u16 tm.t] 41) := ⟨_, rfl⟩
 have hbV : Below w.heap.size w v2 := by rw [hV]; exact ((Below.refl _ _).alloc (Nat.le_refl _) _)
 have BX1 := Lib.hid (show Bxs v2 (w.heap.size) 41 [.bool t.t.s, .slice t.t.a t.t.n t.t.c, .bool t.l.s, .slice t.l.a t.l.n t.l.c, .int .u16 tm.x, .int .u16 tm.y, .int .u16 tm.z, .int .u16 tm.t] by have h := Bxs.new (w) 41 [.bool t.t.s, .slice t.t.a t.t.n t.t.c, .bool t.l.s, .slice t.l.a t.l.n t.l.c, .int .u16 tm.x, .int .u16 tm.y, .int .u16 tm.z, .int .u16 tm.t]; rw [hV]; exact h)
 rw [show w.alloc (.cells #[.bool t.t.s, .slice t.t.a t.t.n t.t.c, .bool t.l.s, .slice t.l.a t.l.n t.l.c, .int .u16 tm.x, .int .u16 tm.y, .int .u16 tm.z, .int .u16 tm.t] 41) = v2 from hV.symm]
 have BD := Lib.hid (BD.out.below hbV BD.out.lt)
 have KG := Lib.hid (KG.out.trans (hbV.mono KG.out.size))
 clear hV hbV
 go_upto_region 1 with (fail)
 refine Go.FreshS.wp_region_fresh 13 [(12, 11)] (Go.FreshS.spOf [(7, Go.FreshS.Sp.know (.tuple #[.agg #[.int .u16 u.x, .int .u16 u.y, .int .u16 u.z, .int .u16 u.t], .bool true])), (11, Go.FreshS.Sp.box 39 4 v2.heap.size)])
  (fun w' => Below v2.heap.size v2 w') (by kernel_rfl) (by kernel_rfl) (by kernel_rfl)
  (Go.FreshS.spOf_cons (Go.FreshS.Sp.know_keeps _ _) (Go.FreshS.spOf_cons (Go.FreshS.Sp.box_keeps _ _ _ _) (Go.FreshS.spOf_nil))) (fun _ _ h hb => h.trans (hb.mono h.size)) ((Below.refl _ _).drew) ?_
 simp only [List.append_eq, List.cons_append, List.nil_append, List.take_succ_cons, List.take_zero, List.drop_succ_cons, List.drop_zero]
 refine Go.FreshS.wpF_reads rfl rfl rfl ?_ (fun w' hw' => ?_) ?_
 rotate_left
 ·have hb' := hw'.world
  skip
  clear hw'
  go_simp
  try rfl
 conv => arg 10; simp only [Act.put, List.setIfInBounds_toArray, List.set_cons_succ, List.set_cons_zero]
 refine Go.FreshS.wpF_reads rfl rfl rfl ?_ (fun w' hw' => ?_) ?_
 rotate_left
 ·have hb' := hw'.world
  have hs0 := (BX1.out.below hb' BX1.out.lt).cell (i := 0) rfl
  have hs1 := (BX1.out.below hb' BX1.out.lt).cell (i := 1) rfl
  have hs2 := (BX1.out.below hb' BX1.out.lt).cell (i := 2) rfl
  have hs3 := (BX1.out.below hb' BX1.out.lt).cell (i := 3) rfl
  have hs4 := (BX1.out.below hb' BX1.out.lt).cell (i := 4) rfl
  have hs5 := (BX1.out.below hb' BX1.out.lt).cell (i := 5) rfl
  have hs6 := (BX1.out.below hb' BX1.out.lt).cell (i := 6) rfl
  have hs7 := (BX1.out.below hb' BX1.out.lt).cell (i := 7) rfl
  have hsf := (BX1.out.below hb' BX1.out.lt).fz
  have hsl := (BX1.out.below hb' BX1.out.lt).lt
  clear hw'
  go_simp
  try rfl
 conv => arg 10; simp only [Act.put, List.setIfInBounds_toArray, List.set_cons_succ, List.set_cons_zero]
 refine Go.FreshS.wpF_reads rfl rfl rfl ?_ (fun w' hw' => ?_) ?_
 rotate_left
 ·have hb' := hw'.world
  skip
  clear hw'
  go_simp
  try rfl
 conv => arg 10; simp only [Act.put, List.setIfInBounds_toArray, List.set_cons_succ, List.set_cons_zero]
 refine Go.FreshS.wpF_reads rfl rfl rfl ?_ (fun w' hw' => ?_) ?_
 rotate_left
 ·have hb' := hw'.world
  skip
  clear hw'
  go_simp
  try rfl
 conv => arg 10; simp only [Act.put, List.setIfInBounds_toArray, List.set_cons_succ, List.set_cons_zero]
 refine Go.FreshS.wpF_reads rfl rfl rfl ?_ (fun w' hw' => ?_) ?_
 rotate_left
 ·have hb' := hw'.world
  skip
  clear hw'
  go_simp
  try rfl
 conv => arg 10; simp only [Act.put, List.setIfInBounds_toArray, List.set_cons_succ, List.set_cons_zero]
 refine Go.FreshS.wpF_reads rfl rfl rfl ?_ (fun w' hw' => ?_) ?_
 rotate_left
 ·have hb' := hw'.world
  skip
  clear hw'
  go_simp
  try rfl
 conv => arg 10; simp only [Act.put, List.setIfInBounds_toArray, List.set_cons_succ, List.set_cons_zero]
 refine Go.FreshS.wpF_reads rfl rfl rfl ?_ (fun w' hw' => ?_) ?_
 rotate_left
 ·have hb' := hw'.world
  have hs0 := (BD.out.below hb' BD.out.lt).cell (i := 0) rfl
  have hs1 := (BD.out.below hb' BD.out.lt).cell (i := 1) rfl
  have hs2 := (BD.out.below hb' BD.out.lt).cell (i := 2) rfl
  have hs3 := (BD.out.below hb' BD.out.lt).cell (i := 3) rfl
  have hs4 := (BD.out.below hb' BD.out.lt).cell (i := 4) rfl
  have hs5 := (BD.out.below hb' BD.out.lt).cell (i := 5) rfl
  have hs6 := (BD.out.below hb' BD.out.lt).cell (i := 6) rfl
  have hs7 := (BD.out.below hb' BD.out.lt).cell (i := 7) rfl
  have hs8 := (BD.out.below hb' BD.out.lt).cell (i := 8) rfl
  have hs9 := (BD.out.below hb' BD.out.lt).cell (i := 9) rfl
  have hsf := (BD.out.below hb' BD.out.lt).fz
  have hsl := (BD.out.below hb' BD.out.lt).lt
  clear hw'
  go_simp
  try rfl
 conv => arg 10; simp only [Act.put, List.setIfInBounds_toArray, List.set_cons_succ, List.set_cons_zero]
 refine Go.FreshS.wpF_spec rfl rfl rfl (fun w' hw' => ?_) ?_
 ·have hb' := hw'.world
  refine Go.FreshS.gives_of (Go.FreshS.PK (.tuple #[.agg #[.int .u16 u.x, .int .u16 u.y, .int .u16 u.z, .int .u16 u.t], .bool true])) ?_ (fun _ _ h => h.post)
  go_simp
  have CT := mono_div tm m w' HSA.out HSB.out HST.out
  rw [show (tm).quo m = u from HU.out.symm] at CT
  refine CT.mono ?_
  rintro e w'' ⟨rfl, hb⟩
  exact ⟨_, rfl, rfl, hb⟩
 rintro _ rfl
 conv => arg 10; simp only [Act.put, List.setIfInBounds_toArray, List.set_cons_succ, List.set_cons_zero]
 refine Go.FreshS.wpF_reads rfl rfl rfl ?_ (fun w' hw' => ?_) ?_
 rotate_left
 ·have hb' := hw'.world
  skip
  clear hw'
  go_simp
  try rfl
 conv => arg 10; simp only [Act.put, List.setIfInBounds_toArray, List.set_cons_succ, List.set_cons_zero]
 refine Go.FreshS.wpF_reads rfl rfl rfl ?_ (fun w' hw' => ?_) ?_
 rotate_left
 ·have hb' := hw'.world
  skip
  clear hw'
  go_simp
  try rfl
 conv => arg 10; simp only [Act.put, List.setIfInBounds_toArray, List.set_cons_succ, List.set_cons_zero]
 refine Go.FreshS.wpF_reads rfl rfl rfl ?_ (fun w' hw' => ?_) ?_
 rotate_left
 ·have hb' := hw'.world
  skip
  clear hw'
  go_simp
  try rfl
 conv => arg 10; simp only [Act.put, List.setIfInBounds_toArray, List.set_cons_succ, List.set_cons_zero]
 refine Go.FreshS.wpF_spec rfl rfl rfl (fun w' hw' => ?_) ?_
 ·have hb' := hw'.world
  refine Go.FreshS.gives_of (Go.FreshS.PB 39 4 v2.heap.size w'.heap.size) ?_ (fun _ _ h => h.post)
  go_simp
  exact ⟨Go.FreshS.PB.new _ rfl hb'.size, (Below.refl _ _).alloc (Nat.le_refl _) _⟩
 rintro _ ⟨y11, rfl⟩
 conv => arg 10; simp only [Act.put, List.setIfInBounds_toArray, List.set_cons_succ, List.set_cons_zero]
 refine Go.FreshS.wpF_store rfl rfl 11 rfl rfl rfl rfl (fun _ => Iff.rfl) (fun w' hw' => ?_) ?_
 ·have hb' := hw'.world
  have hX := Go.FreshS.box_of (hw'.fact 11 (by kernel_rfl))
  obtain ⟨c0, c1, c2, c3, hB⟩ := shp4 hX.1
  have m0 := hB.cell (i := 0) rfl
  have m1 := hB.cell (i := 1) rfl
  have m2 := hB.cell (i := 2) rfl
  have m3 := hB.cell (i := 3) rfl
  have mf := hB.fz
  have ml := hB.lt
  refine Go.FreshS.stores_of ?_ (store4 hb' hX.2 hB (.int .u16 u.x) (.int .u16 u.y) (.int .u16 u.z) (.int .u16 u.t))
  clear hw'
  go_simp
  try rfl
 conv => arg 10; simp only [Act.put, List.setIfInBounds_toArray, List.set_cons_succ, List.set_cons_zero]
 refine Go.FreshS.wpF_nil (fun w4 hb hF => ?_)
 have BX3 := Lib.hid (show Bxs w4 y11 39 [.int .u16 u.x, .int .u16 u.y, .int .u16 u.z, .int .u16 u.t] from stored_bxs (hF.all 12))
 clear hF
 have BD := Lib.hid (BD.out.below hb BD.out.lt)
 have BX1 := Lib.hid (BX1.out.below hb BX1.out.lt)
 have KG := Lib.hid (KG.out.trans (hb.mono KG.out.size))
 clear hb
 have HSZ := Lib.hid (show w.heap.size ≤ w4.heap.size from KG.out.size)
 go_upto_region 4 with (fail)
 refine Go.FreshS.wp_region_fresh 13 [(12, 11)] (Go.FreshS.spOf [(7, Go.FreshS.Sp.made (fun x : FV => .tuple #[x.v, .int .i64 0]) (fun x w' => DF w' w4.heap.size x q5) FV.blk), (11, Go.FreshS.Sp.box 36 4 w4.heap.size)])
  (fun w' => Below w4.heap.size w4 w') (by kernel_rfl) (by kernel_rfl) (by kernel_rfl)
  (Go.FreshS.spOf_cons (Go.FreshS.Sp.made_keeps _ (fun _ _ _ h _ hk => h.kept hk) (Go.FreshS.notTaken (by kernel_rfl))) (Go.FreshS.spOf_cons (Go.FreshS.Sp.box_keeps _ _ _ _) (Go.FreshS.spOf_nil))) (fun _ _ h hb => h.trans (hb.mono h.size)) ((Below.refl _ _).drew) ?_
 simp only [List.append_eq, List.cons_append, List.nil_append, List.take_succ_cons, List.take_zero, List.drop_succ_cons, List.drop_zero]
 refine Go.FreshS.wpF_reads rfl rfl rfl ?_ (fun w' hw' => ?_) ?_
 rotate_left
 ·have hb' := hw'.world
  skip
  clear hw'
  go_simp
  try rfl
 conv => arg 10; simp only [Act.put, List.setIfInBounds_toArray, List.set_cons_succ, List.set_cons_zero]
 refine Go.FreshS.wpF_reads rfl rfl rfl ?_ (fun w' hw' => ?_) ?_
 rotate_left
 ·have hb' := hw'.world
  have hs0 := (BX1.out.below hb' BX1.out.lt).cell (i := 0) rfl
  have hs1 := (BX1.out.below hb' BX1.out.lt).cell (i := 1) rfl
  have hs2 := (BX1.out.below hb' BX1.out.lt).cell (i := 2) rfl
  have hs3 := (BX1.out.below hb' BX1.out.lt).cell (i := 3) rfl
  have hs4 := (BX1.out.below hb' BX1.out.lt).cell (i := 4) rfl
  have hs5 := (BX1.out.below hb' BX1.out.lt).cell (i := 5) rfl
  have hs6 := (BX1.out.below hb' BX1.out.lt).cell (i := 6) rfl
  have hs7 := (BX1.out.below hb' BX1.out.lt).cell (i := 7) rfl
  have hsf := (BX1.out.below hb' BX1.out.lt).fz
  have hsl := (BX1.out.below hb' BX1.out.lt).lt
  clear hw'
  go_simp
  try rfl
 conv => arg 10; simp only [Act.put, List.setIfInBounds_toArray, List.set_cons_succ, List.set_cons_zero]
 refine Go.FreshS.wpF_reads rfl rfl rfl ?_ (fun w' hw' => ?_) ?_
 rotate_left
 ·have hb' := hw'.world
  skip
  clear hw'
  go_simp
  try rfl
 conv => arg 10; simp only [Act.put, List.setIfInBounds_toArray, List.set_cons_succ, List.set_cons_zero]
 refine Go.FreshS.wpF_reads rfl rfl rfl ?_ (fun w' hw' => ?_) ?_
 rotate_left
 ·have hb' := hw'.world
  skip
  clear hw'
  go_simp
  try rfl
 conv => arg 10; simp only [Act.put, List.setIfInBounds_toArray, List.set_cons_succ, List.set_cons_zero]
 refine Go.FreshS.wpF_reads rfl rfl rfl ?_ (fun w' hw' => ?_) ?_
 rotate_left
 ·have hb' := hw'.world
  skip
  clear hw'
  go_simp
  try rfl
 conv => arg 10; simp only [Act.put, List.setIfInBounds_toArray, List.set_cons_succ, List.set_cons_zero]
 refine Go.FreshS.wpF_reads rfl rfl rfl ?_ (fun w' hw' => ?_) ?_
 rotate_left
 ·have hb' := hw'.world
  skip
  clear hw'
  go_simp
  try rfl
 conv => arg 10; simp only [Act.put, List.setIfInBounds_toArray, List.set_cons_succ, List.set_cons_zero]
 refine Go.FreshS.wpF_reads rfl rfl rfl ?_ (fun w' hw' => ?_) ?_
 rotate_left
 ·have hb' := hw'.world
  have hs0 := (BD.out.below hb' BD.out.lt).cell (i := 0) rfl
  have hs1 := (BD.out.below hb' BD.out.lt).cell (i := 1) rfl
  have hs2 := (BD.out.below hb' BD.out.lt).cell (i := 2) rfl
  have hs3 := (BD.out.below hb' BD.out.lt).cell (i := 3) rfl
  have hs4 := (BD.out.below hb' BD.out.lt).cell (i := 4) rfl
  have hs5 := (BD.out.below hb' BD.out.lt).cell (i := 5) rfl
  have hs6 := (BD.out.below hb' BD.out.lt).cell (i := 6) rfl
  have hs7 := (BD.out.below hb' BD.out.lt).cell (i := 7) rfl
  have hs8 := (BD.out.below hb' BD.out.lt).cell (i := 8) rfl
  have hs9 := (BD.out.below hb' BD.out.lt).cell (i := 9) rfl
  have hsf := (BD.out.below hb' BD.out.lt).fz
  have hsl := (BD.out.below hb' BD.out.lt).lt
  clear hw'
  go_simp
  try rfl
 conv => arg 10; simp only [Act.put, List.setIfInBounds_toArray, List.set_cons_succ, List.set_cons_zero]
 refine Go.FreshS.wpF_spec rfl rfl rfl (fun w' hw' => ?_) ?_
 ·have hb' := hw'.world
  refine Go.FreshS.gives_of (Go.FreshS.PM (fun x : FV => .tuple #[x.v, .int .i64 0]) (fun x w' => DF w' w4.heap.size x q5) FV.blk w'.heap.size) ?_ (fun _ _ h => h.post (FV.injE 0))
  go_simp
  have CT := qdiv (NT.out.below (KG.out.trans (hb'.mono KG.out.size))) (((NT.out.below (KG.out.trans (hb'.mono KG.out.size)))).len LQtq.out (by decide : _ ≤ 900000)) (NY.out.below (KG.out.trans (hb'.mono KG.out.size))) (((NY.out.below (KG.out.trans (hb'.mono KG.out.size)))).len LQq.out (by decide : _ ≤ 900000)) (HNZ.out)
  rw [show tq / q = q5 from Hq5.out.symm] at CT
  refine CT.mono ?_
  rintro e w'' ⟨za, rfl, ho, hb⟩
  exact ⟨_, rfl, ⟨za, rfl, ho.mono hb'.size, ho.blks⟩, hb⟩
 rintro _ ⟨y7, rfl⟩
 conv => arg 10; simp only [Act.put, List.setIfInBounds_toArray, List.set_cons_succ, List.set_cons_zero]
 refine Go.FreshS.wpF_reads rfl rfl rfl ?_ (fun w' hw' => ?_) ?_
 rotate_left
 ·have hb' := hw'.world
  skip
  clear hw'
  go_simp
  try rfl
 conv => arg 10; simp only [Act.put, List.setIfInBounds_toArray, List.set_cons_succ, List.set_cons_zero]
 refine Go.FreshS.wpF_reads rfl rfl rfl ?_ (fun w' hw' => ?_) ?_
 rotate_left
 ·have hb' := hw'.world
  skip
  clear hw'
  go_simp
  try rfl
 conv => arg 10; simp only [Act.put, List.setIfInBounds_toArray, List.set_cons_succ, List.set_cons_zero]
 refine Go.FreshS.wpF_reads rfl rfl rfl ?_ (fun w' hw' => ?_) ?_
 rotate_left
 ·have hb' := hw'.world
  skip
  clear hw'
  go_simp
  try rfl
 conv => arg 10; simp only [Act.put, List.setIfInBounds_toArray, List.set_cons_succ, List.set_cons_zero]
 refine Go.FreshS.wpF_spec rfl rfl rfl (fun w' hw' => ?_) ?_
 ·have hb' := hw'.world
  refine Go.FreshS.gives_of (Go.FreshS.PB 36 4 w4.heap.size w'.heap.size) ?_ (fun _ _ h => h.post)
  go_simp
  exact ⟨Go.FreshS.PB.new _ rfl hb'.size, (Below.refl _ _).alloc (Nat.le_refl _) _⟩
 rintro _ ⟨y11, rfl⟩
 conv => arg 10; simp only [Act.put, List.setIfInBounds_toArray, List.set_cons_succ, List.set_cons_zero]
 refine Go.FreshS.wpF_store rfl rfl 11 rfl rfl rfl rfl (fun _ => Iff.rfl) (fun w' hw' => ?_) ?_
 ·have hb' := hw'.world
  have hX := Go.FreshS.box_of (hw'.fact 11 (by kernel_rfl))
  obtain ⟨c0, c1, c2, c3, hB⟩ := shp4 hX.1
  have m0 := hB.cell (i := 0) rfl
  have m1 := hB.cell (i := 1) rfl
  have m2 := hB.cell (i := 2) rfl
  have m3 := hB.cell (i := 3) rfl
  have mf := hB.fz
  have ml := hB.lt
  refine Go.FreshS.stores_of ?_ (store4 hb' hX.2 hB (.bool y7.t.s) (.slice y7.t.a y7.t.n y7.t.c) (.bool y7.l.s) (.slice y7.l.a y7.l.n y7.l.c))
  clear hw'
  go_simp
  try rfl
 conv => arg 10; simp only [Act.put, List.setIfInBounds_toArray, List.set_cons_succ, List.set_cons_zero]
 refine Go.FreshS.wpF_nil (fun w7 hb hF => ?_)
 have BX6 := Lib.hid (show Bxs w7 y11 36 [.bool y7.t.s, .slice y7.t.a y7.t.n y7.t.c, .bool y7.l.s, .slice y7.l.a y7.l.n y7.l.c] from stored_bxs (hF.all 12))
 have N8 := Lib.hid (show DF w7 w4.heap.size y7 q5 from (Go.FreshS.made_of (val := (fun x : FV => .tuple #[x.v, .int .i64 0])) (Φ := fun x w' => DF w' w4.heap.size x q5) (FV.injE 0) (hF.all 7)))
 clear hF
 clear BD
 clear BX1
 have BX3 := Lib.hid (BX3.out.below hb BX3.out.lt)
 have KG := Lib.hid (KG.out.trans (hb.mono KG.out.size))
 clear hb
 have cBX60 := BX6.out.cell (i := 0) rfl
 have cBX61 := BX6.out.cell (i := 1) rfl
 have cBX62 := BX6.out.cell (i := 2) rfl
 have cBX63 := BX6.out.cell (i := 3) rfl
 have cBX6f := BX6.out.fz
 have cBX6l := BX6.out.lt
 have cBX30 := BX3.out.cell (i := 0) rfl
 have cBX31 := BX3.out.cell (i := 1) rfl
 have cBX32 := BX3.out.cell (i := 2) rfl
 have cBX33 := BX3.out.cell (i := 3) rfl
 have cBX3f := BX3.out.fz
 have cBX3l := BX3.out.lt
 go_wp2_with fail
 go_ret2
 have hal : Below w7.heap.size w7 (w7.alloc (.cells (TV.cells ⟨y7, u⟩).toArray 41)) := (Below.refl _ _).alloc (Nat.le_refl _) _
 refine ⟨⟨some ⟨w7.heap.size, 0, none⟩, 1, 1⟩, rfl, ?_, KG.out.trans (hal.mono KG.out.size)⟩
 refine ⟨⟨[(⟨y7, u⟩, q5)], ?_, fun e he => ?_, List.pairwise_singleton _ _, ?_⟩, canon_single (byT_ne hz HNZ.out), fun t ht => ?_⟩
 ·show World.ownsRow _ _ _ _ _ _ _
  exact World.ownsRow_lit (base := w.heap.size) (e := 41) (size := 8) w7 (TV.cells ⟨y7, u⟩).toArray 1 KG.out.size (by decide) rfl
 ·rw [List.mem_singleton.1 he]
  exact (N8.out.mono HSZ.out).below hal
 ·show [(u, q5)] = [byT (tm, tq) (m, q)]
  rw [show q5 = tq / q from Hq5.out, show u = tm.quo m from HU.out]
  rfl
 ·rw [List.mem_singleton.1 ht]
  exact ⟨Nat.le_trans (Nat.sub_le _ _) HSA.out.1, Nat.le_trans (Nat.sub_le _ _) HSA.out.2.1, Nat.le_trans (Nat.sub_le _ _) HSA.out.2.2.1, Nat.le_trans (Nat.sub_le _ _) HSA.out.2.2.2⟩
set_option maxRecDepth 100000 in
set_option maxHeartbeats 4000000 in
theorem into_n (bd : Nat) (y : FV) (q : Rat) (m : Mo) (all often : PV) (t : FV) (tq : Rat) (tm : Mo) (w : World) (hd : Bxs w bd 75 (dvC y m all often)) (hst : tm.Small) (hsm : m.Small) (hs : ¬ m.stands tm) (hy : KF w y q) (ht : KF w t tq) (lq : LQ q 400000) (lt : LQ tq 400000) (hnz : q ≠ 0) :
  Calls Tryz.prog 32 #[.pointer (some ⟨bd, 0, none⟩), .agg #[.bool t.t.s, .slice t.t.a t.t.n t.t.c, .bool t.l.s, .slice t.l.a t.l.n t.l.c, .int .u16 tm.x, .int .u16 tm.y, .int .u16 tm.z, .int .u16 tm.t]] w fun e w' => e = .returned (.tuple #[.slice none 0 0, .bool false]) ∧ Below w.heap.size w w' := by
 have KG := Lib.hid (Below.refl w.heap.size w)
 have BD := Lib.hid (show Bxs w bd 75 [.bool y.t.s, .slice y.t.a y.t.n y.t.c, .bool y.l.s, .slice y.l.a y.l.n y.l.c, .int .u16 m.x, .int .u16 m.y, .int .u16 m.z, .int .u16 m.t, .slice all.a all.n all.c, .slice often.a often.n often.c] from hd)
 have HSA := Lib.hid hst; have HSB := Lib.hid hsm; have HST := Lib.hid hs
 have NY := Lib.hid hy; have NT := Lib.hid ht; have LQq := Lib.hid lq; have LQtq := Lib.hid lt; have HNZ := Lib.hid hnz
 clear hd hst hsm hs hy ht lq lt hnz
 go_enter Tryz.func32, Tryz.ntmps32
 go_upto_region 1 with (fail)
 obtain ⟨v2, hV⟩ : ∃ V, V = w.alloc (.cells #[.bool t.t.s, .slice t.t.a t.t.n t.t.c, .bool t.l.s, .slice t.l.a t.l.n t.l.c, .int .u16 tm.x, .int .u16 tm.y, .int .u16 tm.z, .int .u16 tm.t] 41) := ⟨_, rfl⟩
 have hbV : Below w.heap.size w v2 := by rw [hV]; exact ((Below.refl _ _).alloc (Nat.le_refl _) _)
 have BX1 := Lib.hid (show Bxs v2 (w.heap.size) 41 [.bool t.t.s, .slice t.t.a t.t.n t.t.c, .bool t.l.s, .slice t.l.a t.l.n t.l.c, .int .u16 tm.x, .int .u16 tm.y, .int .u16 tm.z, .int .u16 tm.t] by have h := Bxs.new (w) 41 [.bool t.t.s, .slice t.t.a t.t.n t.t.c, .bool t.l.s, .slice t.l.a t.l.n t.l.c, .int .u16 tm.x, .int .u16 tm.y, .int .u16 tm.z, .int .u16 tm.t]; rw [hV]; exact h)
 rw [show w.alloc (.cells #[.bool t.t.s, .slice t.t.a t.t.n t.t.c, .bool t.l.s, .slice t.l.a t.l.n t.l.c, .int .u16 tm.x, .int .u16 tm.y, .int .u16 tm.z, .int .u16 tm.t] 41) = v2 from hV.symm]
 have BD := Lib.hid (BD.out.below hbV BD.out.lt)
 have KG := Lib.hid (KG.out.trans (hbV.mono KG.out.size))
 clear hV hbV
 go_upto_region 1 with (fail)
 refine Go.FreshS.wp_region_fresh 13 [(12, 11)] (Go.FreshS.spOf [(7, Go.FreshS.Sp.know (.tuple #[.agg #[.int .u16 0, .int .u16 0, .int .u16 0, .int .u16 0], .bool false])), (11, Go.FreshS.Sp.box 39 4 v2.heap.size)])
  (fun w' => Below v2.heap.size v2 w') (by kernel_rfl) (by kernel_rfl) (by kernel_rfl)
  (Go.FreshS.spOf_cons (Go.FreshS.Sp.know_keeps _ _) (Go.FreshS.spOf_cons (Go.FreshS.Sp.box_keeps _ _ _ _) (Go.FreshS.spOf_nil))) (fun _ _ h hb => h.trans (hb.mono h.size)) ((Below.refl _ _).drew) ?_
 simp only [List.append_eq, List.cons_append, List.nil_append, List.take_succ_cons, List.take_zero, List.drop_succ_cons, List.drop_zero]
 refine Go.FreshS.wpF_reads rfl rfl rfl ?_ (fun w' hw' => ?_) ?_
 rotate_left
 ·have hb' := hw'.world
  skip
  clear hw'
  go_simp
  try rfl
 conv => arg 10; simp only [Act.put, List.setIfInBounds_toArray, List.set_cons_succ, List.set_cons_zero]
 refine Go.FreshS.wpF_reads rfl rfl rfl ?_ (fun w' hw' => ?_) ?_
 rotate_left
 ·have hb' := hw'.world
  have hs0 := (BX1.out.below hb' BX1.out.lt).cell (i := 0) rfl
  have hs1 := (BX1.out.below hb' BX1.out.lt).cell (i := 1) rfl
  have hs2 := (BX1.out.below hb' BX1.out.lt).cell (i := 2) rfl
  have hs3 := (BX1.out.below hb' BX1.out.lt).cell (i := 3) rfl
  have hs4 := (BX1.out.below hb' BX1.out.lt).cell (i := 4) rfl
  have hs5 := (BX1.out.below hb' BX1.out.lt).cell (i := 5) rfl
  have hs6 := (BX1.out.below hb' BX1.out.lt).cell (i := 6) rfl
  have hs7 := (BX1.out.below hb' BX1.out.lt).cell (i := 7) rfl
  have hsf := (BX1.out.below hb' BX1.out.lt).fz
  have hsl := (BX1.out.below hb' BX1.out.lt).lt
  clear hw'
  go_simp
  try rfl
 conv => arg 10; simp only [Act.put, List.setIfInBounds_toArray, List.set_cons_succ, List.set_cons_zero]
 refine Go.FreshS.wpF_reads rfl rfl rfl ?_ (fun w' hw' => ?_) ?_
 rotate_left
 ·have hb' := hw'.world
  skip
  clear hw'
  go_simp
  try rfl
 conv => arg 10; simp only [Act.put, List.setIfInBounds_toArray, List.set_cons_succ, List.set_cons_zero]
 refine Go.FreshS.wpF_reads rfl rfl rfl ?_ (fun w' hw' => ?_) ?_
 rotate_left
 ·have hb' := hw'.world
  skip
  clear hw'
  go_simp
  try rfl
 conv => arg 10; simp only [Act.put, List.setIfInBounds_toArray, List.set_cons_succ, List.set_cons_zero]
 refine Go.FreshS.wpF_reads rfl rfl rfl ?_ (fun w' hw' => ?_) ?_
 rotate_left
 ·have hb' := hw'.world
  skip
  clear hw'
  go_simp
  try rfl
 conv => arg 10; simp only [Act.put, List.setIfInBounds_toArray, List.set_cons_succ, List.set_cons_zero]
 refine Go.FreshS.wpF_reads rfl rfl rfl ?_ (fun w' hw' => ?_) ?_
 rotate_left
 ·have hb' := hw'.world
  skip
  clear hw'
  go_simp
  try rfl
 conv => arg 10; simp only [Act.put, List.setIfInBounds_toArray, List.set_cons_succ, List.set_cons_zero]
 refine Go.FreshS.wpF_reads rfl rfl rfl ?_ (fun w' hw' => ?_) ?_
 rotate_left
 ·have hb' := hw'.world
  have hs0 := (BD.out.below hb' BD.out.lt).cell (i := 0) rfl
  have hs1 := (BD.out.below hb' BD.out.lt).cell (i := 1) rfl
  have hs2 := (BD.out.below hb' BD.out.lt).cell (i := 2) rfl
  have hs3 := (BD.out.below hb' BD.out.lt).cell (i := 3) rfl
  have hs4 := (BD.out.below hb' BD.out.lt).cell (i := 4) rfl
  have hs5 := (BD.out.below hb' BD.out.lt).cell (i := 5) rfl
  have hs6 := (BD.out.below hb' BD.out.lt).cell (i := 6) rfl
  have hs7 := (BD.out.below hb' BD.out.lt).cell (i := 7) rfl
  have hs8 := (BD.out.below hb' BD.out.lt).cell (i := 8) rfl
  have hs9 := (BD.out.below hb' BD.out.lt).cell (i := 9) rfl
  have hsf := (BD.out.below hb' BD.out.lt).fz
  have hsl := (BD.out.below hb' BD.out.lt).lt
  clear hw'
  go_simp
  try rfl
 conv => arg 10; simp only [Act.put, List.setIfInBounds_toArray, List.set_cons_succ, List.set_cons_zero]
 refine Go.FreshS.wpF_spec rfl rfl rfl (fun w' hw' => ?_) ?_
 ·have hb' := hw'.world
  refine Go.FreshS.gives_of (Go.FreshS.PK (.tuple #[.agg #[.int .u16 0, .int .u16 0, .int .u16 0, .int .u16 0], .bool false])) ?_ (fun _ _ h => h.post)
  go_simp
  have CT := mono_divN tm m w' HSA.out HSB.out HST.out
  refine CT.mono ?_
  rintro e w'' ⟨rfl, hb⟩
  exact ⟨_, rfl, rfl, hb⟩
 rintro _ rfl
 conv => arg 10; simp only [Act.put, List.setIfInBounds_toArray, List.set_cons_succ, List.set_cons_zero]
 refine Go.FreshS.wpF_reads rfl rfl rfl ?_ (fun w' hw' => ?_) ?_
 rotate_left
 ·have hb' := hw'.world
  skip
  clear hw'
  go_simp
  try rfl
 conv => arg 10; simp only [Act.put, List.setIfInBounds_toArray, List.set_cons_succ, List.set_cons_zero]
 refine Go.FreshS.wpF_reads rfl rfl rfl ?_ (fun w' hw' => ?_) ?_
 rotate_left
 ·have hb' := hw'.world
  skip
  clear hw'
  go_simp
  try rfl
 conv => arg 10; simp only [Act.put, List.setIfInBounds_toArray, List.set_cons_succ, List.set_cons_zero]
 refine Go.FreshS.wpF_reads rfl rfl rfl ?_ (fun w' hw' => ?_) ?_
 rotate_left
 ·have hb' := hw'.world
  skip
  clear hw'
  go_simp
  try rfl
 conv => arg 10; simp only [Act.put, List.setIfInBounds_toArray, List.set_cons_succ, List.set_cons_zero]
 refine Go.FreshS.wpF_spec rfl rfl rfl (fun w' hw' => ?_) ?_
 ·have hb' := hw'.world
  refine Go.FreshS.gives_of (Go.FreshS.PB 39 4 v2.heap.size w'.heap.size) ?_ (fun _ _ h => h.post)
  go_simp
  exact ⟨Go.FreshS.PB.new _ rfl hb'.size, (Below.refl _ _).alloc (Nat.le_refl _) _⟩
 rintro _ ⟨y11, rfl⟩
 conv => arg 10; simp only [Act.put, List.setIfInBounds_toArray, List.set_cons_succ, List.set_cons_zero]
 refine Go.FreshS.wpF_store rfl rfl 11 rfl rfl rfl rfl (fun _ => Iff.rfl) (fun w' hw' => ?_) ?_
 ·have hb' := hw'.world
  have hX := Go.FreshS.box_of (hw'.fact 11 (by kernel_rfl))
  obtain ⟨c0, c1, c2, c3, hB⟩ := shp4 hX.1
  have m0 := hB.cell (i := 0) rfl
  have m1 := hB.cell (i := 1) rfl
  have m2 := hB.cell (i := 2) rfl
  have m3 := hB.cell (i := 3) rfl
  have mf := hB.fz
  have ml := hB.lt
  refine Go.FreshS.stores_of ?_ (store4 hb' hX.2 hB (.int .u16 0) (.int .u16 0) (.int .u16 0) (.int .u16 0))
  clear hw'
  go_simp
  try rfl
 conv => arg 10; simp only [Act.put, List.setIfInBounds_toArray, List.set_cons_succ, List.set_cons_zero]
 refine Go.FreshS.wpF_nil (fun w4 hb hF => ?_)
 have BX3 := Lib.hid (show Bxs w4 y11 39 [.int .u16 0, .int .u16 0, .int .u16 0, .int .u16 0] from stored_bxs (hF.all 12))
 clear hF
 clear BD
 clear BX1
 have KG := Lib.hid (KG.out.trans (hb.mono KG.out.size))
 clear hb
 clear BX3
 go_wp2_with fail
 go_ret2
 exact ⟨rfl, KG.out⟩
structure RS (w : World) (a : Option Addr) (ps : List PV) : Prop where
 ex : ps ≠ [] → ∃ b off, a = some ⟨b, off, none⟩ ∧ ∀ i p, ps[i]? = some p → w.cell? ⟨b, off + i, none⟩ = some p.v
theorem RS.nil (w : World) (a : Option Addr) : RS w a [] := ⟨fun h => absurd rfl h⟩
theorem RS.below {w w' : World} {a : Option Addr} {ps : List PV} (h : RS w a ps) (hb : Below w.heap.size w w') : RS w' a ps := by
 refine ⟨fun hn => ?_⟩
 obtain ⟨b, off, ha, hc⟩ := h.ex hn
 refine ⟨b, off, ha, fun i p hi => ?_⟩
 have h1 := hc i p hi
 exact (hb.cell (p := ⟨b, off + i, none⟩) (block_lt_of_cell h1)).trans h1
structure PC (P : List Tm) (n k e : Nat) : Prop where
 c : Canon P
 b : PB P n k e
theorem PC.up {P : List Tm} {n k e n' k' e' : Nat} (h : PC P n k e) (hn : n ≤ n') (hk : k ≤ k') (he : e ≤ e') : PC P n' k' e' := ⟨h.c, h.b.up hn hk he⟩
theorem PC.lq {P : List Tm} {n k e m : Nat} (h : PC P n k e) (hm : k ≤ m) : ∀ t ∈ P, LQ t.2 m := fun t ht => (h.b.lq t ht).up hm
theorem PC.both {P : List Tm} {n k e : Nat} (h : PC P n k e) : ∀ t ∈ P, LQ t.2 k ∧ t.1.le e := fun t ht => ⟨h.b.lq t ht, h.b.ex t ht⟩
theorem PC.nil (n k e : Nat) : PC [] n k e := ⟨Canon.nil, PB.nil n k e⟩
theorem PC.add {P Q : List Tm} {n1 k1 e1 n2 k2 e2 : Nat} (h1 : PC P n1 k1 e1) (h2 : PC Q n2 k2 e2) (k e : Nat) (a : k1 ≤ k) (b : k2 ≤ k) (c : e1 ≤ e) (d : e2 ≤ e) : PC (addP P Q) (n1 + n2) (2 * k + 1) e :=
 ⟨addP_canon _ _, PB.add h1.c h2.c (h1.b.up (Nat.le_refl _) a c) (h2.b.up (Nat.le_refl _) b d)⟩
theorem PC.mul {P Q : List Tm} {n1 k1 e1 n2 k2 e2 : Nat} (h1 : PC P n1 k1 e1) (h2 : PC Q n2 k2 e2) : PC (mulP P Q) (n1 * n2) (n1 * (k1 + k2 + 1)) (e1 + e2) := ⟨mulP_canon _ _, PB.mulC h2.c h1.b h2.b⟩
theorem PC.scale {P : List Tm} {n k e k2 : Nat} {c : Rat} (h : PC P n k e) (hc : LQ c k2) : PC (scaleP c P) n (k + k2) e := ⟨scaleP_canon _ _, PB.scale h.c h.b hc⟩
theorem lq_minus : LQ (-1 : Rat) 3 := by rw [show ((-1 : Rat)) = ((-1 : Int) : Rat) by decide +kernel]; exact lq_neg
theorem PC.sub {P Q : List Tm} {n1 k1 e1 n2 k2 e2 : Nat} (h1 : PC P n1 k1 e1) (h2 : PC Q n2 k2 e2) (k e : Nat) (a : k1 ≤ k) (b : k2 + 3 ≤ k) (c : e1 ≤ e) (d : e2 ≤ e) : PC (subP P Q) (n1 + n2) (2 * k + 1) e :=
 h1.add (h2.scale lq_minus) k e a b c d
theorem PC.of {q : Rat} {k : Nat} (h : LQ q k) : PC (nf [(Mo.one, q)]) 1 (k + 1) 0 := by
 have hb : PB [(Mo.one, q)] 1 k 0 := ⟨Nat.le_refl _, fun t ht => by rw [List.mem_singleton.1 ht]; exact h, fun t ht => by rw [List.mem_singleton.1 ht]; exact ⟨Nat.le_refl _, Nat.le_refl _, Nat.le_refl _, Nat.le_refl _⟩⟩
 have h1 := hb.nf
 rw [Nat.one_mul] at h1
 exact ⟨nf_canon _, h1⟩
theorem PC.letter (i : Nat) : PC (letP i) 1 3 1 := by
 refine ⟨letP_canon i, Nat.le_refl _, fun t ht => ?_, fun t ht => ?_⟩
 ·rw [List.mem_singleton.1 ht]
  show LQ (1 : Rat) 3
  rw [show ((1 : Rat)) = ((1 : Int) : Rat) by decide +kernel]
  exact lq_one
 ·rw [List.mem_singleton.1 ht]
  show (letM i).le 1
  unfold letM
  split
  ·exact ⟨by decide, by decide, by decide, by decide⟩
  ·split
   ·exact ⟨by decide, by decide, by decide, by decide⟩
   ·split
    ·exact ⟨by decide, by decide, by decide, by decide⟩
    ·exact ⟨by decide, by decide, by decide, by decide⟩
theorem KP.n_le {w : World} {x : PV} {P : List Tm} {n k e : Nat} (h : KP w x P) (b : PC P n k e) : x.n ≤ n := by rw [h.len]; exact b.b.len
theorem padd {w : World} {x y : PV} {P Q : List Tm} {n1 k1 e1 n2 k2 e2 : Nat} (hx : KP w x P) (b1 : PC P n1 k1 e1) (hy : KP w y Q) (b2 : PC Q n2 k2 e2) (k : Nat) (a : k1 ≤ k) (b : k2 ≤ k) (hk : 2 * k + 2 ≤ 900000) (hn : n1 + n2 ≤ 1000000) :
  Calls Tryz.prog 14 #[x.v, y.v] w fun e w' => ∃ z : PV, e = .returned z.v ∧ DP w' w.heap.size z (addP P Q) ∧ Below w.heap.size w w' :=
 have h1 := hx.n_le b1; have h2 := hy.n_le b2; have h3 := b1.b.len; have h4 := b2.b.len
 add_any x y P Q k w hx.any hy.any (by omega) (by omega) (b1.lq a) (b2.lq b) hk (by omega)
theorem psub {w : World} {x y : PV} {P Q : List Tm} {n1 k1 e1 n2 k2 e2 : Nat} (hx : KP w x P) (b1 : PC P n1 k1 e1) (hy : KP w y Q) (b2 : PC Q n2 k2 e2) (k : Nat) (a : k1 ≤ k) (b : k2 ≤ k) (he : e2 ≤ 65535) (hk : 2 * k + 8 ≤ 900000) (hkk : n2 * (k + 4) ≤ 900000) (hn : n1 + n2 ≤ 1000000) :
  Calls Tryz.prog 25 #[x.v, y.v] w fun e w' => ∃ z : PV, e = .returned z.v ∧ DP w' w.heap.size z (subP P Q) ∧ Below w.heap.size w w' :=
 have h1 := hx.n_le b1; have h2 := hy.n_le b2; have h3 := b1.b.len
 psub_any x y P Q k n2 w hx.any hy.any (by omega) (by omega) (b1.lq a) (b2.b.up (Nat.le_refl _) b he) hk hkk (by omega)
theorem pof {w : World} {c : FV} {q : Rat} {k : Nat} (hc : AF w c q) (lc : LF c 900000) (hq : LQ q k) (hk : k ≤ 400000) : Calls Tryz.prog 19 #[c.v] w fun e w' => ∃ y : PV, e = .returned y.v ∧ DP w' w.heap.size y (nf [(Mo.one, q)]) ∧ Below w.heap.size w w' :=
 of_num c q w hc lc (hq.up hk)
def rowT (T : TypeId) : Bool := T == 41 || T == 117
theorem DP.rows {w w' : World} {lo : Nat} {x : PV} {P : List Tm} (h : DP w lo x P) (hs : ∀ (b : Nat) (c : Array Value) (T : TypeId), w.heap[b]? = some (.cells c T (0, 0)) → rowT T = true → w'.heap[b]? = w.heap[b]?) : DP w' lo x P := by
 obtain ⟨L, h1, h2, h3, h4⟩ := h.ex
 refine ⟨⟨L, ⟨h1.1, h1.2.imp id ?_⟩, fun e he => (h2 e he).kept fun b hb => ?_, h3, h4⟩, h.canon, h.small⟩
 ·rintro ⟨g, cap, cur, hv, hlo, hgk, h3⟩
  exact ⟨g, cap, cur, hv, hlo, (hs g _ _ hgk rfl).trans hgk, h3⟩
 ·obtain ⟨cur, h5⟩ := DF.blkc (h2 e he) hb
  exact hs b _ _ h5 rfl
theorem RawQ.rawP {w : World} {x : PV} {L : List TO} {m : Nat} (h : RawQ w x L) (hg : NotGreat m (L.map Prod.fst)) : RawP w x L := h.raw fun e he => by
 obtain ⟨h1, h2⟩ := hg.2 e.1 (List.mem_map_of_mem he)
 exact ⟨Nat.le_trans h1 (by decide), Nat.le_trans h2 (by decide)⟩
set_option maxRecDepth 100000 in
set_option maxHeartbeats 4000000 in
theorem bad1 (p : PV) (b : Bool) (w : World) (h : Calls Tryz.prog 11 #[p.v] w fun e w' => e = .returned (.bool b) ∧ Below w.heap.size w w') :
  Calls Tryz.prog 30 #[p.v] w fun e w' => e = .returned (.bool (!b)) ∧ Below w.heap.size w w' := by
 have CK := Lib.hid h
 clear h
 obtain ⟨xa, xn, xc⟩ := p
 change Calls Tryz.prog 30 #[.slice xa xn xc] w _
 go_enter Tryz.func30, Tryz.ntmps30
 go_wp2_with fail
 with_reducible refine CK.out.mono ?_
 rintro e w1 ⟨rfl, hb⟩
 have KG := Lib.hid hb
 clear hb CK
 go_wp2_with fail
 go_ret
 exact ⟨rfl, KG.out⟩
set_option maxRecDepth 100000 in
set_option maxHeartbeats 4000000 in
theorem idx_l (a : Option Addr) (c : Nat) (ps : List PV) (k0 : Nat) (w : World) (hr : RS w a ps) (hn : ps.length ≤ 1000) (hk : k0 ≤ ps.length)
  (hok : ∀ i p, i < k0 → ps[i]? = some p → ∀ w1, Below w.heap.size w w1 → Calls Tryz.prog 11 #[p.v] w1 fun e w' => e = .returned (.bool true) ∧ Below w1.heap.size w1 w')
  (hbad : ∀ p, ps[k0]? = some p → ∀ w1, Below w.heap.size w w1 → Calls Tryz.prog 11 #[p.v] w1 fun e w' => e = .returned (.bool false) ∧ Below w1.heap.size w1 w') :
  Calls Tryz.prog 58 #[.slice a ps.length c, .func (.func 30) #[] #[]] w fun e w' => e = .returned (.int .i64 (if k0 < ps.length then (k0 : Int) else -1)) ∧ Below w.heap.size w w' := by
 have HR := Lib.hid hr; have HN := Lib.hid hn; have HK := Lib.hid hk; have HOK := Lib.hid hok; have HBD := Lib.hid hbad
 have hcf : ∀ (args : Array Value) (w : World), (callFunc 30 args).run Tryz.prog w = .ok (.enter 30 args) w := fun _ _ => by kernel_rfl
 obtain ⟨n, hnn⟩ : ∃ n, n = ps.length := ⟨_, rfl⟩
 rw [← hnn]
 have HNN := Lib.hid hnn
 clear hr hn hk hok hbad hnn
 go_enter Tryz.func58, Tryz.ntmps58
 go_wp2_with fail
 go_loopw [8] (fun i wr => ∃ j : Nat, j ≤ k0 ∧ i = .int .i64 j ∧ Below w.heap.size w wr) (fun i _ => n - (intOf i).toNat)
 case atStart => exact ⟨0, Nat.zero_le _, rfl, Below.refl _ _⟩
 case round =>
  obtain ⟨j, hj, rfl, hb0⟩ := hrel
  have KG := Lib.hid hb0; have HJ := Lib.hid hj
  clear hj hb0
  by_cases hjn : j < n
  ·have HJN := Lib.hid hjn
   have hjl : j < ps.length := by rw [← HNN.out]; exact hjn
   obtain ⟨pb, po, rfl, hcs⟩ := (HR.out.below KG.out).ex (fun e => by rw [e] at hjl; simp at hjl)
   obtain ⟨p, hp⟩ : ∃ p, ps[j]? = some p := ⟨_, List.getElem?_eq_getElem hjl⟩
   have hc := hcs j p hp
   have hlt : (j : Int) < (n : Int) := by omega
   have ek : IntKind.i64.wrap ((j : Int) + 1) = (j : Int) + 1 := IntWalk.i64_in _ (by have := HN.out; omega)
   have HPJ := Lib.hid hp
   obtain ⟨xa, xn, xc⟩ := p
   change wr.cell? ⟨pb, po + j, none⟩ = some (.slice xa xn xc) at hc
   by_cases hjk : j < k0
   ·have CK := Lib.hid (bad1 ⟨xa, xn, xc⟩ true wr (HOK.out j _ hjk HPJ.out wr KG.out))
    have HJK := Lib.hid hjk
    clear hjl hp hcs hjn hjk
    go_wp2_with fail
    with_reducible refine CK.out.mono ?_
    rintro e w1 ⟨rfl, hb⟩
    have KG := Lib.hid (KG.out.trans (hb.mono KG.out.size))
    clear hb CK hc
    go_wp2_with fail
    go_roundw
    case rel => exact ⟨j + 1, by have := HJK.out; omega, rfl, KG.out⟩
    case measure => simp [intOf]; have := HJN.out; omega
   ·obtain rfl : j = k0 := by have := HJ.out; omega
    have CK := Lib.hid (bad1 ⟨xa, xn, xc⟩ false wr (HBD.out _ HPJ.out wr KG.out))
    clear hjl hp hcs hjn hjk
    go_wp2_with fail
    with_reducible refine CK.out.mono ?_
    rintro e w1 ⟨rfl, hb⟩
    have KG := Lib.hid (KG.out.trans (hb.mono KG.out.size))
    clear hb CK hc
    go_wp2_with fail
    go_ret
    exact ⟨by first | rfl | rw [if_pos HJN.out]; rfl | rw [if_pos HJN.out], KG.out⟩
  ·have hge : ¬ ((j : Int) < (n : Int)) := by omega
   have HKN := Lib.hid (show ¬ k0 < n by have := HJ.out; have := HK.out; have := HNN.out; omega)
   clear hjn
   go_wp2_with fail
   go_ret
   exact ⟨by first | rfl | rw [if_neg HKN.out]; rfl | rw [if_neg HKN.out], KG.out⟩
set_option maxRecDepth 100000 in
set_option maxHeartbeats 4000000 in
theorem con_l (a : Option Addr) (c : Nat) (ps : List PV) (k0 : Nat) (w : World) (hr : RS w a ps) (hn : ps.length ≤ 1000) (hk : k0 ≤ ps.length)
  (hok : ∀ i p, i < k0 → ps[i]? = some p → ∀ w1, Below w.heap.size w w1 → Calls Tryz.prog 11 #[p.v] w1 fun e w' => e = .returned (.bool true) ∧ Below w1.heap.size w1 w')
  (hbad : ∀ p, ps[k0]? = some p → ∀ w1, Below w.heap.size w w1 → Calls Tryz.prog 11 #[p.v] w1 fun e w' => e = .returned (.bool false) ∧ Below w1.heap.size w1 w') :
  Calls Tryz.prog 29 #[.slice a ps.length c, .func (.func 30) #[] #[]] w fun e w' => e = .returned (.bool (decide (k0 < ps.length))) ∧ Below w.heap.size w w' := by
 have IK := Lib.hid (idx_l a c ps k0 w hr hn hk hok hbad)
 obtain ⟨z, hz⟩ : ∃ z : Int, z = if k0 < ps.length then (k0 : Int) else -1 := ⟨_, rfl⟩
 rw [← hz] at IK
 have HZ := Lib.hid (show decide (0 ≤ z) = decide (k0 < ps.length) by
  rw [hz]
  by_cases h : k0 < ps.length
  ·rw [if_pos h, decide_eq_true h]; exact decide_eq_true (Int.natCast_nonneg _)
  ·rw [if_neg h, decide_eq_false h]; rfl)
 obtain ⟨n, hnn⟩ : ∃ n, n = ps.length := ⟨_, rfl⟩
 rw [← hnn] at IK HZ ⊢
 clear hr hn hk hok hbad hz hnn
 go_enter Tryz.func29, Tryz.ntmps29
 go_wp2_with fail
 with_reducible refine IK.out.mono ?_
 rintro e w1 ⟨rfl, hb⟩
 have KG := Lib.hid hb
 clear hb IK
 go_wp2_with fail
 go_ret
 exact ⟨by rw [← HZ.out]; rfl, KG.out⟩
theorem DP.void (w : World) (lo : Nat) : DP w lo ⟨none, 0, 0⟩ [] := ⟨⟨[], World.ownsRow_nil _ _ _ _, fun e he => (by cases he), List.Pairwise.nil, rfl⟩, Canon.nil, fun t ht => (by cases ht)⟩
theorem infoD : (Tryz.prog.info? 71).map (fun i => (i.zero, i.size, i.bytes)) = some (some (.pointer none), 1, 8) := by kernel_rfl
abbrev ptr (b : Nat) : Value := .pointer (some ⟨b, 0, none⟩)
structure DvR where
 b : Nat
 y : FV
 x : PV
 z : PV
abbrev DvE := DvR × (Dv × List Tm)
structure DvOK (w0 w : World) (lo : Nat) (e : DvE) : Prop where
 ge : lo ≤ e.1.b
 bx : Bxs w e.1.b 75 (dvC e.1.y e.2.1.1.1 e.1.x e.1.z)
 le : DF w lo e.1.y e.2.1.1.2
 all : KP w0 e.1.x e.2.1.2
 of : DP w lo e.1.z e.2.2
theorem DvOK.below {w0 w w' : World} {lo : Nat} {e : DvE} (h : DvOK w0 w lo e) (hb : Below w.heap.size w w') : DvOK w0 w' lo e := ⟨h.ge, h.bx.below hb h.bx.lt, h.le.below hb, h.all, h.of.below hb⟩
abbrev OD (w : World) (lo : Nat) (v : Value) (bs : List Nat) : Prop := w.ownsRow lo 71 1 v bs.length (bs.map ptr)
theorem OD.below {w w' : World} {lo : Nat} {v : Value} {bs : List Nat} (h : OD w lo v bs) (hb : Below w.heap.size w w') : OD w' lo v bs := by
 refine ⟨h.1, h.2.imp id ?_⟩
 rintro ⟨g, cap, cur, hv, hlo, hg, h3⟩
 exact ⟨g, cap, cur, hv, hlo, (hb.block g (lt_of_block hg)).trans hg, h3⟩
theorem OD.own {w : World} {lo : Nat} {v : Value} {bs : List Nat} (h : OD w lo v bs) {k : Nat} (hk : some k = v.ownBlock) : lo ≤ k ∧ ∃ cur, w.heap[k]? = some (.cells cur 71 (0, 0)) := by
 rcases h.2 with ⟨hv, _⟩ | ⟨g, cap, cur, hv, hlo, hg, _⟩
 ·rw [hv] at hk; cases hk
 ·rw [hv] at hk
  have hk : some k = some g := hk
  cases hk
  exact ⟨hlo, cur, hg⟩
theorem DvOK.kept {w0 w w' : World} {lo : Nat} {e : DvE} (h : DvOK w0 w lo e) (hk : ∀ (b : Nat) (c : Array Value) (T : TypeId), w.heap[b]? = some (.cells c T (0, 0)) → (rowT T || T == 75) = true → w'.heap[b]? = w.heap[b]?) : DvOK w0 w' lo e :=
 ⟨h.ge, h.bx.of (hk _ _ _ h.bx rfl), h.le.kept fun b hb => let ⟨_, h5⟩ := DF.blkc h.le hb; hk b _ _ h5 rfl, h.all, h.of.rows fun b c T hg ht => hk b c T hg (by rw [ht]; rfl)⟩
theorem OD.other {w w' : World} {lo : Nat} {v : Value} {bs : List Nat} (h : OD w lo v bs) (hg : w.grownBy w' v.ownBlock) : ∀ (b : Nat) (c : Array Value) (T : TypeId), w.heap[b]? = some (.cells c T (0, 0)) → (rowT T || T == 75) = true → w'.heap[b]? = w.heap[b]? := fun b c T hb hT =>
 hg.block b (lt_of_block hb) fun e => by
  obtain ⟨_, c2, h5⟩ := h.own e
  rw [hb] at h5
  have : T = 71 := by injection h5 with h5; injection h5
  subst this
  exact absurd hT (by decide)
structure DVS (w0 w : World) (lo : Nat) (v : Value) (es : List DvE) : Prop where
 row : OD w lo v (es.map fun e => e.1.b)
 ok : ∀ e ∈ es, DvOK w0 w lo e
 ap : (es.map fun e => e.1.b).Nodup
theorem DVS.below {w0 w w' : World} {lo : Nat} {v : Value} {es : List DvE} (h : DVS w0 w lo v es) (hb : Below w.heap.size w w') : DVS w0 w' lo v es := ⟨h.row.below hb, fun e he => (h.ok e he).below hb, h.ap⟩
theorem DVS.nil (w0 w : World) (lo : Nat) : DVS w0 w lo (.slice none 0 0) [] := ⟨World.ownsRow_nil _ _ _ _, fun e he => (by cases he), List.nodup_nil⟩
theorem DVS.push {w0 wr wx : World} {lo : Nat} {v v' : Value} {es : List DvE} {e : DvE} {D S : Obj} (h : DVS w0 wr lo v es) (he : DvOK w0 (wr.alloc D) lo e) (hb : e.1.b = wr.heap.size)
  (ho : OD wx lo v' (es.map (fun e => e.1.b) ++ [e.1.b])) (hg : ((wr.alloc D).alloc S).grownBy wx v.ownBlock) : DVS w0 wx lo v' (es ++ [e]) := by
 have h1 : Below wr.heap.size wr ((wr.alloc D).alloc S) := ((Below.refl _ _).alloc (Nat.le_refl _) _).alloc (by simp) _
 have h2 : Below (wr.alloc D).heap.size (wr.alloc D) ((wr.alloc D).alloc S) := (Below.refl _ _).alloc (Nat.le_refl _) _
 have h3 := h.below h1
 have hk := h3.row.other hg
 refine ⟨by rw [List.map_append]; exact ho, fun d hd => ?_, ?_⟩
 ·rcases List.mem_append.1 hd with hd | hd
  ·exact (h3.ok d hd).kept hk
  ·rw [List.mem_singleton.1 hd]
   exact (he.below h2).kept hk
 ·rw [List.map_append]
  refine List.nodup_append.2 ⟨h.ap, List.nodup_cons.2 ⟨by simp, List.nodup_nil⟩, fun b hb1 c hc e1 => ?_⟩
  obtain ⟨d, hd, rfl⟩ := List.mem_map.1 hb1
  obtain rfl : c = e.1.b := by simpa using hc
  have := (h.ok d hd).bx.lt
  omega
def DvsR (w : World) (o : Int) (qs : List (PV × List Tm)) (e : Ending) (w' : World) : Prop :=
 ∃ v es, e = .returned (.tuple #[v, .int .i64 0]) ∧ DVS w w' w.heap.size v es ∧ es.map (fun e => (e.1.x, e.2.1.2)) = qs ∧ (∀ e ∈ es, Lead (keyO o) e.2.1.2 e.2.1.1 ∧ e.2.2 = []) ∧ Below w.heap.size w w'
set_option maxRecDepth 100000 in
set_option maxHeartbeats 16000000 in
theorem divisors_ok (o : Int) (a : Option Addr) (c : Nat) (qs : List (PV × List Tm)) (w : World) (hr : RS w a (qs.map Prod.fst)) (hn : qs.length ≤ 1000)
  (hk : ∀ q ∈ qs, KP w q.1 q.2 ∧ (∀ t ∈ q.2, LQ t.2 900000) ∧ q.1.n ≤ 1000000 ∧ q.2 ≠ []) :
  Calls Tryz.prog 31 #[.int .u8 o, .slice a qs.length c] w (DvsR w o qs) := by
 have HR := Lib.hid hr; have HN := Lib.hid hn; have HK := Lib.hid hk
 obtain ⟨n, hnn⟩ : ∃ n, n = qs.length := ⟨_, rfl⟩
 rw [← hnn]
 have HNN := Lib.hid hnn
 obtain ⟨i1, hi, hz0, hz1, hz2⟩ := info_parts infoD
 clear hr hn hk hnn
 go_enter Tryz.func31, Tryz.ntmps31
 go_wp2_with fail
 go_loopw [4, 12] (fun v i wr => ∃ (j : Nat) (es : List DvE), j ≤ n ∧ i = .int .i64 j ∧ DVS w wr w.heap.size v es ∧ es.map (fun e => (e.1.x, e.2.1.2)) = qs.take j ∧ (∀ e ∈ es, Lead (keyO o) e.2.1.2 e.2.1.1 ∧ e.2.2 = []) ∧ Below w.heap.size w wr) (fun _ i _ => n - (intOf i).toNat)
 case atStart => exact ⟨0, [], Nat.zero_le _, rfl, DVS.nil _ _ _, rfl, fun e he => (by cases he), Below.refl _ _⟩
 case round =>
  obtain ⟨j, es, hj, rfl, hd, hm, hl, hb0⟩ := hrel
  have HJ := Lib.hid hj; have HD := Lib.hid hd; have HM := Lib.hid hm; have HL := Lib.hid hl; have KG := Lib.hid hb0
  have hel : es.length = j := by
   have h1 := congrArg List.length hm
   rw [List.length_map, List.length_take, ← HNN.out] at h1
   omega
  have HEL := Lib.hid hel
  clear hj hd hm hl hb0 hel
  by_cases hjn : j < n
  ·have HJN := Lib.hid hjn
   have hjl : j < qs.length := by rw [← HNN.out]; exact hjn
   obtain ⟨pb, po, rfl, hcs⟩ := (HR.out.below KG.out).ex (fun e => by rw [List.map_eq_nil_iff] at e; rw [e] at hjl; simp at hjl)
   obtain ⟨⟨p, D⟩, hp⟩ : ∃ p, qs[j]? = some p := ⟨_, List.getElem?_eq_getElem hjl⟩
   have hc := hcs j p (by rw [List.getElem?_map, hp]; rfl)
   have HPJ := Lib.hid hp
   obtain ⟨k1, k2, k3, k4⟩ := HK.out _ (List.mem_of_getElem? hp)
   have HKP := Lib.hid k1
   have LD := Lib.hid (lead_k o p D wr (k1.below KG.out).any k2 k3 k4)
   have hlt : (j : Int) < (n : Int) := by omega
   have ek : IntKind.i64.wrap ((j : Int) + 1) = (j : Int) + 1 := IntWalk.i64_in _ (by have := HN.out; have := HNN.out; omega)
   have HEK := Lib.hid ek
   obtain ⟨xa, xn, xc⟩ := p
   change wr.cell? ⟨pb, po + j, none⟩ = some (.slice xa xn xc) at hc
   clear hjl hp hcs k1 k2 k3 k4 hjn
   go_wp2_with fail
   with_reducible refine LD.out.mono ?_
   rintro e w1 ⟨y, ⟨m, q⟩, rfl, hy, hld, hb⟩
   have HY := Lib.hid (hy.mono KG.out.size); have HLD := Lib.hid hld
   have HD := Lib.hid (HD.out.below hb)
   have KG := Lib.hid (KG.out.trans (hb.mono KG.out.size))
   clear hy hld hb LD hc ek
   go_upto_region 7 with (fail)
   obtain ⟨V, hV⟩ : ∃ V, V = w1.alloc (.cells #[.bool y.t.s, .slice y.t.a y.t.n y.t.c, .bool y.l.s, .slice y.l.a y.l.n y.l.c, .int .u16 m.x, .int .u16 m.y, .int .u16 m.z, .int .u16 m.t] 41) := ⟨_, rfl⟩
   have hbV : Below w1.heap.size w1 V := by rw [hV]; exact (Below.refl _ _).alloc (Nat.le_refl _) _
   have B8 := Lib.hid (show Bxs V w1.heap.size 41 [.bool y.t.s, .slice y.t.a y.t.n y.t.c, .bool y.l.s, .slice y.l.a y.l.n y.l.c, .int .u16 m.x, .int .u16 m.y, .int .u16 m.z, .int .u16 m.t] by rw [hV]; exact Bxs.new w1 41 [.bool y.t.s, .slice y.t.a y.t.n y.t.c, .bool y.l.s, .slice y.l.a y.l.n y.l.c, .int .u16 m.x, .int .u16 m.y, .int .u16 m.z, .int .u16 m.t])
   obtain ⟨A8, hA8⟩ : ∃ A, A = w1.heap.size := ⟨_, rfl⟩
   rw [← hV, ← hA8]
   rw [← hA8] at B8
   have HD := Lib.hid (HD.out.below hbV)
   have HY := Lib.hid (HY.out.below hbV)
   have KG := Lib.hid (KG.out.trans (hbV.mono KG.out.size))
   have ek := HEK.out
   clear hV hbV hA8
   have d80 := B8.out.cell (i := 0) rfl
   have d81 := B8.out.cell (i := 1) rfl
   have d82 := B8.out.cell (i := 2) rfl
   have d83 := B8.out.cell (i := 3) rfl
   have d84 := B8.out.cell (i := 4) rfl
   have d85 := B8.out.cell (i := 5) rfl
   have d86 := B8.out.cell (i := 6) rfl
   have d87 := B8.out.cell (i := 7) rfl
   have d8f := B8.out.fz
   have d8l := B8.out.lt
   go_wp2_with (first | (at_builtin; refine wpList_append_own _ rfl _ _ 68 rfl w.heap.size 71 i1 _ 1 8 Tryz.underlying68 hi hz0 hz1 hz2 rfl (by decide) _ _ _ rfl ((HD.out.row.alloc _).alloc _) ⟨V.heap.size + 1, 0, none⟩ 1 1 [ptr V.heap.size] rfl rfl ?c1 ?c2 ?c3 ?c4 ?c5 ?_))
   case c1 =>
    intro j u hj
    match j, hj with
    | 0, hj => simp at hj; subst hj; simp [Addr.add]
   case c2 =>
    intro u hu
    rw [List.mem_singleton.1 hu]
    rfl
   case c3 => rw [List.length_map, HEL.out]; have := HJN.out; have := HNN.out; have := HN.out; unfold maxLen; omega
   case c4 => rw [List.length_map, HEL.out]; have := HJN.out; have := HNN.out; have := HN.out; omega
   case c5 => have := KG.out.size; simp; omega
   intro v' w5 hown hgrow _
   have HOK := Lib.hid (show DvOK w (V.alloc (.cells #[.bool y.t.s, .slice y.t.a y.t.n y.t.c, .bool y.l.s, .slice y.l.a y.l.n y.l.c, .int .u16 m.x, .int .u16 m.y, .int .u16 m.z, .int .u16 m.t, .slice xa xn xc, .slice none 0 0] 75)) w.heap.size (⟨V.heap.size, y, ⟨xa, xn, xc⟩, ⟨none, 0, 0⟩⟩, (((m, q), D), [])) from
    ⟨KG.out.size, Bxs.new V 75 (dvC y m ⟨xa, xn, xc⟩ ⟨none, 0, 0⟩), HY.out.below ((Below.refl _ _).alloc (Nat.le_refl _) _), HKP.out, DP.void _ _⟩)
   have HD5 := Lib.hid (HD.out.push HOK.out rfl (show OD w5 w.heap.size v' (es.map (fun e => e.1.b) ++ [V.heap.size]) by
    show w5.ownsRow _ _ _ _ _ _
    rw [List.length_append, List.map_append, List.length_map, List.map_map]
    exact hown) hgrow)
   have KG5 := Lib.hid (show Below w.heap.size w w5 from ((KG.out.alloc KG.out.size _).alloc (by have := KG.out.size; simp; omega) _).grown hgrow (by have := KG.out.size; simp; omega) fun k hk => (HD.out.row.own hk.symm).1)
   clear hown hgrow
   go_wp2_with fail
   go_roundw
   case rel =>
    refine ⟨j + 1, es ++ [(⟨V.heap.size, y, ⟨xa, xn, xc⟩, ⟨none, 0, 0⟩⟩, (((m, q), D), []))], by have := HJN.out; omega, rfl, HD5.out, ?_, fun e he => ?_, KG5.out⟩
    ·rw [List.map_append, HM.out, List.take_add_one, HPJ.out]
     rfl
    ·rcases List.mem_append.1 he with he | he
     ·exact HL.out e he
     ·rw [List.mem_singleton.1 he]
      exact ⟨HLD.out, rfl⟩
   case measure => simp [intOf]; have := HJN.out; omega
  ·have hge : ¬ ((j : Int) < (n : Int)) := by omega
   have HM := Lib.hid (show es.map (fun e => (e.1.x, e.2.1.2)) = qs by rw [HM.out]; exact List.take_of_length_le (by rw [← HNN.out]; omega))
   clear hjn
   go_wp2_with fail
   go_ret2
   exact ⟨_, es, rfl, HD.out, HM.out, HL.out, KG.out⟩
set_option maxRecDepth 100000 in
set_option maxHeartbeats 16000000 in
theorem divisors_z (o : Int) (a : Option Addr) (c : Nat) (qs : List (PV × List Tm)) (k0 : Nat) (w : World) (hr : RS w a (qs.map Prod.fst)) (hn : qs.length ≤ 1000) (h0 : k0 < qs.length)
  (hk : ∀ q ∈ qs, KP w q.1 q.2 ∧ (∀ t ∈ q.2, LQ t.2 900000) ∧ q.1.n ≤ 1000000) (hpre : ∀ i q, i < k0 → qs[i]? = some q → q.2 ≠ []) (hz : ∀ q, qs[k0]? = some q → q.2 = []) :
  Calls Tryz.prog 31 #[.int .u8 o, .slice a qs.length c] w fun e w' => e = .returned (.tuple #[.slice none 0 0, .int .i64 6]) ∧ Below w.heap.size w w' := by
 have HR := Lib.hid hr; have HN := Lib.hid hn; have HK := Lib.hid hk; have H0 := Lib.hid h0; have HPR := Lib.hid hpre; have HZ := Lib.hid hz
 obtain ⟨n, hnn⟩ : ∃ n, n = qs.length := ⟨_, rfl⟩
 rw [← hnn]
 have HNN := Lib.hid hnn
 obtain ⟨i1, hi, hz0, hz1, hz2⟩ := info_parts infoD
 clear hr hn hk hnn h0 hpre hz
 go_enter Tryz.func31, Tryz.ntmps31
 go_wp2_with fail
 go_loopw [4, 12] (fun v i wr => ∃ (j : Nat) (es : List DvE), j ≤ k0 ∧ es.length = j ∧ i = .int .i64 j ∧ DVS w wr w.heap.size v es ∧ Below w.heap.size w wr) (fun _ i _ => n - (intOf i).toNat)
 case atStart => exact ⟨0, [], Nat.zero_le _, rfl, rfl, DVS.nil _ _ _, Below.refl _ _⟩
 case round =>
  obtain ⟨j, es, hj, hel, rfl, hd, hb0⟩ := hrel
  have HJ := Lib.hid hj; have HD := Lib.hid hd; have KG := Lib.hid hb0; have HEL := Lib.hid hel
  have HJN := Lib.hid (show j < n by have := H0.out; have := HNN.out; omega)
  have hjl : j < qs.length := by rw [← HNN.out]; exact HJN.out
  obtain ⟨pb, po, rfl, hcs⟩ := (HR.out.below KG.out).ex (fun e => by rw [List.map_eq_nil_iff] at e; rw [e] at hjl; simp at hjl)
  obtain ⟨⟨p, D⟩, hp⟩ : ∃ p, qs[j]? = some p := ⟨_, List.getElem?_eq_getElem hjl⟩
  have hc := hcs j p (by rw [List.getElem?_map, hp]; rfl)
  have HPJ := Lib.hid hp
  obtain ⟨k1, k2, k3⟩ := HK.out _ (List.mem_of_getElem? hp)
  have HKP := Lib.hid k1
  have hlt : (j : Int) < (n : Int) := by have := HJN.out; omega
  have ek : IntKind.i64.wrap ((j : Int) + 1) = (j : Int) + 1 := IntWalk.i64_in _ (by have := HN.out; have := HNN.out; omega)
  have HEK := Lib.hid ek
  by_cases hjk : j < k0
  ·have HJK := Lib.hid hjk
   have LD := Lib.hid (lead_k o p D wr (k1.below KG.out).any k2 k3 (HPR.out j _ hjk HPJ.out))
   obtain ⟨xa, xn, xc⟩ := p
   change wr.cell? ⟨pb, po + j, none⟩ = some (.slice xa xn xc) at hc
   clear hjl hp hcs k1 k2 k3 hjk hj hd hb0 hel
   go_wp2_with fail
   with_reducible refine LD.out.mono ?_
   rintro e w1 ⟨y, ⟨m, q⟩, rfl, hy, hld, hb⟩
   have HY := Lib.hid (hy.mono KG.out.size)
   have HD := Lib.hid (HD.out.below hb)
   have KG := Lib.hid (KG.out.trans (hb.mono KG.out.size))
   clear hy hld hb LD hc ek
   go_upto_region 7 with (fail)
   obtain ⟨V, hV⟩ : ∃ V, V = w1.alloc (.cells #[.bool y.t.s, .slice y.t.a y.t.n y.t.c, .bool y.l.s, .slice y.l.a y.l.n y.l.c, .int .u16 m.x, .int .u16 m.y, .int .u16 m.z, .int .u16 m.t] 41) := ⟨_, rfl⟩
   have hbV : Below w1.heap.size w1 V := by rw [hV]; exact (Below.refl _ _).alloc (Nat.le_refl _) _
   have B8 := Lib.hid (show Bxs V w1.heap.size 41 [.bool y.t.s, .slice y.t.a y.t.n y.t.c, .bool y.l.s, .slice y.l.a y.l.n y.l.c, .int .u16 m.x, .int .u16 m.y, .int .u16 m.z, .int .u16 m.t] by rw [hV]; exact Bxs.new w1 41 [.bool y.t.s, .slice y.t.a y.t.n y.t.c, .bool y.l.s, .slice y.l.a y.l.n y.l.c, .int .u16 m.x, .int .u16 m.y, .int .u16 m.z, .int .u16 m.t])
   obtain ⟨A8, hA8⟩ : ∃ A, A = w1.heap.size := ⟨_, rfl⟩
   rw [← hV, ← hA8]
   rw [← hA8] at B8
   have HD := Lib.hid (HD.out.below hbV)
   have HY := Lib.hid (HY.out.below hbV)
   have KG := Lib.hid (KG.out.trans (hbV.mono KG.out.size))
   have ek := HEK.out
   clear hV hbV hA8
   have d80 := B8.out.cell (i := 0) rfl
   have d81 := B8.out.cell (i := 1) rfl
   have d82 := B8.out.cell (i := 2) rfl
   have d83 := B8.out.cell (i := 3) rfl
   have d84 := B8.out.cell (i := 4) rfl
   have d85 := B8.out.cell (i := 5) rfl
   have d86 := B8.out.cell (i := 6) rfl
   have d87 := B8.out.cell (i := 7) rfl
   have d8f := B8.out.fz
   have d8l := B8.out.lt
   go_wp2_with (first | (at_builtin; refine wpList_append_own _ rfl _ _ 68 rfl w.heap.size 71 i1 _ 1 8 Tryz.underlying68 hi hz0 hz1 hz2 rfl (by decide) _ _ _ rfl ((HD.out.row.alloc _).alloc _) ⟨V.heap.size + 1, 0, none⟩ 1 1 [ptr V.heap.size] rfl rfl ?c1 ?c2 ?c3 ?c4 ?c5 ?_))
   case c1 =>
    intro j u hj
    match j, hj with
    | 0, hj => simp at hj; subst hj; simp [Addr.add]
   case c2 =>
    intro u hu
    rw [List.mem_singleton.1 hu]
    rfl
   case c3 => rw [List.length_map, HEL.out]; have := HJN.out; have := HNN.out; have := HN.out; unfold maxLen; omega
   case c4 => rw [List.length_map, HEL.out]; have := HJN.out; have := HNN.out; have := HN.out; omega
   case c5 => have := KG.out.size; simp; omega
   intro v' w5 hown hgrow _
   have HOK := Lib.hid (show DvOK w (V.alloc (.cells #[.bool y.t.s, .slice y.t.a y.t.n y.t.c, .bool y.l.s, .slice y.l.a y.l.n y.l.c, .int .u16 m.x, .int .u16 m.y, .int .u16 m.z, .int .u16 m.t, .slice xa xn xc, .slice none 0 0] 75)) w.heap.size (⟨V.heap.size, y, ⟨xa, xn, xc⟩, ⟨none, 0, 0⟩⟩, (((m, q), D), [])) from
    ⟨KG.out.size, Bxs.new V 75 (dvC y m ⟨xa, xn, xc⟩ ⟨none, 0, 0⟩), HY.out.below ((Below.refl _ _).alloc (Nat.le_refl _) _), HKP.out, DP.void _ _⟩)
   have HD5 := Lib.hid (HD.out.push HOK.out rfl (show OD w5 w.heap.size v' (es.map (fun e => e.1.b) ++ [V.heap.size]) by
    show w5.ownsRow _ _ _ _ _ _
    rw [List.length_append, List.map_append, List.length_map, List.map_map]
    exact hown) hgrow)
   have KG5 := Lib.hid (show Below w.heap.size w w5 from ((KG.out.alloc KG.out.size _).alloc (by have := KG.out.size; simp; omega) _).grown hgrow (by have := KG.out.size; simp; omega) fun k hk => (HD.out.row.own hk.symm).1)
   clear hown hgrow
   go_wp2_with fail
   go_roundw
   case rel => exact ⟨j + 1, _, by have := HJK.out; omega, by rw [List.length_append, HEL.out]; rfl, rfl, HD5.out, KG5.out⟩
   case measure => simp [intOf]; have := HJN.out; omega
  ·have hD : D = [] := HZ.out (p, D) (by rw [show k0 = j by omega]; exact HPJ.out)
   have LD := Lib.hid (lead_nil o p wr (hD ▸ (k1.below KG.out).any) k3)
   obtain ⟨xa, xn, xc⟩ := p
   change wr.cell? ⟨pb, po + j, none⟩ = some (.slice xa xn xc) at hc
   clear hjl hp hcs k1 k2 k3 hjk hj hd hb0 hel hD
   go_wp2_with fail
   with_reducible refine LD.out.mono ?_
   rintro e w1 ⟨rfl, hb⟩
   have KG := Lib.hid (KG.out.trans (hb.mono KG.out.size))
   clear hb LD hc ek
   go_wp2_with fail
   go_ret2
   exact ⟨rfl, KG.out.alloc KG.out.size _⟩
end Go.Proofs.YthcccdjfedbnfaaGreat.Pol
