/-
  Contracts for the laws, over what came in.
-/
import Derived.Test.YthcccdjfedbnfaaGreatDbL
set_option linter.unusedSimpArgs false
set_option linter.unusedVariables false
namespace Go.Proofs.YthcccdjfedbnfaaGreat.Pol
open Go.RowKit Go.Sort Go.Proofs.YthcccdjfedbnfaaGreat.Limb
theorem RS.bxs {w : World} {b : Nat} {ps : List PV} (h : Bxs w b 24 (ps.map PV.v)) : RS w (some ⟨b, 0, none⟩) ps := ⟨fun _ => ⟨b, 0, rfl, fun i p hi => by
 have h := h.cell (i := i) (v := p.v) (by rw [List.getElem?_map, hi]; rfl)
 rw [Nat.zero_add]
 exact h⟩⟩
structure QR (w : World) (g : Nat) (zs : List PV) : Prop where
 c : ∀ (i : Nat) (z : PV), zs[i]? = some z → w.cell? ⟨g, i, none⟩ = some z.v
theorem cell_below {w w' : World} {a : Addr} {v : Value} (h : w.cell? a = some v) (hb : Below w.heap.size w w') : w'.cell? a = some v := (hb.cell (block_lt_of_cell h)).trans h
theorem QR.below {w w' : World} {g : Nat} {zs : List PV} (h : QR w g zs) (hb : Below w.heap.size w w') : QR w' g zs := ⟨fun i z hi => cell_below (h.c i z hi) hb⟩
theorem run_k {o : Int} {ds : List Dv} {n : Nat} {P : List Tm} (hran : ranB o ds n ⟨P, [], List.replicate ds.length []⟩ = true) (ho : o ≤ 2) (p : PV) (a : Option Addr) (c : Nat) (qs : List (PV × List Tm)) (w : World) (hp : KP w p P) (hr : RS w a (qs.map Prod.fst)) (hq : ∀ q ∈ qs, KP w q.1 q.2)
  (hds : ds.map Prod.snd = qs.map Prod.snd) (hn : qs.length ≤ 1000) : Calls Tryz.prog 10 #[.int .u8 o, p.v, .slice a qs.length c] w (DivD w fun s => s = iterS (keyO o) ds n ⟨P, [], List.replicate ds.length []⟩) := by
 have h := divide_k o p P a c qs ds _ _ 1 1 100 100 w ho hp hr hq hds (ran_divP hran) ⟨0, Nat.zero_le _, rfl⟩ hn
 refine h.mono fun e w' h => ?_
 obtain ⟨v, zs, r, s, h1, h2, h3, h4, h5, h6, h7, h8⟩ := h.done fun s t i d hs hl ht hov => by
  obtain ⟨u, hu, x, hx, hno⟩ := hov
  rw [List.mem_singleton.1 hx] at hno
  unfold ranB at hran
  rw [Bool.and_eq_true, Bool.and_eq_true, Bool.and_eq_true] at hran
  obtain ⟨⟨⟨g1, _⟩, g3⟩, _⟩ := hran
  obtain ⟨k, hk, rfl⟩ := hs
  have g4 := List.all_eq_true.1 g1 k (List.mem_range.2 (by omega))
  rw [Bool.and_eq_true, Bool.and_eq_true] at g4
  have g5 := ((tinyP_spec g4.1.1).1 t hl.1).2
  have g6 := List.all_eq_true.1 g3 d (List.mem_of_getElem? ht.1)
  rw [Bool.and_eq_true] at g6
  obtain ⟨a1, a2, a3, a4⟩ := ((tinyP_spec g6.1).1 u hu).2
  obtain ⟨b1, b2, b3, b4⟩ : (t.1.quo d.1.1).le 100 := Mo.quo_le g5
  refine hno ?_
  exact ⟨by show u.1.x + (t.1.quo d.1.1).x ≤ 65535; omega, by show u.1.y + (t.1.quo d.1.1).y ≤ 65535; omega, by show u.1.z + (t.1.quo d.1.1).z ≤ 65535; omega, by show u.1.t + (t.1.quo d.1.1).t ≤ 65535; omega⟩
 exact ⟨v, zs, r, s, h1, h2, h3, h4, h5, ran_end hran h6 h7, h7, h8⟩
theorem DivD.one {w w' : World} {e : Ending} {Inv : DS → Prop} (h : DivD w Inv e w') (h1 : ∀ s, Inv s → s.os.length = 1) : One w (fun Q R => ∃ s, Inv s ∧ s.p = [] ∧ s.os = [Q] ∧ s.r = R) e w' := by
 obtain ⟨v, zs, r, s, rfl, h2, h3, h4, h5, h6, h7, h8⟩ := h
 have hl := h1 s h6
 rw [hl] at h3
 obtain ⟨z, rfl⟩ := List.length_eq_one_iff.1 h3
 obtain ⟨Q, hQ⟩ := List.length_eq_one_iff.1 hl
 obtain ⟨a, c, rfl, _, hc⟩ := h2.row
 obtain ⟨g, rfl, hg⟩ := hc 0 z rfl
 exact ⟨g, c, z, Q, r, s.r, rfl, hg, h4 0 z Q rfl (by rw [hQ]; rfl), h5, ⟨s, h6, h7, hQ, rfl⟩, h8⟩
theorem DivD.two {w w' : World} {e : Ending} {Inv : DS → Prop} (h : DivD w Inv e w') {Q0 Q1 R : List Tm} (h1 : ∀ s, Inv s → s.os = [Q0, Q1] ∧ s.r = R) : ∃ (g c : Nat) (z0 z1 r : PV), e = .returned (.tuple #[.slice (some ⟨g, 0, none⟩) 2 c, r.v, .int .i64 0]) ∧ QR w' g [z0, z1] ∧ DP w' w.heap.size z0 Q0 ∧ DP w' w.heap.size z1 Q1 ∧ DP w' w.heap.size r R ∧ Below w.heap.size w w' := by
 obtain ⟨v, zs, r, s, rfl, h2, h3, h4, h5, h6, h7, h8⟩ := h
 obtain ⟨hl, hr⟩ := h1 s h6
 rw [hl] at h3 h4
 obtain ⟨z0, z1, rfl⟩ : ∃ a b, zs = [a, b] := by
  match zs, h3 with
  | [a, b], _ => exact ⟨a, b, rfl⟩
 obtain ⟨a, c, rfl, _, hc⟩ := h2.row
 obtain ⟨g, rfl, hg⟩ := hc 0 z0 rfl
 refine ⟨g, c, z0, z1, r, rfl, ⟨fun i z hi => ?_⟩, h4 0 z0 Q0 rfl rfl, h4 1 z1 Q1 rfl rfl, by rw [← hr]; exact h5, h8⟩
 obtain ⟨g', e, h⟩ := hc i z hi
 cases e
 exact h
def LeftD (w : World) (J : List Tm → Prop) (e : Ending) (w' : World) : Prop := ∃ (r : PV) (R : List Tm), e = .returned (.tuple #[r.v, .int .i64 0]) ∧ DP w' w.heap.size r R ∧ J R ∧ Below w.heap.size w w'
theorem left_d {o : Int} {p v : Value} {w : World} {Inv : DS → Prop} (h : Calls Tryz.prog 10 #[.int .u8 o, p, v] w (DivD w Inv)) : Calls Tryz.prog 22 #[.int .u8 o, p, v] w (LeftD w fun R => ∃ s, Inv s ∧ s.p = [] ∧ s.r = R) := by
 refine (left_of o p v w (fun r c w' => ∃ (x : PV) (R : List Tm), r = x.v ∧ c = 0 ∧ DP w' w.heap.size x R ∧ ∃ s, Inv s ∧ s.p = [] ∧ s.r = R) (h.mono ?_)).mono ?_
 ·rintro e w' ⟨v, zs, r, s, rfl, _, _, _, h5, h6, h7, h8⟩
  exact ⟨v, r.v, 0, rfl, ⟨r, s.r, rfl, rfl, h5, s, h6, h7, rfl⟩, h8⟩
 ·rintro e w' ⟨r, c, rfl, ⟨x, R, rfl, rfl, h1, h2⟩, h3⟩
  exact ⟨x, R, rfl, h1, h2, h3⟩
theorem pdmul {w : World} {x y : PV} {P Q : List Tm} {n1 k1 e1 n2 k2 e2 : Nat} (hx : KP w x P) (b1 : PC P n1 k1 e1) (hy : KP w y Q) (b2 : PC Q n2 k2 e2) (hk : n1 * (k1 + k2 + 1) ≤ 900000) (_h1 : k1 ≤ 900000) (h2 : k2 ≤ 900000) (hn : n1 * n2 ≤ 1000000) (hn1 : n1 ≤ 1000000) (hn2 : n2 ≤ 1000000) (he : e1 + e2 ≤ 65535) :
  Calls Tryz.prog 13 #[x.v, y.v] w fun e w' => ∃ z : PV, e = .returned z.v ∧ DP w' w.heap.size z (mulP P Q) ∧ Below w.heap.size w w' :=
 dmul x y P Q w (mul_o x y P Q k1 k2 w hx hy (fun t ht => (b1.both t ht).1) (fun t ht => (b2.both t ht).1) (Nat.le_trans (Nat.mul_le_mul_right _ b1.b.len) hk) h2 (Nat.le_trans (Nat.mul_le_mul b1.b.len b2.b.len) hn) (Nat.le_trans b1.b.len hn1) (Nat.le_trans b2.b.len hn2))
  (no_ovf (fun t ht => (b1.both t ht).2) (fun t ht => (b2.both t ht).2) he)
theorem psame5 {w : World} {x y : PV} {P Q : List Tm} {n k e : Nat} (hx : KP w x P) (hy : KP w y Q) (hPQ : P = Q) (b : PC P n k e) (hk : k ≤ 900000) (hn : n ≤ 1000000) : Calls Tryz.prog 17 #[x.v, y.v] w fun e w' => e = .returned (.bool true) ∧ Below w.heap.size w w' :=
 lsame5_k x y P w hx (by rw [hPQ]; exact hy) (fun t ht => (b.both t ht).1.up hk) (Nat.le_trans b.b.len hn)
theorem ran_two {o : Int} {ds : List Dv} {n : Nat} {P D0 D1 Q0 Q1 R : List Tm} {p x0 x1 : PV} {a : Option Addr} {c : Nat} {w : World} (hran : ranB o ds n ⟨P, [], [[], []]⟩ = true) (he : dstate (iterS (keyO o) ds n ⟨P, [], [[], []]⟩) ⟨[], R, [Q0, Q1]⟩ = true) (ho : o ≤ 2) (hp : KP w p P) (hr : RS w a [x0, x1]) (h0 : KP w x0 D0) (h1 : KP w x1 D1) (hds : ds.map Prod.snd = [D0, D1]) :
  Calls Tryz.prog 10 #[.int .u8 o, p.v, .slice a 2 c] w fun e w' => ∃ (g c : Nat) (z0 z1 r : PV), e = .returned (.tuple #[.slice (some ⟨g, 0, none⟩) 2 c, r.v, .int .i64 0]) ∧ QR w' g [z0, z1] ∧ DP w' w.heap.size z0 Q0 ∧ DP w' w.heap.size z1 Q1 ∧ DP w' w.heap.size r R ∧ Below w.heap.size w w' := by
 have hl : ds.length = 2 := by
  have := congrArg List.length hds
  rw [List.length_map] at this
  exact this
 have h := run_k (o := o) (ds := ds) (n := n) (P := P) (by rw [hl]; exact hran) ho p a c [(x0, D0), (x1, D1)] w hp hr (fun q hq => by
  rcases List.mem_cons.1 hq with rfl | hq
  ·exact h0
  ·rw [List.mem_singleton.1 hq]; exact h1) hds (by decide : 2 ≤ 1000)
 rw [hl] at h
 refine h.mono fun e w' h => h.two fun s hs => ?_
 rw [hs, dstate_eq (show dstate (iterS (keyO o) ds n ⟨P, [], List.replicate 2 []⟩) _ = true from he)]
 exact ⟨rfl, rfl⟩
theorem run_one {o : Int} {ds : List Dv} {n : Nat} {P D Q R : List Tm} {p x : PV} {a : Option Addr} {c : Nat} {w : World} (hran : ranB o ds n ⟨P, [], [[]]⟩ = true) (he : dstate (iterS (keyO o) ds n ⟨P, [], [[]]⟩) ⟨[], R, [Q]⟩ = true) (ho : o ≤ 2) (hp : KP w p P) (hr : RS w a [x]) (h0 : KP w x D) (hds : ds.map Prod.snd = [D]) :
  Calls Tryz.prog 10 #[.int .u8 o, p.v, .slice a 1 c] w (DivD w fun s => s = ⟨[], R, [Q]⟩) := by
 have hl : ds.length = 1 := by
  have := congrArg List.length hds
  rw [List.length_map] at this
  exact this
 have h := run_k (o := o) (ds := ds) (n := n) (P := P) (by rw [hl]; exact hran) ho p a c [(x, D)] w hp hr (fun q hq => by rw [List.mem_singleton.1 hq]; exact h0) hds (by decide : 1 ≤ 1000)
 rw [hl, dstate_eq (show dstate (iterS (keyO o) ds n ⟨P, [], List.replicate 1 []⟩) _ = true from he)] at h
 exact h
theorem ran_exact {ds : List Dv} {n : Nat} {P D Q : List Tm} {p x : PV} {w : World} (hran : ranB 0 ds n ⟨P, [], [[]]⟩ = true) (he : dstate (iterS (keyO 0) ds n ⟨P, [], [[]]⟩) ⟨[], [], [Q]⟩ = true) (hp : KP w p P) (h0 : KP w x D) (hds : ds.map Prod.snd = [D]) :
  Calls Tryz.prog 18 #[p.v, x.v] w fun e w' => ∃ z : PV, e = .returned (.tuple #[z.v, .bool true]) ∧ DP w' w.heap.size z Q ∧ Below w.heap.size w w' := by
 refine (exact_t p x w (fun Q' R' => ∃ s : DS, s = ⟨[], [], [Q]⟩ ∧ s.p = [] ∧ s.os = [Q'] ∧ s.r = R') (fun V a hb hr => (run_one hran he (by decide) (hp.below hb) hr (h0.below hb) hds).mono fun e w' h => h.one fun s hs => by rw [hs]; rfl) (fun Q' R' ⟨s, hs, _, _, h3⟩ => by rw [← h3, hs])).mono ?_
 rintro e w' ⟨z, Q', rfl, hz, ⟨s, hs, _, h2, _⟩, hb⟩
 rw [hs] at h2
 injection h2 with h2
 subst h2
 exact ⟨z, rfl, hz, hb⟩
theorem ran_noexact {ds : List Dv} {n : Nat} {P D Q R : List Tm} {p x : PV} {w : World} (hran : ranB 0 ds n ⟨P, [], [[]]⟩ = true) (he : dstate (iterS (keyO 0) ds n ⟨P, [], [[]]⟩) ⟨[], R, [Q]⟩ = true) (hR : R ≠ []) (hp : KP w p P) (h0 : KP w x D) (hds : ds.map Prod.snd = [D]) :
  Calls Tryz.prog 18 #[p.v, x.v] w fun e w' => e = .returned (.tuple #[.slice none 0 0, .bool false]) ∧ Below w.heap.size w w' :=
 exact_f p x w (fun Q' R' => ∃ s : DS, s = ⟨[], R, [Q]⟩ ∧ s.p = [] ∧ s.os = [Q'] ∧ s.r = R') (fun V a hb hr => (run_one hran he (by decide) (hp.below hb) hr (h0.below hb) hds).mono fun e w' h => h.one fun s hs => by rw [hs]; rfl) (fun Q' R' ⟨s, hs, _, _, h3⟩ => by rw [← h3, hs]; exact hR)
theorem ran_left {o : Int} {ds : List Dv} {n : Nat} {P D Q R : List Tm} {p x : PV} {a : Option Addr} {c : Nat} {w : World} (hran : ranB o ds n ⟨P, [], [[]]⟩ = true) (he : dstate (iterS (keyO o) ds n ⟨P, [], [[]]⟩) ⟨[], R, [Q]⟩ = true) (ho : o ≤ 2) (hp : KP w p P) (hr : RS w a [x]) (h0 : KP w x D) (hds : ds.map Prod.snd = [D]) :
  Calls Tryz.prog 22 #[.int .u8 o, p.v, .slice a 1 c] w fun e w' => ∃ r : PV, e = .returned (.tuple #[r.v, .int .i64 0]) ∧ DP w' w.heap.size r R ∧ Below w.heap.size w w' := by
 refine (left_d (run_one hran he ho hp hr h0 hds)).mono ?_
 rintro e w' ⟨r, R', rfl, h1, ⟨s, hs, _, h2⟩, h3⟩
 rw [hs] at h2
 subst h2
 exact ⟨r, rfl, h1, h3⟩
theorem no6_one {o : Int} {P : List Tm} {n k e : Nat} {p : PV} {a : Option Addr} {c : Nat} {w : World} (ho : o ≤ 2) (hp : KP w p P) (b : PC P n k e) (hk : k ≤ 900000) (hn : n ≤ 1000000) (hr : RS w a [⟨none, 0, 0⟩]) :
  Calls Tryz.prog 10 #[.int .u8 o, p.v, .slice a 1 c] w fun e w' => e = .returned (.tuple #[.slice none 0 0, .slice none 0 0, .int .i64 6]) ∧ Below w.heap.size w w' :=
 div_no6 o p a c [(⟨none, 0, 0⟩, [])] 0 w ho (fun w1 h1 => check_k (hp.below h1) (fun t ht => (b.both t ht).1.up hk) (by have := b.b.len; rw [hp.len]; omega)) hr (by decide) (by decide)
  (fun q hq => by rw [List.mem_singleton.1 hq]; exact ⟨KP.nil _ _ _, fun t ht => (by cases ht), by decide⟩) (fun i q hi => absurd hi (Nat.not_lt_zero i)) (fun q hq => by cases hq; rfl)
theorem exact_nil {P : List Tm} {n k e : Nat} {p : PV} {w : World} (hp : KP w p P) (b : PC P n k e) (hk : k ≤ 900000) (hn : n ≤ 1000000) :
  Calls Tryz.prog 18 #[p.v, .slice none 0 0] w fun e w' => e = .returned (.tuple #[.slice none 0 0, .bool false]) ∧ Below w.heap.size w w' :=
 exact_no p ⟨none, 0, 0⟩ w 6 (by decide) fun V a hb hr => no6_one (by decide) (hp.below hb) b hk hn hr
set_option maxRecDepth 100000 in
set_option maxHeartbeats 16000000 in
theorem dalive (w : World) : Calls Tryz.prog 8 #[] w fun e w' => e = .returned (.bool true) ∧ Below w.heap.size w w' := by
 have KG := Lib.hid (Below.refl w.heap.size w)
 obtain ⟨p1, hp1⟩ : ∃ z : List Tm, z = letP 0 := ⟨_, rfl⟩
 have Hp1 := Lib.hid hp1
 have PCp1 := Lib.hid (show PC p1 1 3 1 by rw [hp1]; exact PC.letter 0)
 clear hp1
 obtain ⟨p5, hp5⟩ : ∃ z : List Tm, z = letP 1 := ⟨_, rfl⟩
 have Hp5 := Lib.hid hp5
 have PCp5 := Lib.hid (show PC p5 1 3 1 by rw [hp5]; exact PC.letter 1)
 clear hp5
 obtain ⟨q9, hq9⟩ : ∃ z : Rat, z = ((1 : Int) : Rat) := ⟨_, rfl⟩
 have Hq9 := Lib.hid hq9
 have LQq9 := Lib.hid (show LQ q9 3 by rw [hq9]; exact LQ.int (by decide) (by decide))
 clear hq9
 obtain ⟨p13, hp13⟩ : ∃ z : List Tm, z = nf [(Mo.one, q9)] := ⟨_, rfl⟩
 have Hp13 := Lib.hid hp13
 have PCp13 := Lib.hid (show PC p13 1 4 0 by rw [hp13]; exact PC.of LQq9.out)
 clear hp13
 obtain ⟨p17, hp17⟩ : ∃ z : List Tm, z = mulP p1 p1 := ⟨_, rfl⟩
 have Hp17 := Lib.hid hp17
 have PCp17 := Lib.hid (show PC p17 1 7 2 by rw [hp17]; exact PCp1.out.mul PCp1.out)
 clear hp17
 obtain ⟨p21, hp21⟩ : ∃ z : List Tm, z = mulP p17 p5 := ⟨_, rfl⟩
 have Hp21 := Lib.hid hp21
 have PCp21 := Lib.hid (show PC p21 1 11 3 by rw [hp21]; exact PCp17.out.mul PCp5.out)
 clear hp21
 obtain ⟨p25, hp25⟩ : ∃ z : List Tm, z = mulP p5 p5 := ⟨_, rfl⟩
 have Hp25 := Lib.hid hp25
 have PCp25 := Lib.hid (show PC p25 1 7 2 by rw [hp25]; exact PCp5.out.mul PCp5.out)
 clear hp25
 obtain ⟨p29, hp29⟩ : ∃ z : List Tm, z = mulP p1 p25 := ⟨_, rfl⟩
 have Hp29 := Lib.hid hp29
 have PCp29 := Lib.hid (show PC p29 1 11 3 by rw [hp29]; exact PCp1.out.mul PCp25.out)
 clear hp29
 obtain ⟨p33, hp33⟩ : ∃ z : List Tm, z = addP p21 p29 := ⟨_, rfl⟩
 have Hp33 := Lib.hid hp33
 have PCp33 := Lib.hid (show PC p33 2 23 3 by rw [hp33]; exact PCp21.out.add PCp29.out 11 3 (by decide) (by decide) (by decide) (by decide))
 clear hp33
 obtain ⟨p40, hp40⟩ : ∃ z : List Tm, z = addP p33 p25 := ⟨_, rfl⟩
 have Hp40 := Lib.hid hp40
 have PCp40 := Lib.hid (show PC p40 3 47 3 by rw [hp40]; exact PCp33.out.add PCp25.out 23 3 (by decide) (by decide) (by decide) (by decide))
 clear hp40
 obtain ⟨p44, hp44⟩ : ∃ z : List Tm, z = mulP p1 p5 := ⟨_, rfl⟩
 have Hp44 := Lib.hid hp44
 have PCp44 := Lib.hid (show PC p44 1 7 2 by rw [hp44]; exact PCp1.out.mul PCp5.out)
 clear hp44
 obtain ⟨p48, hp48⟩ : ∃ z : List Tm, z = subP p44 p13 := ⟨_, rfl⟩
 have Hp48 := Lib.hid hp48
 have PCp48 := Lib.hid (show PC p48 2 15 2 by rw [hp48]; exact PCp44.out.sub PCp13.out 7 2 (by decide) (by decide) (by decide) (by decide))
 clear hp48
 obtain ⟨p55, hp55⟩ : ∃ z : List Tm, z = subP p25 p13 := ⟨_, rfl⟩
 have Hp55 := Lib.hid hp55
 have PCp55 := Lib.hid (show PC p55 2 15 2 by rw [hp55]; exact PCp25.out.sub PCp13.out 7 2 (by decide) (by decide) (by decide) (by decide))
 clear hp55
 obtain ⟨p61, hp61⟩ : ∃ z : List Tm, z = addP p1 p5 := ⟨_, rfl⟩
 have Hp61 := Lib.hid hp61
 have PCp61 := Lib.hid (show PC p61 2 7 1 by rw [hp61]; exact PCp1.out.add PCp5.out 3 1 (by decide) (by decide) (by decide) (by decide))
 clear hp61
 obtain ⟨p62, hp62⟩ : ∃ z : List Tm, z = addP p61 p13 := ⟨_, rfl⟩
 have Hp62 := Lib.hid hp62
 have PCp62 := Lib.hid (show PC p62 3 15 1 by rw [hp62]; exact PCp61.out.add PCp13.out 7 1 (by decide) (by decide) (by decide) (by decide))
 clear hp62
 obtain ⟨p82, hp82⟩ : ∃ z : List Tm, z = subP p17 p13 := ⟨_, rfl⟩
 have Hp82 := Lib.hid hp82
 have PCp82 := Lib.hid (show PC p82 2 15 2 by rw [hp82]; exact PCp17.out.sub PCp13.out 7 2 (by decide) (by decide) (by decide) (by decide))
 clear hp82
 obtain ⟨p86, hp86⟩ : ∃ z : List Tm, z = subP p1 p13 := ⟨_, rfl⟩
 have Hp86 := Lib.hid hp86
 have PCp86 := Lib.hid (show PC p86 2 15 1 by rw [hp86]; exact PCp1.out.sub PCp13.out 7 1 (by decide) (by decide) (by decide) (by decide))
 clear hp86
 obtain ⟨p90, hp90⟩ : ∃ z : List Tm, z = addP p1 p13 := ⟨_, rfl⟩
 have Hp90 := Lib.hid hp90
 have PCp90 := Lib.hid (show PC p90 2 9 1 by rw [hp90]; exact PCp1.out.add PCp13.out 4 1 (by decide) (by decide) (by decide) (by decide))
 clear hp90
 obtain ⟨p102, hp102⟩ : ∃ z : List Tm, z = subP p1 p5 := ⟨_, rfl⟩
 have Hp102 := Lib.hid hp102
 have PCp102 := Lib.hid (show PC p102 2 13 1 by rw [hp102]; exact PCp1.out.sub PCp5.out 6 1 (by decide) (by decide) (by decide) (by decide))
 clear hp102
 go_enter Tryz.func8, Tryz.ntmps8
 go_wp2_with fail
 have CT := Lib.hid (show Calls Tryz.prog 24 #[.int .i64 0] w _ from letter_k 0 (by decide) w)
 rw [show letP 0 = p1 from Hp1.out.symm] at CT
 with_reducible refine CT.out.mono ?_
 rintro e w2 ⟨z3, rfl, hN4, hb⟩
 have N4 := Lib.hid hN4
 clear hN4
 clear CT
 have KG := Lib.hid (KG.out.trans (hb.mono KG.out.size))
 clear hb
 go_wp2_with fail
 have CT := Lib.hid (show Calls Tryz.prog 24 #[.int .i64 1] w2 _ from letter_k 1 (by decide) w2)
 rw [show letP 1 = p5 from Hp5.out.symm] at CT
 with_reducible refine CT.out.mono ?_
 rintro e w6 ⟨z7, rfl, hN8, hb⟩
 have N8 := Lib.hid hN8
 clear hN8
 clear CT
 have N4 := Lib.hid (N4.out.below hb)
 have KG := Lib.hid (KG.out.trans (hb.mono KG.out.size))
 clear hb
 go_wp2_with fail
 have CT := Lib.hid (qof 1 w6 (by decide) (by decide))
 rw [show ((1 : Int) : Rat) = q9 from Hq9.out.symm] at CT
 with_reducible refine CT.out.mono ?_
 rintro e w10 ⟨x11, rfl, hN12, hb⟩
 have N12 := Lib.hid hN12
 clear hN12
 clear CT
 have N4 := Lib.hid (N4.out.below hb)
 have N8 := Lib.hid (N8.out.below hb)
 have KG := Lib.hid (KG.out.trans (hb.mono KG.out.size))
 clear hb
 go_wp2_with fail
 have CT := Lib.hid (pof (N12.out).k.any (((N12.out).k).len LQq9.out (by decide : _ ≤ 900000)) LQq9.out (by decide))
 rw [show nf [(Mo.one, q9)] = p13 from Hp13.out.symm] at CT
 with_reducible refine CT.out.mono ?_
 rintro e w14 ⟨z15, rfl, hN16, hb⟩
 have N16 := Lib.hid hN16
 clear hN16
 clear CT
 have N4 := Lib.hid (N4.out.below hb)
 have N8 := Lib.hid (N8.out.below hb)
 clear N12
 have KG := Lib.hid (KG.out.trans (hb.mono KG.out.size))
 clear hb
 go_wp2_with fail
 have CT := Lib.hid (pdmul N4.out.k PCp1.out N4.out.k PCp1.out (by decide) (by decide) (by decide) (by decide) (by decide) (by decide) (by decide))
 rw [show mulP p1 p1 = p17 from Hp17.out.symm] at CT
 with_reducible refine CT.out.mono ?_
 rintro e w18 ⟨z19, rfl, hN20, hb⟩
 have N20 := Lib.hid hN20
 clear hN20
 clear CT
 have N4 := Lib.hid (N4.out.below hb)
 have N8 := Lib.hid (N8.out.below hb)
 have N16 := Lib.hid (N16.out.below hb)
 have KG := Lib.hid (KG.out.trans (hb.mono KG.out.size))
 clear hb
 go_wp2_with fail
 have CT := Lib.hid (pdmul N20.out.k PCp17.out N8.out.k PCp5.out (by decide) (by decide) (by decide) (by decide) (by decide) (by decide) (by decide))
 rw [show mulP p17 p5 = p21 from Hp21.out.symm] at CT
 with_reducible refine CT.out.mono ?_
 rintro e w22 ⟨z23, rfl, hN24, hb⟩
 have N24 := Lib.hid hN24
 clear hN24
 clear CT
 have N4 := Lib.hid (N4.out.below hb)
 have N8 := Lib.hid (N8.out.below hb)
 have N16 := Lib.hid (N16.out.below hb)
 clear N20
 have KG := Lib.hid (KG.out.trans (hb.mono KG.out.size))
 clear hb
 go_wp2_with fail
 have CT := Lib.hid (pdmul N8.out.k PCp5.out N8.out.k PCp5.out (by decide) (by decide) (by decide) (by decide) (by decide) (by decide) (by decide))
 rw [show mulP p5 p5 = p25 from Hp25.out.symm] at CT
 with_reducible refine CT.out.mono ?_
 rintro e w26 ⟨z27, rfl, hN28, hb⟩
 have N28 := Lib.hid hN28
 clear hN28
 clear CT
 have N4 := Lib.hid (N4.out.below hb)
 have N8 := Lib.hid (N8.out.below hb)
 have N16 := Lib.hid (N16.out.below hb)
 have N24 := Lib.hid (N24.out.below hb)
 have KG := Lib.hid (KG.out.trans (hb.mono KG.out.size))
 clear hb
 go_wp2_with fail
 have CT := Lib.hid (pdmul N4.out.k PCp1.out N28.out.k PCp25.out (by decide) (by decide) (by decide) (by decide) (by decide) (by decide) (by decide))
 rw [show mulP p1 p25 = p29 from Hp29.out.symm] at CT
 with_reducible refine CT.out.mono ?_
 rintro e w30 ⟨z31, rfl, hN32, hb⟩
 have N32 := Lib.hid hN32
 clear hN32
 clear CT
 have N4 := Lib.hid (N4.out.below hb)
 have N8 := Lib.hid (N8.out.below hb)
 have N16 := Lib.hid (N16.out.below hb)
 have N24 := Lib.hid (N24.out.below hb)
 clear N28
 have KG := Lib.hid (KG.out.trans (hb.mono KG.out.size))
 clear hb
 go_wp2_with fail
 have CT := Lib.hid (padd N24.out.k PCp21.out N32.out.k PCp29.out 11 (by decide) (by decide) (by decide) (by decide))
 rw [show addP p21 p29 = p33 from Hp33.out.symm] at CT
 with_reducible refine CT.out.mono ?_
 rintro e w34 ⟨z35, rfl, hN36, hb⟩
 have N36 := Lib.hid hN36
 clear hN36
 clear CT
 have N4 := Lib.hid (N4.out.below hb)
 have N8 := Lib.hid (N8.out.below hb)
 have N16 := Lib.hid (N16.out.below hb)
 clear N24
 clear N32
 have KG := Lib.hid (KG.out.trans (hb.mono KG.out.size))
 clear hb
 go_wp2_with fail
 have CT := Lib.hid (pdmul N8.out.k PCp5.out N8.out.k PCp5.out (by decide) (by decide) (by decide) (by decide) (by decide) (by decide) (by decide))
 rw [show mulP p5 p5 = p25 from Hp25.out.symm] at CT
 with_reducible refine CT.out.mono ?_
 rintro e w37 ⟨z38, rfl, hN39, hb⟩
 have N39 := Lib.hid hN39
 clear hN39
 clear CT
 have N4 := Lib.hid (N4.out.below hb)
 have N8 := Lib.hid (N8.out.below hb)
 have N16 := Lib.hid (N16.out.below hb)
 have N36 := Lib.hid (N36.out.below hb)
 have KG := Lib.hid (KG.out.trans (hb.mono KG.out.size))
 clear hb
 go_wp2_with fail
 have CT := Lib.hid (padd N36.out.k PCp33.out N39.out.k PCp25.out 23 (by decide) (by decide) (by decide) (by decide))
 rw [show addP p33 p25 = p40 from Hp40.out.symm] at CT
 with_reducible refine CT.out.mono ?_
 rintro e w41 ⟨z42, rfl, hN43, hb⟩
 have N43 := Lib.hid hN43
 clear hN43
 clear CT
 have N4 := Lib.hid (N4.out.below hb)
 have N8 := Lib.hid (N8.out.below hb)
 have N16 := Lib.hid (N16.out.below hb)
 clear N36
 clear N39
 have KG := Lib.hid (KG.out.trans (hb.mono KG.out.size))
 clear hb
 go_wp2_with fail
 have CT := Lib.hid (pdmul N4.out.k PCp1.out N8.out.k PCp5.out (by decide) (by decide) (by decide) (by decide) (by decide) (by decide) (by decide))
 rw [show mulP p1 p5 = p44 from Hp44.out.symm] at CT
 with_reducible refine CT.out.mono ?_
 rintro e w45 ⟨z46, rfl, hN47, hb⟩
 have N47 := Lib.hid hN47
 clear hN47
 clear CT
 have N4 := Lib.hid (N4.out.below hb)
 have N8 := Lib.hid (N8.out.below hb)
 have N16 := Lib.hid (N16.out.below hb)
 have N43 := Lib.hid (N43.out.below hb)
 have KG := Lib.hid (KG.out.trans (hb.mono KG.out.size))
 clear hb
 go_wp2_with fail
 have CT := Lib.hid (psub N47.out.k PCp44.out N16.out.k PCp13.out 7 (by decide) (by decide) (by decide) (by decide) (by decide) (by decide))
 rw [show subP p44 p13 = p48 from Hp48.out.symm] at CT
 with_reducible refine CT.out.mono ?_
 rintro e w49 ⟨z50, rfl, hN51, hb⟩
 have N51 := Lib.hid hN51
 clear hN51
 clear CT
 have N4 := Lib.hid (N4.out.below hb)
 have N8 := Lib.hid (N8.out.below hb)
 have N16 := Lib.hid (N16.out.below hb)
 have N43 := Lib.hid (N43.out.below hb)
 clear N47
 have KG := Lib.hid (KG.out.trans (hb.mono KG.out.size))
 clear hb
 go_wp2_with fail
 have CT := Lib.hid (pdmul N8.out.k PCp5.out N8.out.k PCp5.out (by decide) (by decide) (by decide) (by decide) (by decide) (by decide) (by decide))
 rw [show mulP p5 p5 = p25 from Hp25.out.symm] at CT
 with_reducible refine CT.out.mono ?_
 rintro e w52 ⟨z53, rfl, hN54, hb⟩
 have N54 := Lib.hid hN54
 clear hN54
 clear CT
 have N4 := Lib.hid (N4.out.below hb)
 have N8 := Lib.hid (N8.out.below hb)
 have N16 := Lib.hid (N16.out.below hb)
 have N43 := Lib.hid (N43.out.below hb)
 have N51 := Lib.hid (N51.out.below hb)
 have KG := Lib.hid (KG.out.trans (hb.mono KG.out.size))
 clear hb
 go_wp2_with fail
 have CT := Lib.hid (psub N54.out.k PCp25.out N16.out.k PCp13.out 7 (by decide) (by decide) (by decide) (by decide) (by decide) (by decide))
 rw [show subP p25 p13 = p55 from Hp55.out.symm] at CT
 with_reducible refine CT.out.mono ?_
 rintro e w56 ⟨z57, rfl, hN58, hb⟩
 have N58 := Lib.hid hN58
 clear hN58
 clear CT
 have N4 := Lib.hid (N4.out.below hb)
 have N8 := Lib.hid (N8.out.below hb)
 have N16 := Lib.hid (N16.out.below hb)
 have N43 := Lib.hid (N43.out.below hb)
 have N51 := Lib.hid (N51.out.below hb)
 clear N54
 have KG := Lib.hid (KG.out.trans (hb.mono KG.out.size))
 clear hb
 go_wp2_with fail
 obtain ⟨v60, hV⟩ : ∃ V, V = w56.alloc (.cells #[.slice z50.a z50.n z50.c, .slice z57.a z57.n z57.c] 24) := ⟨_, rfl⟩
 have hbV : Below w56.heap.size w56 v60 := by rw [hV]; exact ((Below.refl _ _).alloc (Nat.le_refl _) _)
 have BX59 := Lib.hid (show Bxs v60 (w56.heap.size) 24 [.slice z50.a z50.n z50.c, .slice z57.a z57.n z57.c] by have h := Bxs.new (w56) 24 [.slice z50.a z50.n z50.c, .slice z57.a z57.n z57.c]; rw [hV]; exact h)
 rw [show w56.alloc (.cells #[.slice z50.a z50.n z50.c, .slice z57.a z57.n z57.c] 24) = v60 from hV.symm]
 have N4 := Lib.hid (N4.out.below hbV)
 have N8 := Lib.hid (N8.out.below hbV)
 have N16 := Lib.hid (N16.out.below hbV)
 have N43 := Lib.hid (N43.out.below hbV)
 have N51 := Lib.hid (N51.out.below hbV)
 have N58 := Lib.hid (N58.out.below hbV)
 have KG := Lib.hid (KG.out.trans (hbV.mono KG.out.size))
 clear hV hbV
 have CT := Lib.hid (show Calls Tryz.prog 10 #[.int .u8 0, .slice z42.a z42.n z42.c, .slice (some ⟨w56.heap.size, 0, none⟩) 2 2] v60 _ from ran_two (Q0 := p61) (Q1 := p13) (R := p62) (ds := ds1) (n := 6) (by simp only [Hp62.out, Hp61.out, Hp55.out, Hp48.out, Hp44.out, Hp40.out, Hp33.out, Hp29.out, Hp25.out, Hp21.out, Hp17.out, Hp13.out, Hq9.out, Hp5.out, Hp1.out]; decide +kernel) (by simp only [Hp62.out, Hp61.out, Hp55.out, Hp48.out, Hp44.out, Hp40.out, Hp33.out, Hp29.out, Hp25.out, Hp21.out, Hp17.out, Hp13.out, Hq9.out, Hp5.out, Hp1.out]; decide +kernel) (by decide) N43.out.k (RS.bxs (ps := [z50, z57]) BX59.out) N51.out.k N58.out.k (by simp only [Hp62.out, Hp61.out, Hp55.out, Hp48.out, Hp44.out, Hp40.out, Hp33.out, Hp29.out, Hp25.out, Hp21.out, Hp17.out, Hp13.out, Hq9.out, Hp5.out, Hp1.out]; decide +kernel))
 with_reducible refine CT.out.mono ?_
 rintro e w63 ⟨g64, c65, z66, z67, z68, rfl, hN69, hN70, hN71, hN72, hb⟩
 have N69 := Lib.hid hN69
 clear hN69
 have N70 := Lib.hid hN70
 clear hN70
 have N71 := Lib.hid hN71
 clear hN71
 have N72 := Lib.hid hN72
 clear hN72
 clear CT
 have N4 := Lib.hid (N4.out.below hb)
 have N8 := Lib.hid (N8.out.below hb)
 have N16 := Lib.hid (N16.out.below hb)
 clear N43
 clear N51
 clear N58
 clear BX59
 have KG := Lib.hid (KG.out.trans (hb.mono KG.out.size))
 clear hb
 go_wp2_with fail
 obtain ⟨v74, hV⟩ : ∃ V, V = w63.alloc (.cells #[(.slice none 0 0)] 24) := ⟨_, rfl⟩
 have hbV : Below w63.heap.size w63 v74 := by rw [hV]; exact ((Below.refl _ _).alloc (Nat.le_refl _) _)
 have BX73 := Lib.hid (show Bxs v74 (w63.heap.size) 24 [(.slice none 0 0)] by have h := Bxs.new (w63) 24 [(.slice none 0 0)]; rw [hV]; exact h)
 rw [show w63.alloc (.cells #[(.slice none 0 0)] 24) = v74 from hV.symm]
 have N4 := Lib.hid (N4.out.below hbV)
 have N8 := Lib.hid (N8.out.below hbV)
 have N16 := Lib.hid (N16.out.below hbV)
 have N69 := Lib.hid (N69.out.below hbV)
 have N70 := Lib.hid (N70.out.below hbV)
 have N71 := Lib.hid (N71.out.below hbV)
 have N72 := Lib.hid (N72.out.below hbV)
 have KG := Lib.hid (KG.out.trans (hbV.mono KG.out.size))
 clear hV hbV
 have CT := Lib.hid (show Calls Tryz.prog 10 #[.int .u8 0, .slice z3.a z3.n z3.c, .slice (some ⟨w63.heap.size, 0, none⟩) 1 1] v74 _ from no6_one (by decide) N4.out.k PCp1.out (by decide) (by decide) (RS.bxs (ps := [⟨none, 0, 0⟩]) BX73.out))
 with_reducible refine CT.out.mono ?_
 rintro e w75 ⟨rfl, hb⟩
 clear CT
 have N4 := Lib.hid (N4.out.below hb)
 have N8 := Lib.hid (N8.out.below hb)
 have N16 := Lib.hid (N16.out.below hb)
 have N69 := Lib.hid (N69.out.below hb)
 have N70 := Lib.hid (N70.out.below hb)
 have N71 := Lib.hid (N71.out.below hb)
 have N72 := Lib.hid (N72.out.below hb)
 clear BX73
 have KG := Lib.hid (KG.out.trans (hb.mono KG.out.size))
 clear hb
 go_wp2_with fail
 obtain ⟨v77, hV⟩ : ∃ V, V = w75.alloc (.cells #[.slice z7.a z7.n z7.c] 24) := ⟨_, rfl⟩
 have hbV : Below w75.heap.size w75 v77 := by rw [hV]; exact ((Below.refl _ _).alloc (Nat.le_refl _) _)
 have BX76 := Lib.hid (show Bxs v77 (w75.heap.size) 24 [.slice z7.a z7.n z7.c] by have h := Bxs.new (w75) 24 [.slice z7.a z7.n z7.c]; rw [hV]; exact h)
 rw [show w75.alloc (.cells #[.slice z7.a z7.n z7.c] 24) = v77 from hV.symm]
 have N4 := Lib.hid (N4.out.below hbV)
 have N8 := Lib.hid (N8.out.below hbV)
 have N16 := Lib.hid (N16.out.below hbV)
 have N69 := Lib.hid (N69.out.below hbV)
 have N70 := Lib.hid (N70.out.below hbV)
 have N71 := Lib.hid (N71.out.below hbV)
 have N72 := Lib.hid (N72.out.below hbV)
 have KG := Lib.hid (KG.out.trans (hbV.mono KG.out.size))
 clear hV hbV
 clear BX76
 have CT := Lib.hid (show Calls Tryz.prog 10 #[.int .u8 3, .slice z3.a z3.n z3.c, .slice (some ⟨w75.heap.size, 0, none⟩) 1 1] v77 _ from div_no1 3 z3 _ v77 (by decide))
 with_reducible refine CT.out.mono ?_
 rintro e w78 ⟨rfl, hb⟩
 clear CT
 have N4 := Lib.hid (N4.out.below hb)
 have N8 := Lib.hid (N8.out.below hb)
 have N16 := Lib.hid (N16.out.below hb)
 have N69 := Lib.hid (N69.out.below hb)
 have N70 := Lib.hid (N70.out.below hb)
 have N71 := Lib.hid (N71.out.below hb)
 have N72 := Lib.hid (N72.out.below hb)
 have KG := Lib.hid (KG.out.trans (hb.mono KG.out.size))
 clear hb
 go_wp2_with fail
 have CT := Lib.hid (pdmul N4.out.k PCp1.out N4.out.k PCp1.out (by decide) (by decide) (by decide) (by decide) (by decide) (by decide) (by decide))
 rw [show mulP p1 p1 = p17 from Hp17.out.symm] at CT
 with_reducible refine CT.out.mono ?_
 rintro e w79 ⟨z80, rfl, hN81, hb⟩
 have N81 := Lib.hid hN81
 clear hN81
 clear CT
 have N4 := Lib.hid (N4.out.below hb)
 have N8 := Lib.hid (N8.out.below hb)
 have N16 := Lib.hid (N16.out.below hb)
 have N69 := Lib.hid (N69.out.below hb)
 have N70 := Lib.hid (N70.out.below hb)
 have N71 := Lib.hid (N71.out.below hb)
 have N72 := Lib.hid (N72.out.below hb)
 have KG := Lib.hid (KG.out.trans (hb.mono KG.out.size))
 clear hb
 go_wp2_with fail
 have CT := Lib.hid (psub N81.out.k PCp17.out N16.out.k PCp13.out 7 (by decide) (by decide) (by decide) (by decide) (by decide) (by decide))
 rw [show subP p17 p13 = p82 from Hp82.out.symm] at CT
 with_reducible refine CT.out.mono ?_
 rintro e w83 ⟨z84, rfl, hN85, hb⟩
 have N85 := Lib.hid hN85
 clear hN85
 clear CT
 have N4 := Lib.hid (N4.out.below hb)
 have N8 := Lib.hid (N8.out.below hb)
 have N16 := Lib.hid (N16.out.below hb)
 have N69 := Lib.hid (N69.out.below hb)
 have N70 := Lib.hid (N70.out.below hb)
 have N71 := Lib.hid (N71.out.below hb)
 have N72 := Lib.hid (N72.out.below hb)
 clear N81
 have KG := Lib.hid (KG.out.trans (hb.mono KG.out.size))
 clear hb
 go_wp2_with fail
 have CT := Lib.hid (psub N4.out.k PCp1.out N16.out.k PCp13.out 7 (by decide) (by decide) (by decide) (by decide) (by decide) (by decide))
 rw [show subP p1 p13 = p86 from Hp86.out.symm] at CT
 with_reducible refine CT.out.mono ?_
 rintro e w87 ⟨z88, rfl, hN89, hb⟩
 have N89 := Lib.hid hN89
 clear hN89
 clear CT
 have N4 := Lib.hid (N4.out.below hb)
 have N8 := Lib.hid (N8.out.below hb)
 have N16 := Lib.hid (N16.out.below hb)
 have N69 := Lib.hid (N69.out.below hb)
 have N70 := Lib.hid (N70.out.below hb)
 have N71 := Lib.hid (N71.out.below hb)
 have N72 := Lib.hid (N72.out.below hb)
 have N85 := Lib.hid (N85.out.below hb)
 have KG := Lib.hid (KG.out.trans (hb.mono KG.out.size))
 clear hb
 go_wp2_with fail
 have CT := Lib.hid (show Calls Tryz.prog 18 #[.slice z84.a z84.n z84.c, .slice z88.a z88.n z88.c] w87 _ from ran_exact (Q := p90) (ds := [((⟨1, 0, 0, 0⟩, nQ (1)), [(⟨1, 0, 0, 0⟩, nQ (1)), (⟨0, 0, 0, 0⟩, nQ (-1))])]) (n := 2) (by simp only [Hp90.out, Hp86.out, Hp82.out, Hp62.out, Hp61.out, Hp55.out, Hp48.out, Hp44.out, Hp40.out, Hp33.out, Hp29.out, Hp25.out, Hp21.out, Hp17.out, Hp13.out, Hq9.out, Hp5.out, Hp1.out]; decide +kernel) (by simp only [Hp90.out, Hp86.out, Hp82.out, Hp62.out, Hp61.out, Hp55.out, Hp48.out, Hp44.out, Hp40.out, Hp33.out, Hp29.out, Hp25.out, Hp21.out, Hp17.out, Hp13.out, Hq9.out, Hp5.out, Hp1.out]; decide +kernel) N85.out.k N89.out.k (by simp only [Hp90.out, Hp86.out, Hp82.out, Hp62.out, Hp61.out, Hp55.out, Hp48.out, Hp44.out, Hp40.out, Hp33.out, Hp29.out, Hp25.out, Hp21.out, Hp17.out, Hp13.out, Hq9.out, Hp5.out, Hp1.out]; decide +kernel))
 with_reducible refine CT.out.mono ?_
 rintro e w91 ⟨z92, rfl, hN93, hb⟩
 have N93 := Lib.hid hN93
 clear hN93
 clear CT
 have N4 := Lib.hid (N4.out.below hb)
 have N8 := Lib.hid (N8.out.below hb)
 have N16 := Lib.hid (N16.out.below hb)
 have N69 := Lib.hid (N69.out.below hb)
 have N70 := Lib.hid (N70.out.below hb)
 have N71 := Lib.hid (N71.out.below hb)
 have N72 := Lib.hid (N72.out.below hb)
 clear N85
 clear N89
 have KG := Lib.hid (KG.out.trans (hb.mono KG.out.size))
 clear hb
 go_wp2_with fail
 have CT := Lib.hid (padd N4.out.k PCp1.out N16.out.k PCp13.out 4 (by decide) (by decide) (by decide) (by decide))
 rw [show addP p1 p13 = p90 from Hp90.out.symm] at CT
 with_reducible refine CT.out.mono ?_
 rintro e w94 ⟨z95, rfl, hN96, hb⟩
 have N96 := Lib.hid hN96
 clear hN96
 clear CT
 have N4 := Lib.hid (N4.out.below hb)
 have N8 := Lib.hid (N8.out.below hb)
 have N16 := Lib.hid (N16.out.below hb)
 have N69 := Lib.hid (N69.out.below hb)
 have N70 := Lib.hid (N70.out.below hb)
 have N71 := Lib.hid (N71.out.below hb)
 have N72 := Lib.hid (N72.out.below hb)
 have N93 := Lib.hid (N93.out.below hb)
 have KG := Lib.hid (KG.out.trans (hb.mono KG.out.size))
 clear hb
 go_wp2_with fail
 have CT := Lib.hid (show Calls Tryz.prog 18 #[.slice z3.a z3.n z3.c, .slice z95.a z95.n z95.c] w94 _ from ran_noexact (Q := [(⟨0, 0, 0, 0⟩, nQ (1))]) (R := [(⟨0, 0, 0, 0⟩, nQ (-1))]) (ds := [((⟨1, 0, 0, 0⟩, nQ (1)), [(⟨1, 0, 0, 0⟩, nQ (1)), (⟨0, 0, 0, 0⟩, nQ (1))])]) (n := 2) (by simp only [Hp90.out, Hp86.out, Hp82.out, Hp62.out, Hp61.out, Hp55.out, Hp48.out, Hp44.out, Hp40.out, Hp33.out, Hp29.out, Hp25.out, Hp21.out, Hp17.out, Hp13.out, Hq9.out, Hp5.out, Hp1.out]; decide +kernel) (by simp only [Hp90.out, Hp86.out, Hp82.out, Hp62.out, Hp61.out, Hp55.out, Hp48.out, Hp44.out, Hp40.out, Hp33.out, Hp29.out, Hp25.out, Hp21.out, Hp17.out, Hp13.out, Hq9.out, Hp5.out, Hp1.out]; decide +kernel) (by decide) N4.out.k N96.out.k (by simp only [Hp90.out, Hp86.out, Hp82.out, Hp62.out, Hp61.out, Hp55.out, Hp48.out, Hp44.out, Hp40.out, Hp33.out, Hp29.out, Hp25.out, Hp21.out, Hp17.out, Hp13.out, Hq9.out, Hp5.out, Hp1.out]; decide +kernel))
 with_reducible refine CT.out.mono ?_
 rintro e w97 ⟨rfl, hb⟩
 clear CT
 have N4 := Lib.hid (N4.out.below hb)
 have N8 := Lib.hid (N8.out.below hb)
 have N16 := Lib.hid (N16.out.below hb)
 have N69 := Lib.hid (N69.out.below hb)
 have N70 := Lib.hid (N70.out.below hb)
 have N71 := Lib.hid (N71.out.below hb)
 have N72 := Lib.hid (N72.out.below hb)
 have N93 := Lib.hid (N93.out.below hb)
 clear N96
 have KG := Lib.hid (KG.out.trans (hb.mono KG.out.size))
 clear hb
 go_wp2_with fail
 have CT := Lib.hid (show Calls Tryz.prog 18 #[.slice z3.a z3.n z3.c, .slice none 0 0] w97 _ from exact_nil N4.out.k PCp1.out (by decide) (by decide))
 with_reducible refine CT.out.mono ?_
 rintro e w98 ⟨rfl, hb⟩
 clear CT
 have N4 := Lib.hid (N4.out.below hb)
 have N8 := Lib.hid (N8.out.below hb)
 have N16 := Lib.hid (N16.out.below hb)
 have N69 := Lib.hid (N69.out.below hb)
 have N70 := Lib.hid (N70.out.below hb)
 have N71 := Lib.hid (N71.out.below hb)
 have N72 := Lib.hid (N72.out.below hb)
 have N93 := Lib.hid (N93.out.below hb)
 have KG := Lib.hid (KG.out.trans (hb.mono KG.out.size))
 clear hb
 go_wp2_with fail
 have CT := Lib.hid (pdmul N4.out.k PCp1.out N4.out.k PCp1.out (by decide) (by decide) (by decide) (by decide) (by decide) (by decide) (by decide))
 rw [show mulP p1 p1 = p17 from Hp17.out.symm] at CT
 with_reducible refine CT.out.mono ?_
 rintro e w99 ⟨z100, rfl, hN101, hb⟩
 have N101 := Lib.hid hN101
 clear hN101
 clear CT
 have N4 := Lib.hid (N4.out.below hb)
 have N8 := Lib.hid (N8.out.below hb)
 have N16 := Lib.hid (N16.out.below hb)
 have N69 := Lib.hid (N69.out.below hb)
 have N70 := Lib.hid (N70.out.below hb)
 have N71 := Lib.hid (N71.out.below hb)
 have N72 := Lib.hid (N72.out.below hb)
 have N93 := Lib.hid (N93.out.below hb)
 have KG := Lib.hid (KG.out.trans (hb.mono KG.out.size))
 clear hb
 go_wp2_with fail
 have CT := Lib.hid (psub N4.out.k PCp1.out N8.out.k PCp5.out 6 (by decide) (by decide) (by decide) (by decide) (by decide) (by decide))
 rw [show subP p1 p5 = p102 from Hp102.out.symm] at CT
 with_reducible refine CT.out.mono ?_
 rintro e w103 ⟨z104, rfl, hN105, hb⟩
 have N105 := Lib.hid hN105
 clear hN105
 clear CT
 have N4 := Lib.hid (N4.out.below hb)
 have N8 := Lib.hid (N8.out.below hb)
 have N16 := Lib.hid (N16.out.below hb)
 have N69 := Lib.hid (N69.out.below hb)
 have N70 := Lib.hid (N70.out.below hb)
 have N71 := Lib.hid (N71.out.below hb)
 have N72 := Lib.hid (N72.out.below hb)
 have N93 := Lib.hid (N93.out.below hb)
 have N101 := Lib.hid (N101.out.below hb)
 have KG := Lib.hid (KG.out.trans (hb.mono KG.out.size))
 clear hb
 go_wp2_with fail
 obtain ⟨v107, hV⟩ : ∃ V, V = w103.alloc (.cells #[.slice z104.a z104.n z104.c] 24) := ⟨_, rfl⟩
 have hbV : Below w103.heap.size w103 v107 := by rw [hV]; exact ((Below.refl _ _).alloc (Nat.le_refl _) _)
 have BX106 := Lib.hid (show Bxs v107 (w103.heap.size) 24 [.slice z104.a z104.n z104.c] by have h := Bxs.new (w103) 24 [.slice z104.a z104.n z104.c]; rw [hV]; exact h)
 rw [show w103.alloc (.cells #[.slice z104.a z104.n z104.c] 24) = v107 from hV.symm]
 have N4 := Lib.hid (N4.out.below hbV)
 have N8 := Lib.hid (N8.out.below hbV)
 have N16 := Lib.hid (N16.out.below hbV)
 have N69 := Lib.hid (N69.out.below hbV)
 have N70 := Lib.hid (N70.out.below hbV)
 have N71 := Lib.hid (N71.out.below hbV)
 have N72 := Lib.hid (N72.out.below hbV)
 have N93 := Lib.hid (N93.out.below hbV)
 have N101 := Lib.hid (N101.out.below hbV)
 have N105 := Lib.hid (N105.out.below hbV)
 have KG := Lib.hid (KG.out.trans (hbV.mono KG.out.size))
 clear hV hbV
 have CT := Lib.hid (show Calls Tryz.prog 22 #[.int .u8 1, .slice z100.a z100.n z100.c, .slice (some ⟨w103.heap.size, 0, none⟩) 1 1] v107 _ from ran_left (Q := [(⟨1, 0, 0, 0⟩, nQ (1)), (⟨0, 1, 0, 0⟩, nQ (1))]) (R := p25) (ds := [((⟨1, 0, 0, 0⟩, nQ (1)), [(⟨1, 0, 0, 0⟩, nQ (1)), (⟨0, 1, 0, 0⟩, nQ (-1))])]) (n := 3) (by simp only [Hp102.out, Hp90.out, Hp86.out, Hp82.out, Hp62.out, Hp61.out, Hp55.out, Hp48.out, Hp44.out, Hp40.out, Hp33.out, Hp29.out, Hp25.out, Hp21.out, Hp17.out, Hp13.out, Hq9.out, Hp5.out, Hp1.out]; decide +kernel) (by simp only [Hp102.out, Hp90.out, Hp86.out, Hp82.out, Hp62.out, Hp61.out, Hp55.out, Hp48.out, Hp44.out, Hp40.out, Hp33.out, Hp29.out, Hp25.out, Hp21.out, Hp17.out, Hp13.out, Hq9.out, Hp5.out, Hp1.out]; decide +kernel) (by decide) N101.out.k (RS.bxs (ps := [z104]) BX106.out) N105.out.k (by simp only [Hp102.out, Hp90.out, Hp86.out, Hp82.out, Hp62.out, Hp61.out, Hp55.out, Hp48.out, Hp44.out, Hp40.out, Hp33.out, Hp29.out, Hp25.out, Hp21.out, Hp17.out, Hp13.out, Hq9.out, Hp5.out, Hp1.out]; decide +kernel))
 with_reducible refine CT.out.mono ?_
 rintro e w108 ⟨z109, rfl, hN110, hb⟩
 have N110 := Lib.hid hN110
 clear hN110
 clear CT
 have N4 := Lib.hid (N4.out.below hb)
 have N8 := Lib.hid (N8.out.below hb)
 have N16 := Lib.hid (N16.out.below hb)
 have N69 := Lib.hid (N69.out.below hb)
 have N70 := Lib.hid (N70.out.below hb)
 have N71 := Lib.hid (N71.out.below hb)
 have N72 := Lib.hid (N72.out.below hb)
 have N93 := Lib.hid (N93.out.below hb)
 clear N101
 clear N105
 clear BX106
 have KG := Lib.hid (KG.out.trans (hb.mono KG.out.size))
 clear hb
 go_upto_region 12 with (fail)
 refine Go.FreshS.wp_region_fresh 69 [] (Go.FreshS.spOf [(25, Go.FreshS.Sp.made (fun x : PV => x.v) (fun x w' => DP w' w108.heap.size x p61) (fun _ _ => False)), (26, Go.FreshS.Sp.know (.bool true)), (33, Go.FreshS.Sp.know (.bool true)), (39, Go.FreshS.Sp.made (fun x : PV => x.v) (fun x w' => DP w' w108.heap.size x p61) (fun _ _ => False)), (41, Go.FreshS.Sp.made (fun x : PV => x.v) (fun x w' => DP w' w108.heap.size x p62) (fun _ _ => False)), (42, Go.FreshS.Sp.know (.bool true)), (51, Go.FreshS.Sp.made (fun x : PV => x.v) (fun x w' => DP w' w108.heap.size x p90) (fun _ _ => False)), (52, Go.FreshS.Sp.know (.bool true)), (66, Go.FreshS.Sp.made (fun x : PV => x.v) (fun x w' => DP w' w108.heap.size x p25) (fun _ _ => False)), (67, Go.FreshS.Sp.know (.bool true))])
  (fun w' => Below w108.heap.size w108 w') (by kernel_rfl) (by kernel_rfl) (by kernel_rfl)
  (Go.FreshS.spOf_cons (Go.FreshS.Sp.made_keepsR _ rowT (fun _ _ _ h hs => h.rows hs) (by kernel_rfl) (Go.FreshS.notTaken (by kernel_rfl))) (Go.FreshS.spOf_cons (Go.FreshS.Sp.know_keeps _ _) (Go.FreshS.spOf_cons (Go.FreshS.Sp.know_keeps _ _) (Go.FreshS.spOf_cons (Go.FreshS.Sp.made_keepsR _ rowT (fun _ _ _ h hs => h.rows hs) (by kernel_rfl) (Go.FreshS.notTaken (by kernel_rfl))) (Go.FreshS.spOf_cons (Go.FreshS.Sp.made_keepsR _ rowT (fun _ _ _ h hs => h.rows hs) (by kernel_rfl) (Go.FreshS.notTaken (by kernel_rfl))) (Go.FreshS.spOf_cons (Go.FreshS.Sp.know_keeps _ _) (Go.FreshS.spOf_cons (Go.FreshS.Sp.made_keepsR _ rowT (fun _ _ _ h hs => h.rows hs) (by kernel_rfl) (Go.FreshS.notTaken (by kernel_rfl))) (Go.FreshS.spOf_cons (Go.FreshS.Sp.know_keeps _ _) (Go.FreshS.spOf_cons (Go.FreshS.Sp.made_keepsR _ rowT (fun _ _ _ h hs => h.rows hs) (by kernel_rfl) (Go.FreshS.notTaken (by kernel_rfl))) (Go.FreshS.spOf_cons (Go.FreshS.Sp.know_keeps _ _) (Go.FreshS.spOf_nil))))))))))) (fun _ _ h hb => h.trans (hb.mono h.size)) ((Below.refl _ _).drew) ?_
 simp only [List.append_eq, List.cons_append, List.nil_append, List.take_succ_cons, List.take_zero, List.drop_succ_cons, List.drop_zero]
 refine Go.FreshS.wpF_reads rfl rfl rfl ?_ (fun w' hw' => ?_) ?_
 rotate_left
 ·have hb' := hw'.world
  skip
  clear hw'
  go_simp
  try rfl
 conv => arg 10; simp only [Act.put, List.setIfInBounds_toArray, List.set_cons_succ, List.set_cons_zero]
 refine Go.FreshS.wpF_reads rfl rfl rfl ?_ (fun w' hw' => ?_) ?_
 rotate_left
 ·have hb' := hw'.world
  skip
  clear hw'
  go_simp
  try rfl
 conv => arg 10; simp only [Act.put, List.setIfInBounds_toArray, List.set_cons_succ, List.set_cons_zero]
 refine Go.FreshS.wpF_reads rfl rfl rfl ?_ (fun w' hw' => ?_) ?_
 rotate_left
 ·have hb' := hw'.world
  skip
  clear hw'
  go_simp
  try rfl
 conv => arg 10; simp only [Act.put, List.setIfInBounds_toArray, List.set_cons_succ, List.set_cons_zero]
 refine Go.FreshS.wpF_readsG (by rfl) rfl rfl ?_ (fun w' hw' => ?_) ?_
 rotate_left
 ·have hb' := hw'.world
  skip
  clear hw'
  go_simp
  try rfl
 conv => arg 10; simp only [Act.put, List.setIfInBounds_toArray, List.set_cons_succ, List.set_cons_zero]
 refine Go.FreshS.wpF_readsG (by rfl) rfl rfl ?_ (fun w' hw' => ?_) ?_
 rotate_left
 ·have hb' := hw'.world
  skip
  clear hw'
  go_simp
  try rfl
 conv => arg 10; simp only [Act.put, List.setIfInBounds_toArray, List.set_cons_succ, List.set_cons_zero]
 refine Go.FreshS.wpF_reads rfl rfl rfl ?_ (fun w' hw' => ?_) ?_
 rotate_left
 ·have hb' := hw'.world
  skip
  clear hw'
  go_simp
  try rfl
 conv => arg 10; simp only [Act.put, List.setIfInBounds_toArray, List.set_cons_succ, List.set_cons_zero]
 refine Go.FreshS.wpF_reads rfl rfl rfl ?_ (fun w' hw' => ?_) ?_
 rotate_left
 ·have hb' := hw'.world
  skip
  clear hw'
  go_simp
  try rfl
 conv => arg 10; simp only [Act.put, List.setIfInBounds_toArray, List.set_cons_succ, List.set_cons_zero]
 refine Go.FreshS.wpF_readsG (by rfl) rfl rfl ?_ (fun w' hw' => ?_) ?_
 rotate_left
 ·have hb' := hw'.world
  skip
  clear hw'
  go_simp
  try rfl
 conv => arg 10; simp only [Act.put, List.setIfInBounds_toArray, List.set_cons_succ, List.set_cons_zero]
 refine Go.FreshS.wpF_readsG (by rfl) rfl rfl ?_ (fun w' hw' => ?_) ?_
 rotate_left
 ·have hb' := hw'.world
  skip
  clear hw'
  go_simp
  try rfl
 conv => arg 10; simp only [Act.put, List.setIfInBounds_toArray, List.set_cons_succ, List.set_cons_zero]
 refine Go.FreshS.wpF_reads rfl rfl rfl ?_ (fun w' hw' => ?_) ?_
 rotate_left
 ·have hb' := hw'.world
  skip
  clear hw'
  go_simp
  try rfl
 conv => arg 10; simp only [Act.put, List.setIfInBounds_toArray, List.set_cons_succ, List.set_cons_zero]
 refine Go.FreshS.wpF_reads rfl rfl rfl ?_ (fun w' hw' => ?_) ?_
 rotate_left
 ·have hb' := hw'.world
  skip
  clear hw'
  go_simp
  try rfl
 conv => arg 10; simp only [Act.put, List.setIfInBounds_toArray, List.set_cons_succ, List.set_cons_zero]
 refine Go.FreshS.wpF_readsG (by rfl) rfl rfl ?_ (fun w' hw' => ?_) ?_
 rotate_left
 ·have hb' := hw'.world
  skip
  clear hw'
  go_simp
  try rfl
 conv => arg 10; simp only [Act.put, List.setIfInBounds_toArray, List.set_cons_succ, List.set_cons_zero]
 refine Go.FreshS.wpF_readsG (by rfl) rfl rfl ?_ (fun w' hw' => ?_) ?_
 rotate_left
 ·have hb' := hw'.world
  skip
  clear hw'
  go_simp
  try rfl
 conv => arg 10; simp only [Act.put, List.setIfInBounds_toArray, List.set_cons_succ, List.set_cons_zero]
 refine Go.FreshS.wpF_reads rfl rfl rfl ?_ (fun w' hw' => ?_) ?_
 rotate_left
 ·have hb' := hw'.world
  skip
  clear hw'
  go_simp
  try rfl
 conv => arg 10; simp only [Act.put, List.setIfInBounds_toArray, List.set_cons_succ, List.set_cons_zero]
 refine Go.FreshS.wpF_reads rfl rfl rfl ?_ (fun w' hw' => ?_) ?_
 rotate_left
 ·have hb' := hw'.world
  skip
  clear hw'
  go_simp
  try rfl
 conv => arg 10; simp only [Act.put, List.setIfInBounds_toArray, List.set_cons_succ, List.set_cons_zero]
 refine Go.FreshS.wpF_readsG (by rfl) rfl rfl ?_ (fun w' hw' => ?_) ?_
 rotate_left
 ·have hb' := hw'.world
  skip
  clear hw'
  go_simp
  try rfl
 conv => arg 10; simp only [Act.put, List.setIfInBounds_toArray, List.set_cons_succ, List.set_cons_zero]
 refine Go.FreshS.wpF_readsG (by rfl) rfl rfl ?_ (fun w' hw' => ?_) ?_
 rotate_left
 ·have hb' := hw'.world
  skip
  clear hw'
  go_simp
  try rfl
 conv => arg 10; simp only [Act.put, List.setIfInBounds_toArray, List.set_cons_succ, List.set_cons_zero]
 refine Go.FreshS.wpF_readsG (by rfl) rfl rfl ?_ (fun w' hw' => ?_) ?_
 rotate_left
 ·have hb' := hw'.world
  skip
  clear hw'
  go_simp
  try rfl
 conv => arg 10; simp only [Act.put, List.setIfInBounds_toArray, List.set_cons_succ, List.set_cons_zero]
 refine Go.FreshS.wpF_reads rfl rfl rfl ?_ (fun w' hw' => ?_) ?_
 rotate_left
 ·have hb' := hw'.world
  skip
  clear hw'
  go_simp
  try rfl
 conv => arg 10; simp only [Act.put, List.setIfInBounds_toArray, List.set_cons_succ, List.set_cons_zero]
 refine Go.FreshS.wpF_reads rfl rfl rfl ?_ (fun w' hw' => ?_) ?_
 rotate_left
 ·have hb' := hw'.world
  skip
  clear hw'
  go_simp
  try rfl
 conv => arg 10; simp only [Act.put, List.setIfInBounds_toArray, List.set_cons_succ, List.set_cons_zero]
 refine Go.FreshS.wpF_readsG (by rfl) rfl rfl ?_ (fun w' hw' => ?_) ?_
 rotate_left
 ·have hb' := hw'.world
  skip
  clear hw'
  go_simp
  try rfl
 conv => arg 10; simp only [Act.put, List.setIfInBounds_toArray, List.set_cons_succ, List.set_cons_zero]
 refine Go.FreshS.wpF_readsG (by rfl) rfl rfl ?_ (fun w' hw' => ?_) ?_
 rotate_left
 ·have hb' := hw'.world
  skip
  clear hw'
  go_simp
  try rfl
 conv => arg 10; simp only [Act.put, List.setIfInBounds_toArray, List.set_cons_succ, List.set_cons_zero]
 refine Go.FreshS.wpF_readsG (by rfl) rfl rfl ?_ (fun w' hw' => ?_) ?_
 rotate_left
 ·have hb' := hw'.world
  have hc := (N69.out.below hb').c 0 _ rfl
  clear hw'
  go_simp
  try rfl
 conv => arg 10; simp only [Act.put, List.setIfInBounds_toArray, List.set_cons_succ, List.set_cons_zero]
 refine Go.FreshS.wpF_readsG (by rfl) rfl rfl ?_ (fun w' hw' => ?_) ?_
 rotate_left
 ·have hb' := hw'.world
  skip
  clear hw'
  go_simp
  try rfl
 conv => arg 10; simp only [Act.put, List.setIfInBounds_toArray, List.set_cons_succ, List.set_cons_zero]
 refine Go.FreshS.wpF_readsG (by rfl) rfl rfl ?_ (fun w' hw' => ?_) ?_
 rotate_left
 ·have hb' := hw'.world
  skip
  clear hw'
  go_simp
  try rfl
 conv => arg 10; simp only [Act.put, List.setIfInBounds_toArray, List.set_cons_succ, List.set_cons_zero]
 refine Go.FreshS.wpF_gspec (by rfl) rfl rfl (fun w' hw' => ?_) ?_
 ·have hb' := hw'.world
  refine Go.FreshS.gives_of (Go.FreshS.PM (fun x : PV => x.v) (fun x w' => DP w' w108.heap.size x p61) (fun _ _ => False) w'.heap.size) ?_ (fun _ _ h => h.post (fun _ _ => PV.inj))
  go_simp
  have CT := padd (N4.out.below hb').k PCp1.out (N8.out.below hb').k PCp5.out 3 (by decide) (by decide) (by decide) (by decide)
  rw [show addP p1 p5 = p61 from Hp61.out.symm] at CT
  refine CT.mono ?_
  rintro e w'' ⟨za, rfl, ho, hb⟩
  exact ⟨_, rfl, ⟨za, rfl, ho.mono hb'.size, fun _ h => False.elim h⟩, hb⟩
 rintro _ ⟨y25, rfl⟩
 conv => arg 10; simp only [Act.put, List.setIfInBounds_toArray, List.set_cons_succ, List.set_cons_zero]
 refine Go.FreshS.wpF_gspec (by rfl) rfl rfl (fun w' hw' => ?_) ?_
 ·have hb' := hw'.world
  refine Go.FreshS.gives_of (Go.FreshS.PK (.bool true)) ?_ (fun _ _ h => h.post)
  go_simp
  have f25 := Go.FreshS.made_of (val := (fun x : PV => x.v)) (Φ := fun x w' => DP w' w108.heap.size x p61) (fun _ _ => PV.inj) (hw'.fact 25 (by kernel_rfl))
  have CT := psame5 (N70.out.below hb').k f25.k (rfl) PCp61.out (by decide) (by decide)
  refine CT.mono ?_
  rintro e w'' ⟨rfl, hb⟩
  exact ⟨_, rfl, rfl, hb⟩
 rintro _ rfl
 conv => arg 10; simp only [Act.put, List.setIfInBounds_toArray, List.set_cons_succ, List.set_cons_zero]
 refine Go.FreshS.wpF_reads rfl rfl rfl ?_ (fun w' hw' => ?_) ?_
 rotate_left
 ·have hb' := hw'.world
  skip
  clear hw'
  go_simp
  try rfl
 conv => arg 10; simp only [Act.put, List.setIfInBounds_toArray, List.set_cons_succ, List.set_cons_zero]
 refine Go.FreshS.wpF_reads rfl rfl rfl ?_ (fun w' hw' => ?_) ?_
 rotate_left
 ·have hb' := hw'.world
  skip
  clear hw'
  go_simp
  try rfl
 conv => arg 10; simp only [Act.put, List.setIfInBounds_toArray, List.set_cons_succ, List.set_cons_zero]
 refine Go.FreshS.wpF_readsG (by rfl) rfl rfl ?_ (fun w' hw' => ?_) ?_
 rotate_left
 ·have hb' := hw'.world
  skip
  clear hw'
  go_simp
  try rfl
 conv => arg 10; simp only [Act.put, List.setIfInBounds_toArray, List.set_cons_succ, List.set_cons_zero]
 refine Go.FreshS.wpF_readsG (by rfl) rfl rfl ?_ (fun w' hw' => ?_) ?_
 rotate_left
 ·have hb' := hw'.world
  skip
  clear hw'
  go_simp
  try rfl
 conv => arg 10; simp only [Act.put, List.setIfInBounds_toArray, List.set_cons_succ, List.set_cons_zero]
 refine Go.FreshS.wpF_readsG (by rfl) rfl rfl ?_ (fun w' hw' => ?_) ?_
 rotate_left
 ·have hb' := hw'.world
  have hc := (N69.out.below hb').c 1 _ rfl
  clear hw'
  go_simp
  try rfl
 conv => arg 10; simp only [Act.put, List.setIfInBounds_toArray, List.set_cons_succ, List.set_cons_zero]
 refine Go.FreshS.wpF_readsG (by rfl) rfl rfl ?_ (fun w' hw' => ?_) ?_
 rotate_left
 ·have hb' := hw'.world
  skip
  clear hw'
  go_simp
  try rfl
 conv => arg 10; simp only [Act.put, List.setIfInBounds_toArray, List.set_cons_succ, List.set_cons_zero]
 refine Go.FreshS.wpF_gspec (by rfl) rfl rfl (fun w' hw' => ?_) ?_
 ·have hb' := hw'.world
  refine Go.FreshS.gives_of (Go.FreshS.PK (.bool true)) ?_ (fun _ _ h => h.post)
  go_simp
  have CT := psame5 (N71.out.below hb').k (N16.out.below hb').k (rfl) PCp13.out (by decide) (by decide)
  refine CT.mono ?_
  rintro e w'' ⟨rfl, hb⟩
  exact ⟨_, rfl, rfl, hb⟩
 rintro _ rfl
 conv => arg 10; simp only [Act.put, List.setIfInBounds_toArray, List.set_cons_succ, List.set_cons_zero]
 refine Go.FreshS.wpF_reads rfl rfl rfl ?_ (fun w' hw' => ?_) ?_
 rotate_left
 ·have hb' := hw'.world
  skip
  clear hw'
  go_simp
  try rfl
 conv => arg 10; simp only [Act.put, List.setIfInBounds_toArray, List.set_cons_succ, List.set_cons_zero]
 refine Go.FreshS.wpF_reads rfl rfl rfl ?_ (fun w' hw' => ?_) ?_
 rotate_left
 ·have hb' := hw'.world
  skip
  clear hw'
  go_simp
  try rfl
 conv => arg 10; simp only [Act.put, List.setIfInBounds_toArray, List.set_cons_succ, List.set_cons_zero]
 refine Go.FreshS.wpF_readsG (by rfl) rfl rfl ?_ (fun w' hw' => ?_) ?_
 rotate_left
 ·have hb' := hw'.world
  skip
  clear hw'
  go_simp
  try rfl
 conv => arg 10; simp only [Act.put, List.setIfInBounds_toArray, List.set_cons_succ, List.set_cons_zero]
 refine Go.FreshS.wpF_readsG (by rfl) rfl rfl ?_ (fun w' hw' => ?_) ?_
 rotate_left
 ·have hb' := hw'.world
  skip
  clear hw'
  go_simp
  try rfl
 conv => arg 10; simp only [Act.put, List.setIfInBounds_toArray, List.set_cons_succ, List.set_cons_zero]
 refine Go.FreshS.wpF_readsG (by rfl) rfl rfl ?_ (fun w' hw' => ?_) ?_
 rotate_left
 ·have hb' := hw'.world
  skip
  clear hw'
  go_simp
  try rfl
 conv => arg 10; simp only [Act.put, List.setIfInBounds_toArray, List.set_cons_succ, List.set_cons_zero]
 refine Go.FreshS.wpF_gspec (by rfl) rfl rfl (fun w' hw' => ?_) ?_
 ·have hb' := hw'.world
  refine Go.FreshS.gives_of (Go.FreshS.PM (fun x : PV => x.v) (fun x w' => DP w' w108.heap.size x p61) (fun _ _ => False) w'.heap.size) ?_ (fun _ _ h => h.post (fun _ _ => PV.inj))
  go_simp
  have CT := padd (N4.out.below hb').k PCp1.out (N8.out.below hb').k PCp5.out 3 (by decide) (by decide) (by decide) (by decide)
  rw [show addP p1 p5 = p61 from Hp61.out.symm] at CT
  refine CT.mono ?_
  rintro e w'' ⟨za, rfl, ho, hb⟩
  exact ⟨_, rfl, ⟨za, rfl, ho.mono hb'.size, fun _ h => False.elim h⟩, hb⟩
 rintro _ ⟨y39, rfl⟩
 conv => arg 10; simp only [Act.put, List.setIfInBounds_toArray, List.set_cons_succ, List.set_cons_zero]
 refine Go.FreshS.wpF_readsG (by rfl) rfl rfl ?_ (fun w' hw' => ?_) ?_
 rotate_left
 ·have hb' := hw'.world
  skip
  clear hw'
  go_simp
  try rfl
 conv => arg 10; simp only [Act.put, List.setIfInBounds_toArray, List.set_cons_succ, List.set_cons_zero]
 refine Go.FreshS.wpF_gspec (by rfl) rfl rfl (fun w' hw' => ?_) ?_
 ·have hb' := hw'.world
  refine Go.FreshS.gives_of (Go.FreshS.PM (fun x : PV => x.v) (fun x w' => DP w' w108.heap.size x p62) (fun _ _ => False) w'.heap.size) ?_ (fun _ _ h => h.post (fun _ _ => PV.inj))
  go_simp
  have f39 := Go.FreshS.made_of (val := (fun x : PV => x.v)) (Φ := fun x w' => DP w' w108.heap.size x p61) (fun _ _ => PV.inj) (hw'.fact 39 (by kernel_rfl))
  have CT := padd f39.k PCp61.out (N16.out.below hb').k PCp13.out 7 (by decide) (by decide) (by decide) (by decide)
  rw [show addP p61 p13 = p62 from Hp62.out.symm] at CT
  refine CT.mono ?_
  rintro e w'' ⟨za, rfl, ho, hb⟩
  exact ⟨_, rfl, ⟨za, rfl, ho.mono hb'.size, fun _ h => False.elim h⟩, hb⟩
 rintro _ ⟨y41, rfl⟩
 conv => arg 10; simp only [Act.put, List.setIfInBounds_toArray, List.set_cons_succ, List.set_cons_zero]
 refine Go.FreshS.wpF_gspec (by rfl) rfl rfl (fun w' hw' => ?_) ?_
 ·have hb' := hw'.world
  refine Go.FreshS.gives_of (Go.FreshS.PK (.bool true)) ?_ (fun _ _ h => h.post)
  go_simp
  have f41 := Go.FreshS.made_of (val := (fun x : PV => x.v)) (Φ := fun x w' => DP w' w108.heap.size x p62) (fun _ _ => PV.inj) (hw'.fact 41 (by kernel_rfl))
  have CT := psame5 (N72.out.below hb').k f41.k (rfl) PCp62.out (by decide) (by decide)
  refine CT.mono ?_
  rintro e w'' ⟨rfl, hb⟩
  exact ⟨_, rfl, rfl, hb⟩
 rintro _ rfl
 conv => arg 10; simp only [Act.put, List.setIfInBounds_toArray, List.set_cons_succ, List.set_cons_zero]
 refine Go.FreshS.wpF_reads rfl rfl rfl ?_ (fun w' hw' => ?_) ?_
 rotate_left
 ·have hb' := hw'.world
  skip
  clear hw'
  go_simp
  try rfl
 conv => arg 10; simp only [Act.put, List.setIfInBounds_toArray, List.set_cons_succ, List.set_cons_zero]
 refine Go.FreshS.wpF_reads rfl rfl rfl ?_ (fun w' hw' => ?_) ?_
 rotate_left
 ·have hb' := hw'.world
  skip
  clear hw'
  go_simp
  try rfl
 conv => arg 10; simp only [Act.put, List.setIfInBounds_toArray, List.set_cons_succ, List.set_cons_zero]
 refine Go.FreshS.wpF_readsG (by rfl) rfl rfl ?_ (fun w' hw' => ?_) ?_
 rotate_left
 ·have hb' := hw'.world
  skip
  clear hw'
  go_simp
  try rfl
 conv => arg 10; simp only [Act.put, List.setIfInBounds_toArray, List.set_cons_succ, List.set_cons_zero]
 refine Go.FreshS.wpF_reads rfl rfl rfl ?_ (fun w' hw' => ?_) ?_
 rotate_left
 ·have hb' := hw'.world
  skip
  clear hw'
  go_simp
  try rfl
 conv => arg 10; simp only [Act.put, List.setIfInBounds_toArray, List.set_cons_succ, List.set_cons_zero]
 refine Go.FreshS.wpF_reads rfl rfl rfl ?_ (fun w' hw' => ?_) ?_
 rotate_left
 ·have hb' := hw'.world
  skip
  clear hw'
  go_simp
  try rfl
 conv => arg 10; simp only [Act.put, List.setIfInBounds_toArray, List.set_cons_succ, List.set_cons_zero]
 refine Go.FreshS.wpF_readsG (by rfl) rfl rfl ?_ (fun w' hw' => ?_) ?_
 rotate_left
 ·have hb' := hw'.world
  skip
  clear hw'
  go_simp
  try rfl
 conv => arg 10; simp only [Act.put, List.setIfInBounds_toArray, List.set_cons_succ, List.set_cons_zero]
 refine Go.FreshS.wpF_readsG (by rfl) rfl rfl ?_ (fun w' hw' => ?_) ?_
 rotate_left
 ·have hb' := hw'.world
  skip
  clear hw'
  go_simp
  try rfl
 conv => arg 10; simp only [Act.put, List.setIfInBounds_toArray, List.set_cons_succ, List.set_cons_zero]
 refine Go.FreshS.wpF_readsG (by rfl) rfl rfl ?_ (fun w' hw' => ?_) ?_
 rotate_left
 ·have hb' := hw'.world
  skip
  clear hw'
  go_simp
  try rfl
 conv => arg 10; simp only [Act.put, List.setIfInBounds_toArray, List.set_cons_succ, List.set_cons_zero]
 refine Go.FreshS.wpF_gspec (by rfl) rfl rfl (fun w' hw' => ?_) ?_
 ·have hb' := hw'.world
  refine Go.FreshS.gives_of (Go.FreshS.PM (fun x : PV => x.v) (fun x w' => DP w' w108.heap.size x p90) (fun _ _ => False) w'.heap.size) ?_ (fun _ _ h => h.post (fun _ _ => PV.inj))
  go_simp
  have CT := padd (N4.out.below hb').k PCp1.out (N16.out.below hb').k PCp13.out 4 (by decide) (by decide) (by decide) (by decide)
  rw [show addP p1 p13 = p90 from Hp90.out.symm] at CT
  refine CT.mono ?_
  rintro e w'' ⟨za, rfl, ho, hb⟩
  exact ⟨_, rfl, ⟨za, rfl, ho.mono hb'.size, fun _ h => False.elim h⟩, hb⟩
 rintro _ ⟨y51, rfl⟩
 conv => arg 10; simp only [Act.put, List.setIfInBounds_toArray, List.set_cons_succ, List.set_cons_zero]
 refine Go.FreshS.wpF_gspec (by rfl) rfl rfl (fun w' hw' => ?_) ?_
 ·have hb' := hw'.world
  refine Go.FreshS.gives_of (Go.FreshS.PK (.bool true)) ?_ (fun _ _ h => h.post)
  go_simp
  have f51 := Go.FreshS.made_of (val := (fun x : PV => x.v)) (Φ := fun x w' => DP w' w108.heap.size x p90) (fun _ _ => PV.inj) (hw'.fact 51 (by kernel_rfl))
  have CT := psame5 (N93.out.below hb').k f51.k (rfl) PCp90.out (by decide) (by decide)
  refine CT.mono ?_
  rintro e w'' ⟨rfl, hb⟩
  exact ⟨_, rfl, rfl, hb⟩
 rintro _ rfl
 conv => arg 10; simp only [Act.put, List.setIfInBounds_toArray, List.set_cons_succ, List.set_cons_zero]
 refine Go.FreshS.wpF_reads rfl rfl rfl ?_ (fun w' hw' => ?_) ?_
 rotate_left
 ·have hb' := hw'.world
  skip
  clear hw'
  go_simp
  try rfl
 conv => arg 10; simp only [Act.put, List.setIfInBounds_toArray, List.set_cons_succ, List.set_cons_zero]
 refine Go.FreshS.wpF_reads rfl rfl rfl ?_ (fun w' hw' => ?_) ?_
 rotate_left
 ·have hb' := hw'.world
  skip
  clear hw'
  go_simp
  try rfl
 conv => arg 10; simp only [Act.put, List.setIfInBounds_toArray, List.set_cons_succ, List.set_cons_zero]
 refine Go.FreshS.wpF_readsG (by rfl) rfl rfl ?_ (fun w' hw' => ?_) ?_
 rotate_left
 ·have hb' := hw'.world
  skip
  clear hw'
  go_simp
  try rfl
 conv => arg 10; simp only [Act.put, List.setIfInBounds_toArray, List.set_cons_succ, List.set_cons_zero]
 refine Go.FreshS.wpF_readsG (by rfl) rfl rfl ?_ (fun w' hw' => ?_) ?_
 rotate_left
 ·have hb' := hw'.world
  skip
  clear hw'
  go_simp
  try rfl
 conv => arg 10; simp only [Act.put, List.setIfInBounds_toArray, List.set_cons_succ, List.set_cons_zero]
 refine Go.FreshS.wpF_reads rfl rfl rfl ?_ (fun w' hw' => ?_) ?_
 rotate_left
 ·have hb' := hw'.world
  skip
  clear hw'
  go_simp
  try rfl
 conv => arg 10; simp only [Act.put, List.setIfInBounds_toArray, List.set_cons_succ, List.set_cons_zero]
 refine Go.FreshS.wpF_reads rfl rfl rfl ?_ (fun w' hw' => ?_) ?_
 rotate_left
 ·have hb' := hw'.world
  skip
  clear hw'
  go_simp
  try rfl
 conv => arg 10; simp only [Act.put, List.setIfInBounds_toArray, List.set_cons_succ, List.set_cons_zero]
 refine Go.FreshS.wpF_readsG (by rfl) rfl rfl ?_ (fun w' hw' => ?_) ?_
 rotate_left
 ·have hb' := hw'.world
  skip
  clear hw'
  go_simp
  try rfl
 conv => arg 10; simp only [Act.put, List.setIfInBounds_toArray, List.set_cons_succ, List.set_cons_zero]
 refine Go.FreshS.wpF_readsG (by rfl) rfl rfl ?_ (fun w' hw' => ?_) ?_
 rotate_left
 ·have hb' := hw'.world
  skip
  clear hw'
  go_simp
  try rfl
 conv => arg 10; simp only [Act.put, List.setIfInBounds_toArray, List.set_cons_succ, List.set_cons_zero]
 refine Go.FreshS.wpF_reads rfl rfl rfl ?_ (fun w' hw' => ?_) ?_
 rotate_left
 ·have hb' := hw'.world
  skip
  clear hw'
  go_simp
  try rfl
 conv => arg 10; simp only [Act.put, List.setIfInBounds_toArray, List.set_cons_succ, List.set_cons_zero]
 refine Go.FreshS.wpF_reads rfl rfl rfl ?_ (fun w' hw' => ?_) ?_
 rotate_left
 ·have hb' := hw'.world
  skip
  clear hw'
  go_simp
  try rfl
 conv => arg 10; simp only [Act.put, List.setIfInBounds_toArray, List.set_cons_succ, List.set_cons_zero]
 refine Go.FreshS.wpF_readsG (by rfl) rfl rfl ?_ (fun w' hw' => ?_) ?_
 rotate_left
 ·have hb' := hw'.world
  skip
  clear hw'
  go_simp
  try rfl
 conv => arg 10; simp only [Act.put, List.setIfInBounds_toArray, List.set_cons_succ, List.set_cons_zero]
 refine Go.FreshS.wpF_readsG (by rfl) rfl rfl ?_ (fun w' hw' => ?_) ?_
 rotate_left
 ·have hb' := hw'.world
  skip
  clear hw'
  go_simp
  try rfl
 conv => arg 10; simp only [Act.put, List.setIfInBounds_toArray, List.set_cons_succ, List.set_cons_zero]
 refine Go.FreshS.wpF_readsG (by rfl) rfl rfl ?_ (fun w' hw' => ?_) ?_
 rotate_left
 ·have hb' := hw'.world
  skip
  clear hw'
  go_simp
  try rfl
 conv => arg 10; simp only [Act.put, List.setIfInBounds_toArray, List.set_cons_succ, List.set_cons_zero]
 refine Go.FreshS.wpF_gspec (by rfl) rfl rfl (fun w' hw' => ?_) ?_
 ·have hb' := hw'.world
  refine Go.FreshS.gives_of (Go.FreshS.PM (fun x : PV => x.v) (fun x w' => DP w' w108.heap.size x p25) (fun _ _ => False) w'.heap.size) ?_ (fun _ _ h => h.post (fun _ _ => PV.inj))
  go_simp
  have CT := pdmul (N8.out.below hb').k PCp5.out (N8.out.below hb').k PCp5.out (by decide) (by decide) (by decide) (by decide) (by decide) (by decide) (by decide)
  rw [show mulP p5 p5 = p25 from Hp25.out.symm] at CT
  refine CT.mono ?_
  rintro e w'' ⟨za, rfl, ho, hb⟩
  exact ⟨_, rfl, ⟨za, rfl, ho.mono hb'.size, fun _ h => False.elim h⟩, hb⟩
 rintro _ ⟨y66, rfl⟩
 conv => arg 10; simp only [Act.put, List.setIfInBounds_toArray, List.set_cons_succ, List.set_cons_zero]
 refine Go.FreshS.wpF_gspec (by rfl) rfl rfl (fun w' hw' => ?_) ?_
 ·have hb' := hw'.world
  refine Go.FreshS.gives_of (Go.FreshS.PK (.bool true)) ?_ (fun _ _ h => h.post)
  go_simp
  have f66 := Go.FreshS.made_of (val := (fun x : PV => x.v)) (Φ := fun x w' => DP w' w108.heap.size x p25) (fun _ _ => PV.inj) (hw'.fact 66 (by kernel_rfl))
  have CT := psame5 (N110.out.below hb').k f66.k (rfl) PCp25.out (by decide) (by decide)
  refine CT.mono ?_
  rintro e w'' ⟨rfl, hb⟩
  exact ⟨_, rfl, rfl, hb⟩
 rintro _ rfl
 conv => arg 10; simp only [Act.put, List.setIfInBounds_toArray, List.set_cons_succ, List.set_cons_zero]
 refine Go.FreshS.wpF_reads rfl rfl rfl ?_ (fun w' hw' => ?_) ?_
 rotate_left
 ·have hb' := hw'.world
  skip
  clear hw'
  go_simp
  try rfl
 conv => arg 10; simp only [Act.put, List.setIfInBounds_toArray, List.set_cons_succ, List.set_cons_zero]
 refine Go.FreshS.wpF_nil (fun w111 hb hF => ?_)
 clear hF
 clear N4
 clear N8
 clear N16
 clear N69
 clear N70
 clear N71
 clear N72
 clear N93
 clear N110
 have KG := Lib.hid (KG.out.trans (hb.mono KG.out.size))
 clear hb
 go_wp2_with fail
 go_ret
 exact ⟨rfl, KG.out⟩
end Go.Proofs.YthcccdjfedbnfaaGreat.Pol
namespace Go.Proofs.YthcccdjfedbnfaaGreat.Pol
open Go.RowKit Go.Sort Go.Proofs.YthcccdjfedbnfaaGreat.Limb Go.ChangeShapes Go.WideShapes Go.ChangeAt
def RawL (w : World) (x : PV) (L : List TO) : Prop := RawQ w x L ∧ x.n ≤ 9223372036854775807
theorem RawL.below {w w' : World} {x : PV} {L : List TO} (h : RawL w x L) (hb : Below w.heap.size w w') : RawL w' x L := ⟨h.1.below hb, h.2⟩
structure RawR (w : World) (a : Option Addr) (n : Nat) (Xs : List (PV × List TO)) : Prop where
 len : Xs.length = n
 n : n ≤ 9223372036854775807
 row : RS w a (Xs.map Prod.fst)
 e : ∀ e ∈ Xs, RawL w e.1 e.2
set_option maxRecDepth 100000 in
theorem open_polyL {H : Type} {enc : TypeId × Value → H} {W : World} {sp : Nat → Bool} {hd : Bool} {fuel : Nat} {v : Value} {x : DataW H × List MemPlace}
  (hf : DataW.trod enc Tryz.prog W 0 sp hd fuel 24 [v] = some x) : ∃ (y : PV) (L : List TO), v = y.v ∧ RawL W y L := by
 obtain ⟨y, L, e, h⟩ := open_polyT hf
 refine ⟨y, L, e, h, ?_⟩
 rcases DataW.trod_slice Tryz.underlying24 hf with ⟨e2, _⟩ | ⟨a, len, cap, elems, rest, m, _, e2, _, _, hl, hm, _⟩
 ·rw [e] at e2
  have e3 : [Value.slice y.a y.n y.c] = [Value.slice none 0 0] := e2
  simp only [List.cons.injEq, Value.slice.injEq, and_true] at e3
  omega
 ·rw [e] at e2
  have e3 : [Value.slice y.a y.n y.c] = [Value.slice (some a) len cap] := e2
  simp only [List.cons.injEq, Value.slice.injEq, and_true] at e3
  have h4 : maxLen = 9223372036854775807 := by decide
  omega
theorem cellsPoly : Tryz.prog.cellsOf 24 = 1 := by kernel_rfl
set_option maxRecDepth 100000 in
theorem open_polyV {H : Type} {enc : TypeId × Value → H} {W : World} {base : Nat} {r : Reach} {sp : Nat → Bool} {hd : Bool} {v : Value} {d : DataW H} {p : List MemPlace}
  (hok : Value.okWide Tryz.prog W r base 24 v) (h : DataW.Trod enc Tryz.prog W 0 sp hd 24 v d p) : ∃ (y : PV) (L : List TO), v = y.v ∧ RawL W y L := by
 obtain ⟨fuel, hf⟩ := h
 obtain ⟨a, n, c, rfl⟩ := Go.WideShapes.okWide_slice Tryz.underlying24 hok
 exact open_polyL hf
end Go.Proofs.YthcccdjfedbnfaaGreat.Pol
namespace Go.Proofs.YthcccdjfedbnfaaGreat.Pol
open Go.RowKit Go.Sort Go.Proofs.YthcccdjfedbnfaaGreat.Limb
theorem DivD.imp {w w' : World} {e : Ending} {Inv J : DS → Prop} (h : DivD w Inv e w') (hi : ∀ s, Inv s → s.p = [] → J s) : DivD w J e w' := by
 obtain ⟨v, zs, r, s, h1, h2, h3, h4, h5, h6, h7, h8⟩ := h
 exact ⟨v, zs, r, s, h1, h2, h3, h4, h5, hi s h6 h7, h7, h8⟩
structure BackR (o : Int) (ds : List Dv) (P : List Tm) (W k N : Nat) (s : DS) : Prop where
 al : Alls ds P s
 p0 : s.p = []
 rq : ∀ t ∈ s.r, LQ t.2 k ∧ t.1.le W ∧ ∀ d ∈ ds, ¬ d.1.1.stands t.1
 rn : s.r.length ≤ N
 o : ∀ (i : Nat) (d : Dv) (q : List Tm), ds[i]? = some d → s.os[i]? = some q → q.length ≤ N ∧ ∀ v ∈ q, LQ v.2 k ∧ v.1.le W ∧ ∀ t, Lead (keyO o) P t → keyO o (v.1.mul d.1.1) ≤ keyO o t.1
 e : P = [] → ∀ q ∈ s.os, q = []
theorem GI.back {o : Int} {ds : List Dv} {P : List Tm} {c : Mo} {W E nd k0 g kd G k N : Nat} {top : Int} {s : DS} (hd : Dvb (keyO o) ds c W E nd kd g) (hN : (boxM c W).length ≤ N) (hk : k0 + G * N + kd ≤ k) (h : GI (keyO o) ds P c W k0 G kd top s) (h0 : s.p = []) (ht : ∀ t, Lead (keyO o) P t → top ≤ keyO o t.1) (he : P = [] → ∀ q ∈ s.os, q = []) : BackR o ds P W k N s := by
 have hb : k0 + G * ((boxM c W).length - leftM (keyO o) (boxM c W) s.p) + kd ≤ k := by
  have := Nat.mul_le_mul_left G (Nat.le_trans (Nat.sub_le (boxM c W).length (leftM (keyO o) (boxM c W) s.p)) hN)
  omega
 refine ⟨h.al, h0, fun t hm => ⟨(h.r t hm).1.up (by omega), wt_le hd.pos (h.r t hm).2.1, (h.r t hm).2.2.1⟩, Nat.le_trans (canon_len h.al.cr fun t ht => boxM_mem hd.pos (h.r t ht).2.1) hN, fun i d q hi hq => ⟨?_, fun v hv => ?_⟩, he⟩
 ·exact Nat.le_trans (canon_len (h.al.co q (List.mem_of_getElem? hq)) fun t ht => boxM_mem hd.pos (h.o i d q hi hq t ht).2.1) hN
 ·obtain ⟨h1, h2, h3, _, h5⟩ := h.o i d q hi hq v hv
  exact ⟨h1.up (by omega), h5, fun t hl => Int.le_trans h3 (ht t hl)⟩
theorem div_run {o : Int} {ds : List Dv} {P : List Tm} {c0 : Mo} {W E nd k0 g kd G k N : Nat} {p : PV} {a : Option Addr} {c : Nat} {qs : List (PV × List Tm)} {w : World} (ho : o ≤ 2) (hp : KP w p P) (hr : RS w a (qs.map Prod.fst)) (hq : ∀ q ∈ qs, KP w q.1 q.2) (hds : ds.map Prod.snd = qs.map Prod.snd) (hl : qs.length ≤ 1000)
  (hd : Dvb (keyO o) ds c0 W E nd kd g) (hw : ∀ t ∈ P, wt c0 t.1 ≤ W) (hc : CD P k0) (hG : g + kd + 1 ≤ G) (hN : (boxM c0 W).length ≤ N) (hk : k0 + G * N + kd ≤ k) (h1 : 2 * (k + 2 * kd + 1) + 8 ≤ 800000) (h2 : nd * (k + 2 * kd + 5) ≤ 900000) (h3 : N ≤ 400000) (h4 : nd ≤ 100000)
  (J : DS → Prop) (hJ0 : J ⟨P, [], List.replicate ds.length []⟩) (hJ : ∀ s s', Alls ds P s → (∀ t ∈ s.p, t.1.le W) → J s → Step (keyO o) ds s s' → J s') :
  Calls Tryz.prog 10 #[.int .u8 o, p.v, .slice a qs.length c] w (DivD w fun s => BackR o ds P W k N s ∧ J s) := by
 have hgen : ∀ top : Int, (∀ t ∈ P, keyO o t.1 ≤ top) → (∀ t, Lead (keyO o) P t → top ≤ keyO o t.1) → Calls Tryz.prog 10 #[.int .u8 o, p.v, .slice a qs.length c] w (DivD w fun s => BackR o ds P W k N s ∧ J s) := fun top ht1 ht2 => by
  have hP := ((gi_divP (P := P) (top := top) hd hG hN hk h1 h2 h3 h4).also (fun s => P = [] → s.p = [] ∧ ∀ q ∈ s.os, q = []) (fun s s' _ hj hs he => absurd (hj he).1 hs.ne)).also J (fun s s' hi hj hs => hJ s s' hi.1.al (fun t ht => wt_le hd.pos (hi.1.w t ht)) hj hs)
  have h := divide_k o p P a c qs ds _ _ k kd nd N w ho hp hr hq hds hP ⟨⟨GI.start hp.canon hw hc ht1, fun he => ⟨he, fun q hq => (List.mem_replicate.1 hq).2⟩⟩, hJ0⟩ hl
  refine h.mono fun e w' h => (h.done fun s t i d hs hl ht => dno_ovf hd hs.1.1 hl.1 (List.mem_of_getElem? ht.1)).imp fun s hs h0 => ⟨hs.1.1.back hd hN hk h0 ht2 (fun he => (hs.1.2 he).2), hs.2⟩
 by_cases he : P = []
 ·subst he
  exact hgen 0 (fun t ht => by cases ht) (fun t ht => by cases ht.1)
 ·obtain ⟨t0, ht0⟩ := lead_ex (keyO o) he
  exact hgen (keyO o t0.1) ht0.2 (fun t ht => ht.2 t0 ht0.1)
theorem back_run {o : Int} {ds : List Dv} {P : List Tm} {p : PV} {ts : List TV} {Ls : List (List TV)} {a : Option Addr} {c : Nat} {qs : List (PV × List Tm)} {w : World} (ho0 : 0 ≤ o) (hg : DGood w o 8 p ts P Ls qs ds) (hgr : DGr o 8 6 ts Ls) (hr : RS w a (qs.map Prod.fst))
  (J : DS → Prop) (hJ0 : J ⟨P, [], List.replicate ds.length []⟩) (hJ : ∀ s s', Alls ds P s → (∀ t ∈ s.p, t.1.le 24) → J s → Step (keyO o) ds s s' → J s') :
  Calls Tryz.prog 10 #[.int .u8 o, p.v, .slice a qs.length c] w (DivD w fun s => BackR o ds P 24 11825 656 s ∧ J s) := by
 have hl : qs.length ≤ 1000 := by have := hg.q.len; have := hgr.n4; omega
 have hq : ∀ q ∈ qs, KP w q.1 q.2 := fun q hq => by
  obtain ⟨us, _, hi⟩ := hg.q.all hq
  exact hi.k
 rcases wts_ex ho0 hg.o2 hgr hg.p hg.q hg.e hg.lead with hw | hw
 ·refine (div_run hg.o2 hg.p.k hr hq hg.e hl (hg.dvb hgr hw (by decide)) hw.p hg.p.cd (Nat.le_refl _) box_1_6 (by decide : 5 + 8 + 18 * 656 + 4 ≤ 11825) (by decide) (by decide) (by decide) (by decide) J hJ0 (fun s s' h1 h2 h3 h4 => hJ s s' h1 (fun t ht => (h2 t ht).up (by decide)) h3 h4)).mono fun e w' h => h.imp fun s hs _ => ⟨⟨hs.1.al, hs.1.p0, fun t ht => ?_, hs.1.rn, fun i d q hi hq => ⟨(hs.1.o i d q hi hq).1, fun v hv => ?_⟩, hs.1.e⟩, hs.2⟩
  ·obtain ⟨g1, g2, g3⟩ := hs.1.rq t ht
   exact ⟨g1, g2.up (by decide), g3⟩
  ·obtain ⟨g1, g2, g3⟩ := (hs.1.o i d q hi hq).2 v hv
   exact ⟨g1, g2.up (by decide), g3⟩
 ·exact div_run hg.o2 hg.p.k hr hq hg.e hl (hg.dvb hgr hw (by decide)) hw.p hg.p.cd (Nat.le_refl _) box_8_24 (by decide : 5 + 8 + 18 * 656 + 4 ≤ 11825) (by decide) (by decide) (by decide) (by decide) J hJ0 hJ
theorem one_stands (m : Mo) : Mo.one.stands m := ⟨Nat.zero_le _, Nat.zero_le _, Nat.zero_le _, Nat.zero_le _⟩
theorem const_run {o : Int} {P : List Tm} {p y : PV} {q : Rat} {a : Option Addr} {c k0 W N k : Nat} {w : World} (ho : o ≤ 2) (hp : KP w p P) (hr : RS w a [y]) (hy : KP w y [(Mo.one, q)]) (hq0 : q ≠ 0) (hq : LQ q 21)
  (hw : ∀ t ∈ P, wt ⟨1, 1, 1, 1⟩ t.1 ≤ W) (hc : CD P k0) (hN : (boxM ⟨1, 1, 1, 1⟩ W).length ≤ N) (hW : W ≤ 65535) (hk : k0 + 43 * N + 21 ≤ k) (h1 : 2 * (k + 2 * 21 + 1) + 8 ≤ 800000) (h3 : N ≤ 400000) :
  Calls Tryz.prog 10 #[.int .u8 o, p.v, .slice a 1 c] w (DivD w fun s => s.r = [] ∧ s.os.length = 1) := by
 have hcd : CD [(Mo.one, q)] 21 := ⟨(q.den : Int), by have := q.den_pos; omega, hq.l, fun t ht => by
  rw [List.mem_singleton.1 ht]
  exact ⟨q.num, by have := num_den q; rw [Rat.intCast_natCast]; exact this, hq.t⟩⟩
 have hd : Dvb (keyO o) [((Mo.one, q), [(Mo.one, q)])] ⟨1, 1, 1, 1⟩ W 0 1 21 21 := by
  refine ⟨⟨keyO_key o, fun d hd => ?_, fun d hd => ?_, fun d hd t ht => ?_⟩, fun d hd t ht => ?_, fun d hd => ?_, fun d hd t ht => ?_, fun d hd => ?_, ⟨by decide, by decide, by decide, by decide⟩, by omega⟩
  ·rw [List.mem_singleton.1 hd]; exact canon_single hq0
  ·rw [List.mem_singleton.1 hd]; exact ⟨List.mem_singleton.2 rfl, fun s hs => by rw [List.mem_singleton.1 hs]; exact Int.le_refl _⟩
  ·rw [List.mem_singleton.1 hd] at ht
   rw [List.mem_singleton.1 ht]
   exact ⟨Nat.le_refl _, Nat.le_refl _, Nat.le_refl _, Nat.le_refl _⟩
  ·rw [List.mem_singleton.1 hd] at ht ⊢
   rw [List.mem_singleton.1 ht]
   exact Nat.le_refl _
  ·rw [List.mem_singleton.1 hd]; exact hcd
  ·rw [List.mem_singleton.1 hd] at ht
   rw [List.mem_singleton.1 ht]; exact hq
  ·rw [List.mem_singleton.1 hd]; exact Nat.le_refl _
 refine (div_run (qs := [(y, [(Mo.one, q)])]) ho hp hr (fun z hz => by rw [List.mem_singleton.1 hz]; exact hy) rfl (by decide : 1 ≤ 1000) hd hw hc (Nat.le_refl 43) hN hk h1 (by omega) h3 (by decide) (fun s => s.r = []) rfl (fun s s' _ _ hj hs => ?_)).mono fun e w' h => h.imp fun s hs _ => ⟨hs.2, hs.1.al.len⟩
 cases hs with
 | hit hl ht => exact hj
 | rest hl ht => exact absurd (one_stands _) (ht _ (List.mem_singleton.2 rfl))
abbrev tsOf (L : List TO) : List TV := L.map Prod.fst
abbrev LsOf (Xs : List (PV × List TO)) : List (List TV) := Xs.map fun e => e.2.map Prod.fst
theorem dgreat_raw {o : Int} (terms degree : Nat) {x : PV} {L : List TO} {a : Option Addr} {n c : Nat} {Xs : List (PV × List TO)} {w : World} (hx : RawL w x L) (hX : RawR w a n Xs) (ht : terms ≤ 1000) :
  Calls Tryz.prog 9 #[.int .u8 o, .int .i64 (terms : Int), .int .i64 (degree : Int), x.v, .slice a n c] w (BR w (DGr o terms degree (tsOf L) (LsOf Xs))) := by
 have h := dgreat o terms degree x (tsOf L) a c (Xs.map fun e => (e.1, tsOf e.2)) w hx.1.1 (by rw [List.length_map]; exact hx.1.2.1) hx.2 (fun t ht => by
   obtain ⟨e, he, rfl⟩ := List.mem_map.1 ht
   exact hx.1.2.2.2.2 e he) (by rw [List.map_map]; exact hX.row) (fun e he => by
   obtain ⟨e', he', rfl⟩ := List.mem_map.1 he
   obtain ⟨h1, h2⟩ := hX.e e' he'
   exact ⟨h1.1, by rw [List.length_map]; exact h1.2.1, h2, fun t ht => by
    obtain ⟨u, hu, rfl⟩ := List.mem_map.1 ht
    exact h1.2.2.2.2 u hu⟩) (by rw [List.length_map, hX.len]; exact hX.n) ht
 rw [List.length_map, hX.len, List.map_map] at h
 exact h
theorem sort_in3 {o : Int} {x : PV} {L : List TO} {a : Option Addr} {n terms degree : Nat} {Xs : List (PV × List TO)} {w : World} (hx : RawL w x L) (hX : RawR w a n Xs) (hg : DGr o terms degree (tsOf L) (LsOf Xs)) (ht : terms ≤ 1000) :
  RefD w o x (Xs.map Prod.fst) 1 ∨ RefD w o x (Xs.map Prod.fst) 6 ∨ ∃ (P : List Tm) (qs : List (PV × List Tm)) (ds : List Dv), DGood w o terms x (tsOf L) P (LsOf Xs) qs ds ∧ qs.map Prod.fst = Xs.map Prod.fst := by
 rcases sort_in o x L Xs terms w hx.1 (fun e he => (hX.e e he).1) hg.p (fun e he => (hg.l _ (List.mem_map_of_mem (f := fun e : PV × List TO => e.2.map Prod.fst) he)).1) ht with h | ⟨k, rfl | rfl, h⟩
 ·exact Or.inr (Or.inr h)
 ·exact Or.inl h
 ·exact Or.inr (Or.inl h)
theorem refD_div {o k : Int} {x : PV} {a : Option Addr} {n c : Nat} {Xs : List (PV × List TO)} {w w1 : World} (h : RefD w o x (Xs.map Prod.fst) k) (hX : RawR w a n Xs) (hn : n ≤ 4) (hb : Below w.heap.size w w1) :
  Calls Tryz.prog 10 #[.int .u8 o, x.v, .slice a n c] w1 fun e w' => e = .returned (.tuple #[.slice none 0 0, .slice none 0 0, .int .i64 k]) ∧ Below w1.heap.size w1 w' := by
 have h1 := h w1 a c [] hb (fun x hx => by cases hx) (by rw [List.append_nil, List.length_map, hX.len]; omega) (by rw [List.append_nil]; exact hX.row.below hb)
 rw [List.append_nil, List.length_map, hX.len] at h1
 exact h1
theorem DGr.n {o : Int} {terms degree n : Nat} {ts : List TV} {Xs : List (PV × List TO)} {w : World} {a : Option Addr} (h : DGr o terms degree ts (LsOf Xs)) (hX : RawR w a n Xs) : n ≤ 4 := by
 have := h.n4
 rw [List.length_map, hX.len] at this
 exact this
theorem good_row {o : Int} {terms n : Nat} {x : PV} {L : List TO} {P : List Tm} {qs : List (PV × List Tm)} {ds : List Dv} {a : Option Addr} {Xs : List (PV × List TO)} {w : World} (_hg : DGood w o terms x (tsOf L) P (LsOf Xs) qs ds) (hqf : qs.map Prod.fst = Xs.map Prod.fst) (hX : RawR w a n Xs) : RS w a (qs.map Prod.fst) ∧ qs.length = n := by
 refine ⟨by rw [hqf]; exact hX.row, ?_⟩
 have := congrArg List.length hqf
 rw [List.length_map, List.length_map, hX.len] at this
 exact this
theorem nf_one {q : Rat} (h : q ≠ 0) : nf [(Mo.one, q)] = [(Mo.one, q)] := nf_eq (canon_single h) fun _ => rfl
end Go.Proofs.YthcccdjfedbnfaaGreat.Pol

