/-
  The walk of Cmp of package monos: by which order, of two products.
-/
import Derived.Test.YtlhkiodgjcbjbaaMonoRev
namespace Go.Proofs.Ytlhkiodgjcbjbaa.Mono
open Go.RowKit Go.Sort

def cmpM (o : Int) (a b : Nat → Int) : Int :=
  if o = 1 then (if cmpZ (degM a) (degM b) = 0 then lexM a b else cmpZ (degM a) (degM b))
  else if o = 2 then (if cmpZ (degM a) (degM b) = 0 then (if lexM (revM b) (revM a) = 0 then lexM a b else lexM (revM b) (revM a)) else cmpZ (degM a) (degM b))
  else lexM a b

/-- One function of the list: it is called, its answer looked at. -/
theorem ords_below {B C : Nat} {X Y : World} (h : Ords B X) (hb : Below C X Y) (hC : B + 1 + 1 < C) : Ords B Y :=
  ⟨(hb.block _ (by omega)).trans h.1, ⟨(hb.cell (p := ⟨B + 1, 0, none⟩) (by show B + 1 < C; omega)).trans h.2.1.1, (hb.cell (p := ⟨B + 1, 1, none⟩) (by show B + 1 < C; omega)).trans h.2.1.2⟩,
    (hb.cell (p := ⟨B + 1 + 1, 0, none⟩) (by show B + 1 + 1 < C; omega)).trans h.2.2.1, (hb.cell (p := ⟨B + 1 + 1, 1, none⟩) (by show B + 1 + 1 < C; omega)).trans h.2.2.2⟩

theorem bne_of {x : Int} (h : ¬ x = 0) : (x != 0) = true := by simpa using h
theorem bne_not {x : Int} (h : x = 0) : (x != 0) = false := by simpa using h

set_option maxHeartbeats 2000000 in
theorem cmp_one (a b : Nat → Int) (w : World) (ha : Small a) (hb : Small b) :
    Calls Try.prog 19 #[.int .u8 1, mvf a, mvf b] w fun e w' => e = .returned (.int .i64 (cmpM 1 a b)) ∧ Below w.heap.size w w' := by
  have HA := Lib.hid ha; clear ha
  have HB := Lib.hid hb; clear hb
  have HX := Lib.hid (boxes w 24 a b)
  go_enter Try.func19, Try.ntmps19
  go_wp2_with fail
  refine (orders_any _).mono ?_
  rintro e w1 ⟨rfl, ho, hb1⟩
  have A1 := rowBelow HX.out.1 hb1 (by simp; omega)
  have B1 := rowBelow HX.out.2 hb1 (by simp)
  have G1 := Lib.hid ((Below.refl _ _).alloc (Nat.le_refl _) _ |>.alloc (by go_size) _ |>.trans (hb1.mono (by go_size)) : Below w.heap.size w w1)
  simp only [World.size_alloc] at ho
  have O1 := Lib.hid ho
  have lk := look2 ho.1 1
  obtain ⟨a10, a11, a12, a13⟩ := rowc A1
  obtain ⟨b10, b11, b12, b13⟩ := rowc B1
  have RA1 := Lib.hid A1
  have RB1 := Lib.hid B1
  have LT1 := Lib.hid (show w.heap.size + 1 + 1 + 1 + 1 < w1.heap.size from block_lt_of_cell ho.2.2.1)
  clear ho hb1 A1 B1
  have c0 := O1.out.2.1.1
  have c1 := O1.out.2.1.2
  have E := Lib.hid (show cmpM 1 a b = if cmpZ (degM a) (degM b) = 0 then lexM a b else cmpZ (degM a) (degM b) from rfl)
  go_wp2_with fail
  refine wp_loop_rounds 3 ?_
  rw [rounds_succ]
  go_wp2_with fail
  refine (graded_any a b _ HA.out HB.out).mono ?_
  rintro e w2 ⟨rfl, hb2⟩
  have RA2 := Lib.hid (rowBelow RA1.out hb2 (by have := LT1.out; omega))
  have RB2 := Lib.hid (rowBelow RB1.out hb2 (by have := LT1.out; omega))
  have G2 := Lib.hid (G1.out.trans (hb2.mono G1.out.size))
  have O2 := Lib.hid (ords_below O1.out hb2 (by have := LT1.out; omega))
  have LT2 := Lib.hid (Nat.lt_of_lt_of_le LT1.out hb2.size)
  obtain ⟨a20, a21, a22, a23⟩ := rowc RA2.out
  obtain ⟨b20, b21, b22, b23⟩ := rowc RB2.out
  clear hb2
  clear c0 c1
  have c0 := O2.out.2.1.1
  have c1 := O2.out.2.1.2
  by_cases z : cmpZ (degM a) (degM b) = 0
  · have Z := Lib.hid z
    have zb := bne_not z
    clear z
    go_wp2_with fail
    rw [rounds_succ]
    go_wp2_with fail
    refine (lexical_any a b _).mono ?_
    rintro e w3 ⟨rfl, hb3⟩
    have RA3 := Lib.hid (rowBelow RA2.out hb3 (by have := LT2.out; omega))
    have RB3 := Lib.hid (rowBelow RB2.out hb3 (by have := LT2.out; omega))
    have G3 := Lib.hid (G2.out.trans (hb3.mono G2.out.size))
    have O3 := Lib.hid (ords_below O2.out hb3 (by have := LT2.out; omega))
    have LT3 := Lib.hid (Nat.lt_of_lt_of_le LT2.out hb3.size)
    obtain ⟨a30, a31, a32, a33⟩ := rowc RA3.out
    obtain ⟨b30, b31, b32, b33⟩ := rowc RB3.out
    clear hb3
    clear c0 c1
    by_cases y : lexM a b = 0
    · have yb := bne_not y
      have Y := Lib.hid y
      clear y
      go_wp2_with fail
      rw [rounds_succ]
      go_wp2_with fail
      refine (lexical_any a b _).mono ?_
      rintro e w4 ⟨rfl, hb4⟩
      have RA4 := Lib.hid (rowBelow RA3.out hb4 (by have := LT3.out; omega))
      have RB4 := Lib.hid (rowBelow RB3.out hb4 (by have := LT3.out; omega))
      have G4 := Lib.hid (G3.out.trans (hb4.mono G3.out.size))
      have O4 := Lib.hid (ords_below O3.out hb4 (by have := LT3.out; omega))
      have LT4 := Lib.hid (Nat.lt_of_lt_of_le LT3.out hb4.size)
      obtain ⟨a40, a41, a42, a43⟩ := rowc RA4.out
      obtain ⟨b40, b41, b42, b43⟩ := rowc RB4.out
      clear hb4
      go_wp2
      go_ret
      exact ⟨by rw [E.out, if_pos Z.out]; rfl, G4.out⟩
    · have yb := bne_of y
      clear y
      go_wp2
      go_ret
      exact ⟨by rw [E.out, if_pos Z.out]; rfl, G3.out⟩
  · have zb := bne_of z
    have Z := Lib.hid z
    clear z
    go_wp2
    go_ret
    exact ⟨by rw [E.out, if_neg Z.out]; rfl, G2.out⟩

set_option maxHeartbeats 2000000 in
theorem cmp_two (a b : Nat → Int) (w : World) (ha : Small a) (hb : Small b) :
    Calls Try.prog 19 #[.int .u8 2, mvf a, mvf b] w fun e w' => e = .returned (.int .i64 (cmpM 2 a b)) ∧ Below w.heap.size w w' := by
  have HA := Lib.hid ha; clear ha
  have HB := Lib.hid hb; clear hb
  have HX := Lib.hid (boxes w 24 a b)
  go_enter Try.func19, Try.ntmps19
  go_wp2_with fail
  refine (orders_any _).mono ?_
  rintro e w1 ⟨rfl, ho, hb1⟩
  have A1 := rowBelow HX.out.1 hb1 (by simp; omega)
  have B1 := rowBelow HX.out.2 hb1 (by simp)
  have G1 := Lib.hid ((Below.refl _ _).alloc (Nat.le_refl _) _ |>.alloc (by go_size) _ |>.trans (hb1.mono (by go_size)) : Below w.heap.size w w1)
  simp only [World.size_alloc] at ho
  have O1 := Lib.hid ho
  have lk := look2 ho.1 2
  obtain ⟨a10, a11, a12, a13⟩ := rowc A1
  obtain ⟨b10, b11, b12, b13⟩ := rowc B1
  have RA1 := Lib.hid A1
  have RB1 := Lib.hid B1
  have LT1 := Lib.hid (show w.heap.size + 1 + 1 + 1 + 1 < w1.heap.size from block_lt_of_cell ho.2.2.1)
  clear ho hb1 A1 B1
  have c0 := O1.out.2.2.1
  have c1 := O1.out.2.2.2
  have E := Lib.hid (show cmpM 2 a b = if cmpZ (degM a) (degM b) = 0 then (if lexM (revM b) (revM a) = 0 then lexM a b else lexM (revM b) (revM a)) else cmpZ (degM a) (degM b) from rfl)
  go_wp2_with fail
  refine wp_loop_rounds 3 ?_
  rw [rounds_succ]
  go_wp2_with fail
  refine (graded_any a b _ HA.out HB.out).mono ?_
  rintro e w2 ⟨rfl, hb2⟩
  have RA2 := Lib.hid (rowBelow RA1.out hb2 (by have := LT1.out; omega))
  have RB2 := Lib.hid (rowBelow RB1.out hb2 (by have := LT1.out; omega))
  have G2 := Lib.hid (G1.out.trans (hb2.mono G1.out.size))
  have O2 := Lib.hid (ords_below O1.out hb2 (by have := LT1.out; omega))
  have LT2 := Lib.hid (Nat.lt_of_lt_of_le LT1.out hb2.size)
  obtain ⟨a20, a21, a22, a23⟩ := rowc RA2.out
  obtain ⟨b20, b21, b22, b23⟩ := rowc RB2.out
  clear hb2
  clear c0 c1
  have c0 := O2.out.2.2.1
  have c1 := O2.out.2.2.2
  by_cases z : cmpZ (degM a) (degM b) = 0
  · have Z := Lib.hid z
    have zb := bne_not z
    clear z
    go_wp2_with fail
    rw [rounds_succ]
    go_wp2_with fail
    refine (backward_any a b _).mono ?_
    rintro e w3 ⟨rfl, hb3⟩
    have RA3 := Lib.hid (rowBelow RA2.out hb3 (by have := LT2.out; omega))
    have RB3 := Lib.hid (rowBelow RB2.out hb3 (by have := LT2.out; omega))
    have G3 := Lib.hid (G2.out.trans (hb3.mono G2.out.size))
    have O3 := Lib.hid (ords_below O2.out hb3 (by have := LT2.out; omega))
    have LT3 := Lib.hid (Nat.lt_of_lt_of_le LT2.out hb3.size)
    obtain ⟨a30, a31, a32, a33⟩ := rowc RA3.out
    obtain ⟨b30, b31, b32, b33⟩ := rowc RB3.out
    clear hb3
    clear c0 c1
    by_cases y : lexM (revM b) (revM a) = 0
    · have yb := bne_not y
      have Y := Lib.hid y
      clear y
      go_wp2_with fail
      rw [rounds_succ]
      go_wp2_with fail
      refine (lexical_any a b _).mono ?_
      rintro e w4 ⟨rfl, hb4⟩
      have RA4 := Lib.hid (rowBelow RA3.out hb4 (by have := LT3.out; omega))
      have RB4 := Lib.hid (rowBelow RB3.out hb4 (by have := LT3.out; omega))
      have G4 := Lib.hid (G3.out.trans (hb4.mono G3.out.size))
      have O4 := Lib.hid (ords_below O3.out hb4 (by have := LT3.out; omega))
      have LT4 := Lib.hid (Nat.lt_of_lt_of_le LT3.out hb4.size)
      obtain ⟨a40, a41, a42, a43⟩ := rowc RA4.out
      obtain ⟨b40, b41, b42, b43⟩ := rowc RB4.out
      clear hb4
      go_wp2
      go_ret
      exact ⟨by rw [E.out, if_pos Z.out, if_pos Y.out]; rfl, G4.out⟩
    · have yb := bne_of y
      have Y := Lib.hid y
      clear y
      go_wp2
      go_ret
      exact ⟨by rw [E.out, if_pos Z.out, if_neg Y.out]; rfl, G3.out⟩
  · have zb := bne_of z
    have Z := Lib.hid z
    clear z
    go_wp2
    go_ret
    exact ⟨by rw [E.out, if_neg Z.out]; rfl, G2.out⟩

set_option maxHeartbeats 2000000 in
theorem cmp_else (a b : Nat → Int) (o : Int) (h1 : (o == 1) = false) (h2 : (o == 2) = false) (w : World) (ha : Small a) (hb : Small b) :
    Calls Try.prog 19 #[.int .u8 o, mvf a, mvf b] w fun e w' => e = .returned (.int .i64 (cmpM o a b)) ∧ Below w.heap.size w w' := by
  have HA := Lib.hid ha; clear ha
  have HB := Lib.hid hb; clear hb
  have HX := Lib.hid (boxes w 24 a b)
  go_enter Try.func19, Try.ntmps19
  go_wp2_with fail
  refine (orders_any _).mono ?_
  rintro e w1 ⟨rfl, ho, hb1⟩
  have A1 := rowBelow HX.out.1 hb1 (by simp; omega)
  have B1 := rowBelow HX.out.2 hb1 (by simp)
  have G1 := Lib.hid ((Below.refl _ _).alloc (Nat.le_refl _) _ |>.alloc (by go_size) _ |>.trans (hb1.mono (by go_size)) : Below w.heap.size w w1)
  simp only [World.size_alloc] at ho
  have O1 := Lib.hid ho
  have lk := look2 ho.1 o
  obtain ⟨a10, a11, a12, a13⟩ := rowc A1
  obtain ⟨b10, b11, b12, b13⟩ := rowc B1
  have RA1 := Lib.hid A1
  have RB1 := Lib.hid B1
  have LT1 := Lib.hid (show w.heap.size + 1 + 1 + 1 + 1 < w1.heap.size from block_lt_of_cell ho.2.2.1)
  clear ho hb1 A1 B1
  have E := Lib.hid (show cmpM o a b = lexM a b by unfold cmpM; rw [if_neg (by simpa using h1), if_neg (by simpa using h2)])
  simp only [h1, h2, Bool.false_eq_true, if_false] at lk
  clear h1 h2
  go_wp2_with fail
  refine wp_loop_rounds 1 ?_
  rw [rounds_succ]
  go_wp2_with fail
  refine (lexical_any a b _).mono ?_
  rintro e w2 ⟨rfl, hb2⟩
  have RA2 := Lib.hid (rowBelow RA1.out hb2 (by have := LT1.out; omega))
  have RB2 := Lib.hid (rowBelow RB1.out hb2 (by have := LT1.out; omega))
  have G2 := Lib.hid (G1.out.trans (hb2.mono G1.out.size))
  have O2 := Lib.hid (ords_below O1.out hb2 (by have := LT1.out; omega))
  have LT2 := Lib.hid (Nat.lt_of_lt_of_le LT1.out hb2.size)
  obtain ⟨a20, a21, a22, a23⟩ := rowc RA2.out
  obtain ⟨b20, b21, b22, b23⟩ := rowc RB2.out
  clear hb2
  go_wp2
  go_ret
  exact ⟨by rw [E.out]; rfl, G2.out⟩

theorem cmp_any (o : Int) (a b : Nat → Int) (w : World) (ha : Small a) (hb : Small b) :
    Calls Try.prog 19 #[.int .u8 o, mvf a, mvf b] w fun e w' => e = .returned (.int .i64 (cmpM o a b)) ∧ Below w.heap.size w w' := by
  by_cases h1 : o = 1
  · subst h1; exact cmp_one a b w ha hb
  · by_cases h2 : o = 2
    · subst h2; exact cmp_two a b w ha hb
    · exact cmp_else a b o (by simpa using h1) (by simpa using h2) w ha hb
end Go.Proofs.Ytlhkiodgjcbjbaa.Mono
