/-
  The statement of DividesBack: whatever it is handed, it returns true, and what it was handed reads behind the call as it read before.
-/
import Derived.Test.YthcccdjfedbnfaaGreatDbM
import Derived.Test.YthcccdjfedbnfaaGreatRows
import Derived.WalkKit
import Derived.Lay
import Derived.MakeChecks
import Derived.Stop.LaidErr
import Derived.Deep.DeepWitnessRowRef
import Derived.ProofKit
import Derived.OpenShut
import Derived.Deep.DeepHandedRow
import Derived.Lib.LaidTab
set_option linter.unusedSimpArgs false
set_option linter.unusedVariables false
namespace Go.Proofs.YthcccdjfedbnfaaGreat.Limb
abbrev BI : Int := 1000000000
end Go.Proofs.YthcccdjfedbnfaaGreat.Limb
namespace Go.Proofs.YthcccdjfedbnfaaGreat.Pol
def sm : List Mo → (Mo → Rat) → Rat
 | [], _ => 0
 | m :: r, f => f m + sm r f
end Go.Proofs.YthcccdjfedbnfaaGreat.Pol
namespace Go.Proofs.YthcccdjfedbnfaaGreat.Pol
end Go.Proofs.YthcccdjfedbnfaaGreat.Pol
namespace Go.Proofs.YthcccdjfedbnfaaGreat.Pol
open Go.RowKit Go.Sort Go.Proofs.YthcccdjfedbnfaaGreat.Limb
theorem pcheck {w : World} {x : PV} {P : List Tm} {n k e : Nat} (hx : KP w x P) (b : PC P n k e) (hk : k ≤ 900000) (hn : n ≤ 1000000000) : Calls Tryz.prog 11 #[x.v] w fun e w' => e = .returned (.bool true) ∧ Below w.heap.size w w' :=
 check_k hx (b.lq hk) (Nat.le_trans (hx.n_le b) hn)
end Go.Proofs.YthcccdjfedbnfaaGreat.Pol
namespace Go.Proofs.YthcccdjfedbnfaaGreat.Pol
open Go.RowKit Go.Sort Go.Proofs.YthcccdjfedbnfaaGreat.Limb Go.ChangeShapes Go.WideShapes Go.ChangeAt
theorem RawR.below {w w' : World} {a : Option Addr} {n : Nat} {Xs : List (PV × List TO)} (h : RawR w a n Xs) (hb : Below w.heap.size w w') : RawR w' a n Xs := ⟨h.len, h.n, h.row.below hb, fun e he => (h.e e he).below hb⟩
set_option maxRecDepth 100000 in
theorem open_polysT {H : Type} {enc : TypeId × Value → H} {W : World} {sp : Nat → Bool} {hd : Bool} {fuel : Nat} {v : Value} {x : DataW H × List MemPlace}
  (hf : DataW.trod enc Tryz.prog W 0 sp hd fuel 25 [v] = some x) : ∃ (a : Option Addr) (n c : Nat) (Xs : List (PV × List TO)), v = .slice a n c ∧ RawR W a n Xs := by
 rcases DataW.trod_slice Tryz.underlying25 hf with ⟨e, _⟩ | ⟨a, len, cap, elems, rest, m, _, e, _, _, hl, hm, hel, hcs, _⟩
 ·simp only [List.cons.injEq, and_true] at e
  exact ⟨none, 0, 0, [], e, rfl, Nat.zero_le _, RS.nil _ _, fun e he => (by cases he)⟩
 ·simp only [List.cons.injEq, and_true] at e
  have h4 : maxLen = 9223372036854775807 := by decide
  obtain ⟨L, hL1, hL2⟩ := list_of (Φ := fun i (e : PV × List TO) => W.cells? 0 (a.add (i * 1)) 1 = some [e.1.v] ∧ RawL W e.1 e.2) len fun i hi => by
   have h1 := hcs i hi
   rw [cellsPoly, List.getElem?_eq_getElem (by omega)] at h1
   obtain ⟨l, h2, h3⟩ := Option.bind_eq_some_iff.1 h1
   obtain ⟨v, rfl⟩ : ∃ v, l = [v] := by
    rcases DataW.trod_slice Tryz.underlying24 h3 with ⟨e, _⟩ | ⟨_, _, _, _, _, _, _, e, _⟩
    ·exact ⟨_, e⟩
    ·exact ⟨_, e⟩
   obtain ⟨y, M, h5, h6⟩ := open_polyL h3
   exact ⟨(y, M), by rw [h2, h5], h6⟩
  refine ⟨some a, len, cap, L, e, hL1, by omega, ⟨fun hn => ?_⟩, fun e he => ?_⟩
  ·have hpos : 0 < L.length := List.length_pos_iff.2 fun h => hn (by rw [h]; rfl)
   obtain ⟨h1, -⟩ := hL2 0 _ (List.getElem?_eq_getElem hpos)
   have h2 := cells_at h1 0 (by omega)
   obtain ⟨b, off, spot⟩ := a
   have hspot : spot = none := by
    have h3 := World.cell?_spot (h2.trans rfl)
    simpa [Addr.add] using h3
   subst hspot
   refine ⟨b, off, rfl, fun i t hi => ?_⟩
   rw [List.getElem?_map] at hi
   obtain ⟨e, he, rfl⟩ := Option.map_eq_some_iff.1 hi
   obtain ⟨h3, -⟩ := hL2 i e he
   have h4 := cells_at h3 0 (by omega)
   rw [Go.WideShapes.add_plain, Go.WideShapes.add_plain, Nat.mul_one, Nat.add_zero] at h4
   exact h4
  ·obtain ⟨i, hi⟩ := List.mem_iff_getElem?.1 he
   exact (hL2 i e hi).2
set_option maxRecDepth 100000 in
theorem open_polysV {H : Type} {enc : TypeId × Value → H} {W : World} {base : Nat} {r : Reach} {sp : Nat → Bool} {hd : Bool} {v : Value} {d : DataW H} {p : List MemPlace}
  (hok : Value.okWide Tryz.prog W r base 25 v) (h : DataW.Trod enc Tryz.prog W 0 sp hd 25 v d p) : ∃ (a : Option Addr) (n c : Nat) (Xs : List (PV × List TO)), v = .slice a n c ∧ RawR W a n Xs := by
 obtain ⟨fuel, hf⟩ := h
 obtain ⟨a, n, c, rfl⟩ := Go.WideShapes.okWide_slice Tryz.underlying25 hok
 exact open_polysT hf
end Go.Proofs.YthcccdjfedbnfaaGreat.Pol
namespace Go.Proofs.YthcccdjfedbnfaaGreat.Pol
open Go.RowKit Go.Sort Go.Proofs.YthcccdjfedbnfaaGreat.Limb
structure SumI (ds : List Dv) (os : List (List Tm)) (P S : List Tm) (j : Nat) : Prop where
 pc : PC S (656 + 5248 * j) (11825 + 94641 * j) 30
 e : ∀ f, ev S f + evq (ds.drop j) (os.drop j) f = ev P f
theorem SumI.start {o : Int} {ds : List Dv} {P : List Tm} {s : DS} (h : BackR o ds P 24 11825 656 s) : SumI ds s.os P s.r 0 := by
 refine ⟨⟨h.al.cr, h.rn, fun t ht => (h.rq t ht).1, fun t ht => (h.rq t ht).2.1.up (by decide)⟩, fun f => ?_⟩
 have h5 := h.al.sum f
 rw [h.p0, ev_nil] at h5
 rw [List.drop_zero, List.drop_zero]
 grind
theorem SumI.step {ds : List Dv} {os : List (List Tm)} {P S q : List Tm} {d : Dv} {j : Nat} (h : SumI ds os P S j) (hd : ds[j]? = some d) (hq : os[j]? = some q) (b : PC (mulP q d.2) 5248 94640 30) : SumI ds os P (addP S (mulP q d.2)) (j + 1) := by
 have b2 := h.pc.add b (11825 + 94641 * j + 94640) 30 (by omega) (by omega) (Nat.le_refl _) (Nat.le_refl _)
 refine ⟨⟨addP_canon _ _, ?_, fun t ht => ?_, b2.b.ex⟩, fun f => ?_⟩
 ·exact Nat.le_trans b2.b.len (Nat.le_of_eq (by rw [Nat.mul_succ, Nat.add_assoc]))
 ·exact (addP_lq2 h.pc.c b.c h.pc.b.lq b.b.lq t ht).up (Nat.le_of_eq (by rw [Nat.mul_succ, Nat.add_assoc, Nat.add_assoc]))
 ·have h1 := h.e f
  rw [evq_drop hd hq] at h1
  rw [ev_addP]
  grind
theorem SumI.done {ds : List Dv} {os : List (List Tm)} {P S : List Tm} (h : SumI ds os P S ds.length) (hl : os.length = ds.length) (hP : Canon P) : S = P := canon_same h.pc.c hP fun f => by
 have h1 := h.e f
 rw [List.drop_length, ← hl, List.drop_length] at h1
 have h2 : evq [] [] f = 0 := rfl
 rw [h2, Rat.add_zero] at h1
 exact h1
theorem part_pc {q D : List Tm} (hq : Canon q) (hn : q.length ≤ 656) (hv : ∀ v ∈ q, LQ v.2 11825 ∧ v.1.le 24) (bD : PC D 8 4 6) : PC (mulP q D) 5248 94640 30 := by
 have bq : PC q 656 11825 24 := ⟨hq, hn, fun v h => (hv v h).1, fun v h => (hv v h).2⟩
 rw [mulP_comm]
 exact bD.mul bq
theorem part_c {x y : PV} {q D : List Tm} {w : World} (hx : KP w x q) (hy : KP w y D) (hn : q.length ≤ 656) (hv : ∀ v ∈ q, LQ v.2 11825 ∧ v.1.le 24) (bD : PC D 8 4 6) :
  Calls Tryz.prog 13 #[x.v, y.v] w fun e w' => ∃ z : PV, e = .returned z.v ∧ DP w' w.heap.size z (mulP q D) ∧ Below w.heap.size w w' := by
 have h8 := bD.b.len
 refine dmul x y q D w (mul_oB x y q D 11825 4 w hx hy (fun v h => (hv v h).1) bD.b.lq (Nat.le_trans (Nat.mul_le_mul_right _ (Nat.succ_le_succ h8)) (by decide)) (Nat.le_trans (Nat.mul_le_mul hn h8) (by decide)) (Nat.le_trans hn (by decide)) (Nat.le_trans h8 (by decide))) (no_ovf (fun v h => (hv v h).2) bD.b.ex (by decide : 24 + 6 ≤ 65535))
theorem part_top {o : Int} {ds : List Dv} {P q : List Tm} {s : DS} {d : Dv} {i : Nat} {u t : Tm} (h : BackR o ds P 24 11825 656 s) (hd : ds[i]? = some d) (hq : s.os[i]? = some q) (bD : PC d.2 8 4 6) (hl : Lead (keyO o) d.2 d.1) (hu : Lead (keyO o) (mulP q d.2) u) (ht : Lead (keyO o) P t) : keyO o u.1 ≤ keyO o t.1 := by
 obtain ⟨a, ha, b, hb, e⟩ := mulP_mo2 hu.1
 have h1 := (h.o i d q hd hq).2 a ha
 have h2 := h1.2.2 t ht
 refine Int.le_trans ?_ h2
 rw [← e]
 have hk := keyO_key o
 have ha1 : a.1.le 24 := h1.2.1
 have hb1 := bD.b.ex b hb
 have hd1 := bD.b.ex d.1 hl.1
 obtain ⟨a1, a2, a3, a4⟩ := ha1
 obtain ⟨b1, b2, b3, b4⟩ := hb1
 obtain ⟨d1, d2, d3, d4⟩ := hd1
 rw [hk.add a.1 b.1 ⟨by omega, by omega, by omega, by omega⟩ ⟨by omega, by omega, by omega, by omega⟩ ⟨by show a.1.x + b.1.x ≤ 65535; omega, by show a.1.y + b.1.y ≤ 65535; omega, by show a.1.z + b.1.z ≤ 65535; omega, by show a.1.t + b.1.t ≤ 65535; omega⟩,
  hk.add a.1 d.1.1 ⟨by omega, by omega, by omega, by omega⟩ ⟨by omega, by omega, by omega, by omega⟩ ⟨by show a.1.x + d.1.1.x ≤ 65535; omega, by show a.1.y + d.1.1.y ≤ 65535; omega, by show a.1.z + d.1.1.z ≤ 65535; omega, by show a.1.t + d.1.1.t ≤ 65535; omega⟩]
 exact Int.add_le_add_left (hl.2 b hb) _
theorem part_none {o : Int} {ds : List Dv} {P q D : List Tm} {s : DS} (h : BackR o ds P 24 11825 656 s) (hP : P = []) (hq : q ∈ s.os) : mulP q D = [] := by rw [h.e hP q hq]; rfl
structure CE (w : World) (a : Addr) (v : Value) : Prop where
 c : w.cell? a = some v
theorem CE.below {w w' : World} {a : Addr} {v : Value} (h : CE w a v) (hb : Below w.heap.size w w') : CE w' a v := ⟨cell_below h.c hb⟩
structure LeadB (o : Int) (P : List Tm) (m : Mo) (ok : Bool) : Prop where
 sm : m.Small
 no : ok = false → P = []
 yes : ok = true → ∃ q, Lead (keyO o) P (m, q)
def zeroFV : FV := ⟨⟨false, none, 0, 0⟩, ⟨false, none, 0, 0⟩⟩
theorem plead5 {w : World} {x : PV} {P : List Tm} {n k e : Nat} (o : Int) (hx : KP w x P) (b : PC P n k e) (hk : k ≤ 900000) (hn : n ≤ 1000000) (hne : P ≠ []) :
  Calls Tryz.prog 12 #[.int .u8 o, x.v] w fun e w' => ∃ (y : FV) (t : Tm), e = .returned (.tuple #[TV.v ⟨y, t.1⟩, .bool true]) ∧ DF w' w.heap.size y t.2 ∧ Lead (keyO o) P t ∧ Below w.heap.size w w' :=
 lead_k o x P w hx.any (b.lq hk) (Nat.le_trans (hx.n_le b) hn) hne
theorem pleadL5 {w : World} {x : PV} {P : List Tm} {n k e : Nat} {o : Int} {m : Mo} {q : Rat} (hx : KP w x P) (b : PC P n k e) (hl : Lead (keyO o) P (m, q)) (he : e ≤ 65535) (hk : k ≤ 900000) (hn : n ≤ 1000000) :
  Calls Tryz.prog 12 #[.int .u8 o, x.v] w fun e w' => ∃ y : FV, e = .returned (.tuple #[TV.v ⟨y, m⟩, .bool true]) ∧ DF w' w.heap.size y q ∧ Below w.heap.size w w' :=
 (plead5 o hx b hk hn (fun h => by have h1 := hl.1; rw [h] at h1; cases h1)).mono fun e w' ⟨y, t, h1, h2, h3, h4⟩ => by
  obtain rfl := lead_uniq (keyO_key o) b.c (fun t ht => (b.b.ex t ht).up he) h3 hl
  exact ⟨y, h1, h2, h4⟩
theorem lead_b {w : World} {x : PV} {P : List Tm} {n k e : Nat} (o : Int) (hx : KP w x P) (b : PC P n k e) (hk : k ≤ 900000) (hn : n ≤ 1000000) (he : e ≤ 65535) :
  Calls Tryz.prog 12 #[.int .u8 o, x.v] w fun e w' => ∃ (y : FV) (m : Mo) (ok : Bool), e = .returned (.tuple #[TV.v ⟨y, m⟩, .bool ok]) ∧ LeadB o P m ok ∧ Below w.heap.size w w' := by
 by_cases hz : P = []
 ·subst hz
  refine (lead_nil o x w hx.any (Nat.le_trans (hx.n_le b) hn)).mono ?_
  rintro e w' ⟨rfl, hb⟩
  exact ⟨zeroFV, Mo.one, false, rfl, ⟨⟨by decide, by decide, by decide, by decide⟩, fun _ => rfl, nofun⟩, hb⟩
 ·refine (plead5 o hx b hk hn hz).mono ?_
  rintro e w' ⟨y, t, rfl, _, hl, hb⟩
  exact ⟨y, t.1, true, rfl, ⟨(b.b.ex t hl.1).small he, nofun, fun _ => ⟨t.2, hl⟩⟩, hb⟩
theorem DGood.at {w : World} {o : Int} {x : PV} {ts : List TV} {P : List Tm} {Ls : List (List TV)} {qs : List (PV × List Tm)} {ds : List Dv} (hg : DGood w o 8 x ts P Ls qs ds) (hgr : DGr o 8 6 ts Ls) {j : Nat} {d : Dv} (hd : ds[j]? = some d) : ∃ q : PV, qs[j]? = some (q, d.2) ∧ KP w q d.2 ∧ PC d.2 8 4 6 ∧ Lead (keyO o) d.2 d.1 := by
 have h1 : (qs.map Prod.snd)[j]? = some d.2 := by rw [← hg.e, List.getElem?_map, hd]; rfl
 rw [List.getElem?_map] at h1
 obtain ⟨⟨q, D⟩, hq, e⟩ := Option.map_eq_some_iff.1 h1
 have e : D = d.2 := e
 subst e
 have hil := (List.getElem?_eq_some_iff.1 hq).1
 have hu := List.getElem?_eq_getElem (l := Ls) (i := j) (by rw [← hg.q.len]; exact hil)
 have hi := hg.q.i j _ _ hq hu
 exact ⟨q, hq, hi.k, ⟨hi.k.canon, hi.len, hi.lq, fun t ht => by
  have h2 := hi.tall (hgr.l _ (List.mem_of_getElem? hu)).2.1 t ht
  unfold Mo.many at h2
  exact ⟨by omega, by omega, by omega, by omega⟩⟩, hg.lead d (List.mem_of_getElem? hd)⟩
structure RndB (o : Int) (ds : List Dv) (P : List Tm) (s : DS) (d : Dv) (q : List Tm) (j : Nat) : Prop where
 hd : ds[j]? = some d
 hq : s.os[j]? = some q
 n : q.length ≤ 656
 v : ∀ v ∈ q, LQ v.2 11825 ∧ v.1.le 24
 bd : PC d.2 8 4 6
 pc : PC (mulP q d.2) 5248 94640 30
 ld : Lead (keyO o) d.2 d.1
theorem RndB.of {o : Int} {ds : List Dv} {P q : List Tm} {s : DS} {d : Dv} {j : Nat} (h : BackR o ds P 24 11825 656 s) (hd : ds[j]? = some d) (hq : s.os[j]? = some q) (bd : PC d.2 8 4 6) (hl : Lead (keyO o) d.2 d.1) : RndB o ds P s d q j := by
 have h1 := h.o j d q hd hq
 have hv : ∀ v ∈ q, LQ v.2 11825 ∧ v.1.le 24 := fun v hv => ⟨(h1.2 v hv).1, (h1.2 v hv).2.1⟩
 exact ⟨hd, hq, h1.1, hv, bd, part_pc (h.al.co q (List.mem_of_getElem? hq)) h1.1 hv bd, hl⟩
theorem RndB.top {o : Int} {ds : List Dv} {P q : List Tm} {s : DS} {d : Dv} {j : Nat} {m m0 : Mo} {ok : Bool} (h : BackR o ds P 24 11825 656 s) (r : RndB o ds P s d q j) (h1 : LeadB o (mulP q d.2) m true) (h0 : LeadB o P m0 ok) : ok = true ∧ keyO o m ≤ keyO o m0 := by
 obtain ⟨u, hu⟩ := h1.yes rfl
 have hok : ok = true := by
  rcases Bool.eq_false_or_eq_true ok with e | e
  ·exact e
  ·have h2 := part_none h (h0.no e) (List.mem_of_getElem? r.hq) (D := d.2)
   rw [h2] at hu
   cases hu.1
 obtain ⟨t, ht⟩ := h0.yes hok
 have h3 := part_top (u := (m, u)) (t := (m0, t)) h r.hd r.hq r.bd r.ld hu ht
 exact ⟨hok, h3⟩
theorem cmp_le {o : Int} {a b : Mo} (w : World) (ha : a.Small) (hb : b.Small) (h : keyO o a ≤ keyO o b) :
  Calls Tryz.prog 15 #[.int .u8 o, Mo.v a, Mo.v b] w fun e w' => ∃ k : Int, e = .returned (.int .i64 k) ∧ k ≤ 0 ∧ Below w.heap.size w w' := by
 refine (show Calls Tryz.prog 15 #[.int .u8 o, Mo.v a, Mo.v b] w _ from Mono.cmp_any o (moF a) (moF b) w (moF_small ha) (moF_small hb)).mono ?_
 rintro e w' ⟨rfl, h2⟩
 refine ⟨_, rfl, ?_, h2⟩
 rw [Mono.cmp_key (o := o) (moF_small ha) (moF_small hb)]
 have := (not_congr (cmpZ_dec (a := keyO o a) (b := keyO o b))).2 (Int.not_lt.2 h)
 exact Int.not_lt.1 this
theorem pc_in {w : World} {x : PV} {ts : List TV} {P : List Tm} {m d : Nat} (h : InP w x ts m P) (ht : tallB d ts = false) : PC P m 4 d := ⟨h.k.canon, h.len, h.lq, fun t hm => by
 have := h.tall ht t hm
 unfold Mo.many at this
 exact ⟨by omega, by omega, by omega, by omega⟩⟩
structure RowZ (w : World) (a : Option Addr) (zs : List PV) (os : List (List Tm)) : Prop where
 c : ∀ (i : Nat) (z : PV), zs[i]? = some z → ∃ g, a = some ⟨g, 0, none⟩ ∧ w.cell? ⟨g, i, none⟩ = some z.v
 k : ∀ (i : Nat) (z : PV) (q : List Tm), zs[i]? = some z → os[i]? = some q → KP w z q
theorem RowZ.below {w w' : World} {a : Option Addr} {zs : List PV} {os : List (List Tm)} (h : RowZ w a zs os) (hb : Below w.heap.size w w') : RowZ w' a zs os :=
 ⟨fun i z hi => by obtain ⟨g, e, h1⟩ := h.c i z hi; exact ⟨g, e, cell_below h1 hb⟩, fun i z q h1 h2 => (h.k i z q h1 h2).below hb⟩
structure Bw (W w : World) : Prop where
 b : Below W.heap.size W w
theorem Bw.below {W w w' : World} (h : Bw W w) (hb : Below w.heap.size w w') : Bw W w' := ⟨h.b.trans (hb.mono h.b.size)⟩
theorem KP.te {w : World} {a : Option Addr} {n c : Nat} {P : List Tm} {t : Tm} {i : Nat} (h : KP w ⟨a, n, c⟩ P) (ht : P[i]? = some t) : ∃ (T : TV) (b o : Nat), a = some ⟨b, o, none⟩ ∧ RE w b o i T ∧ T.m = t.1 := by
 obtain ⟨L, h1, h2, _, h4⟩ := h.ex
 rw [← h4, List.getElem?_map] at ht
 obtain ⟨e, he, h5⟩ := Option.map_eq_some_iff.1 ht
 obtain ⟨b, o, ha, hc⟩ := (show RT w a (L.map Prod.fst) from h1).one (fun h0 => by rw [List.map_eq_nil_iff.1 h0] at he; simp at he)
 exact ⟨e.1, b, o, ha, hc i e.1 (by rw [List.getElem?_map, he]; rfl), congrArg Prod.fst h5⟩
set_option maxRecDepth 100000 in
set_option maxHeartbeats 16000000 in
theorem dividesBack_law (o : Int) (x : PV) (L : List TO) (a : Option Addr) (n c : Nat) (Xs : List (PV × List TO)) (w : World) (ho : 0 ≤ o) (hx : RawL w x L) (hX : RawR w a n Xs) :
  Calls Tryz.prog 3 #[.int .u8 o, .slice x.a x.n x.c, .slice a n c] w fun e w' => e = .returned (.bool true) ∧ Below w.heap.size w w' := by
 obtain ⟨pa, pn, pc⟩ := x
 have HX := Lib.hid hx; have HXX := Lib.hid hX; have HO := Lib.hid ho
 have KG := Lib.hid (Below.refl w.heap.size w)
 change Calls Tryz.prog 3 #[.int .u8 o, .slice pa pn pc, .slice a n c] w _
 clear ho hx hX
 go_enter Tryz.func3, Tryz.ntmps3
 have AL := Lib.hid (dalive w)
 go_wp2_with fail
 with_reducible refine AL.out.mono ?_
 rintro e w1 ⟨rfl, hb⟩
 have KG := Lib.hid (KG.out.trans (hb.mono KG.out.size))
 clear hb AL
 have CT := Lib.hid (show Calls Tryz.prog 9 #[.int .u8 o, .int .i64 8, .int .i64 6, .slice pa pn pc, .slice a n c] w1 _ from dgreat_raw (x := ⟨pa, pn, pc⟩) 8 6 (HX.out.below KG.out) (HXX.out.below KG.out) (by decide))
 go_wp2_with fail
 with_reducible refine CT.out.mono ?_
 rintro e w2 ⟨b, rfl, hn, hb⟩
 have KG := Lib.hid (KG.out.trans (hb.mono KG.out.size))
 have HN := Lib.hid hn
 clear hb hn CT
 rcases Bool.eq_false_or_eq_true b with rfl | rfl
 ·clear HN
  have AL := Lib.hid (dalive w2)
  go_wp2_with fail
  with_reducible refine AL.out.mono ?_
  rintro e w3 ⟨rfl, hb⟩
  have KG := Lib.hid (KG.out.trans (hb.mono KG.out.size))
  clear hb AL
  go_wp2_with fail
  go_ret
  exact ⟨rfl, KG.out⟩
 have HG := Lib.hid (HN.out rfl)
 clear HN
 have H4 := Lib.hid (show n ≤ 4 from HG.out.n HXX.out)
 rcases sort_in3 HX.out HXX.out HG.out (by decide) with hrf | hrf | ⟨P, qs, ds, hg, hqf⟩
 ·have CT := Lib.hid (show Calls Tryz.prog 10 #[.int .u8 o, .slice pa pn pc, .slice a n c] w2 _ from refD_div (x := ⟨pa, pn, pc⟩) hrf HXX.out H4.out KG.out)
  clear hrf
  go_wp2_with fail
  with_reducible refine CT.out.mono ?_
  rintro e w3 ⟨rfl, hb⟩
  have KG := Lib.hid (KG.out.trans (hb.mono KG.out.size))
  clear hb CT
  go_wp2_with fail
  go_ret
  exact ⟨rfl, KG.out⟩
 ·have CT := Lib.hid (show Calls Tryz.prog 10 #[.int .u8 o, .slice pa pn pc, .slice a n c] w2 _ from refD_div (x := ⟨pa, pn, pc⟩) hrf HXX.out H4.out KG.out)
  clear hrf
  go_wp2_with fail
  with_reducible refine CT.out.mono ?_
  rintro e w3 ⟨rfl, hb⟩
  have KG := Lib.hid (KG.out.trans (hb.mono KG.out.size))
  clear hb CT
  go_wp2_with fail
  go_ret
  exact ⟨rfl, KG.out⟩
 have HD := Lib.hid hg
 have HQR := Lib.hid (show RS w a (qs.map Prod.fst) ∧ qs.length = n from good_row hg hqf HXX.out)
 clear hg hqf
 have CT := Lib.hid (show Calls Tryz.prog 10 #[.int .u8 o, .slice pa pn pc, .slice a n c] w2 _ from (by
  have h := back_run (p := ⟨pa, pn, pc⟩) (a := a) (c := c) HO.out (HD.out.below KG.out) HG.out (HQR.out.1.below KG.out) (fun _ => True) trivial (fun _ _ _ _ _ _ => trivial)
  rw [HQR.out.2] at h
  exact h))
 go_wp2_with fail
 with_reducible refine CT.out.mono ?_
 rintro e w3 ⟨v, zs, ⟨ra, rn, rc⟩, s, he, hoq, hlen, hdp, hr, ⟨hs, _⟩, _, hb⟩
 obtain rfl : e = .returned (.tuple #[v, .slice ra rn rc, .int .i64 0]) := he
 have HDN := Lib.hid (show ds.length = n by rw [HD.out.len]; exact HQR.out.2)
 obtain ⟨qa, qc, hv, _, hrow⟩ := hoq.row
 rw [hlen, hs.al.len, HDN.out] at hv
 subst hv
 have KG := Lib.hid (KG.out.trans (hb.mono KG.out.size))
 have HB := Lib.hid hs
 have HZL := Lib.hid (show zs.length = n by rw [hlen, hs.al.len, HDN.out])
 have FR := Lib.hid (show KP w3 ⟨ra, rn, rc⟩ s.r from hr.k)
 have FP := Lib.hid (show KP w3 ⟨pa, pn, pc⟩ P from HD.out.p.k.below KG.out)
 have FZ := Lib.hid (show RowZ w3 qa zs s.os from ⟨hrow, fun i z q h1 h2 => (hdp i z q h1 h2).k⟩)
 have PCR := Lib.hid (show PC s.r 656 11825 24 from ⟨hs.al.cr, hs.rn, fun t ht => (hs.rq t ht).1, fun t ht => (hs.rq t ht).2.1⟩)
 have PCP := Lib.hid (show PC P 8 4 6 from pc_in HD.out.p HG.out.tp)
 have HRN := Lib.hid (show rn ≤ 656 by have h1 := hr.k.len; have h2 := hs.rn; show rn ≤ 656; have h1 : rn = s.r.length := h1; omega)
 clear hoq hlen hdp hr hs hb hrow CT
 have CT := Lib.hid (show Calls Tryz.prog 11 #[.slice ra rn rc] w3 _ from pcheck (x := ⟨ra, rn, rc⟩) FR.out PCR.out (by decide) (by decide))
 go_wp2_with fail
 with_reducible refine CT.out.mono ?_
 rintro e w4 ⟨rfl, hb⟩
 have FR := Lib.hid (FR.out.below hb)
 have FP := Lib.hid (FP.out.below hb)
 have FZ := Lib.hid (FZ.out.below hb)
 have KG := Lib.hid (KG.out.trans (hb.mono KG.out.size))
 clear hb CT
 go_wp2_with fail
 have CT := Lib.hid ((show Calls Tryz.prog 12 #[.int .u8 o, .slice pa pn pc] w4 _ from lead_b (x := ⟨pa, pn, pc⟩) o FP.out PCP.out (by decide) (by decide) (by decide)))
 with_reducible refine CT.out.mono ?_
 rintro e w101 ⟨fv0, m0, ok0, rfl, hlb, hb⟩
 clear CT
 have FR := Lib.hid (FR.out.below hb)
 have FP := Lib.hid (FP.out.below hb)
 have FZ := Lib.hid (FZ.out.below hb)
 have KG := Lib.hid (KG.out.trans (hb.mono KG.out.size))
 clear hb
 have LB0 := Lib.hid hlb
 clear hlb
 go_upto_region 9 with (fail)
 obtain ⟨v103, hV⟩ : ∃ V, V = w101.alloc (.cells #[.bool fv0.t.s, .slice fv0.t.a fv0.t.n fv0.t.c, .bool fv0.l.s, .slice fv0.l.a fv0.l.n fv0.l.c, .int .u16 m0.x, .int .u16 m0.y, .int .u16 m0.z, .int .u16 m0.t] 41) := ⟨_, rfl⟩
 have hbV : Below w101.heap.size w101 v103 := by rw [hV]; exact ((Below.refl _ _).alloc (Nat.le_refl _) _)
 have BX102 := Lib.hid (show Bxs v103 (w101.heap.size) 41 [.bool fv0.t.s, .slice fv0.t.a fv0.t.n fv0.t.c, .bool fv0.l.s, .slice fv0.l.a fv0.l.n fv0.l.c, .int .u16 m0.x, .int .u16 m0.y, .int .u16 m0.z, .int .u16 m0.t] by have h := Bxs.new (w101) 41 [.bool fv0.t.s, .slice fv0.t.a fv0.t.n fv0.t.c, .bool fv0.l.s, .slice fv0.l.a fv0.l.n fv0.l.c, .int .u16 m0.x, .int .u16 m0.y, .int .u16 m0.z, .int .u16 m0.t]; rw [hV]; exact h)
 rw [show w101.alloc (.cells #[.bool fv0.t.s, .slice fv0.t.a fv0.t.n fv0.t.c, .bool fv0.l.s, .slice fv0.l.a fv0.l.n fv0.l.c, .int .u16 m0.x, .int .u16 m0.y, .int .u16 m0.z, .int .u16 m0.t] 41) = v103 from hV.symm]
 have FR := Lib.hid (FR.out.below hbV)
 have FP := Lib.hid (FP.out.below hbV)
 have FZ := Lib.hid (FZ.out.below hbV)
 have KG := Lib.hid (KG.out.trans (hbV.mono KG.out.size))
 clear hV hbV
 go_wp2_with fail
 go_loopw [12, 13] (fun sv i wr => ∃ (j : Nat) (z : PV) (S : List Tm), sv = z.v ∧ i = .int .i64 j ∧ j ≤ n ∧ KP wr z S ∧ SumI ds s.os P S j ∧ Below v103.heap.size v103 wr) (fun _ i _ => n - (intOf i).toNat)
 case atStart => exact ⟨0, ⟨ra, rn, rc⟩, s.r, rfl, rfl, Nat.zero_le _, FR.out, SumI.start HB.out, Below.refl _ _⟩
 case round =>
  obtain ⟨j, ⟨za, zn, zc⟩, S, hsv, rfl, hj, hks, hsi, hb0⟩ := hrel
  obtain rfl : _ = Value.slice za zn zc := hsv
  have FR := Lib.hid (FR.out.below hb0)
  have FP := Lib.hid (FP.out.below hb0)
  have FZ := Lib.hid (FZ.out.below hb0)
  have BX102 := Lib.hid (BX102.out.below hb0 BX102.out.lt)
  have KG := Lib.hid (KG.out.trans (hb0.mono KG.out.size))
  have BL := Lib.hid (show Bw v103 wr from ⟨hb0⟩)
  have HJ := Lib.hid hj; have FS := Lib.hid (show KP wr ⟨za, zn, zc⟩ S from hks); have SI := Lib.hid hsi
  clear hj hks hsi hb0
  by_cases hjn : j < n
  ·have HJN := Lib.hid hjn
   obtain ⟨d, hd⟩ : ∃ d, ds[j]? = some d := ⟨_, List.getElem?_eq_getElem (by rw [HDN.out]; exact hjn)⟩
   obtain ⟨q, hq⟩ : ∃ q, s.os[j]? = some q := ⟨_, List.getElem?_eq_getElem (by rw [HB.out.al.len, HDN.out]; exact hjn)⟩
   obtain ⟨z1, hz1⟩ : ∃ z, zs[j]? = some z := ⟨_, List.getElem?_eq_getElem (by rw [HZL.out]; exact hjn)⟩
   obtain ⟨y1, hy1, hky, hbd, hld⟩ := HD.out.at HG.out hd
   have RB := Lib.hid (RndB.of HB.out hd hq hbd hld)
   have HND := Lib.hid (show ∀ t ∈ s.r, ¬ d.1.1.stands t.1 from fun t ht => (HB.out.rq t ht).2.2 d (List.mem_of_getElem? hd))
   have F1 := Lib.hid (FZ.out.k j z1 q hz1 hq)
   have F2 := Lib.hid (hky.below KG.out)
   obtain ⟨g, e1, c1⟩ := FZ.out.c j z1 hz1
   obtain ⟨lb, lo, e2, c2⟩ := HQR.out.1.ex (fun h => by have h1 := HQR.out.2; rw [List.map_eq_nil_iff.1 h] at h1; have := HJN.out; rw [← h1] at this; exact absurd this (Nat.not_lt_zero _))
   have C1 := Lib.hid (show CE wr ⟨g, j, none⟩ (.slice z1.a z1.n z1.c) from ⟨c1⟩)
   have C2 := Lib.hid (show CE wr ⟨lb, lo + j, none⟩ (.slice y1.a y1.n y1.c) from ⟨cell_below (c2 j y1 (by rw [List.getElem?_map, hy1]; rfl)) KG.out⟩)
   have ek : IntKind.i64.wrap ((j : Int) + 1) = (j : Int) + 1 := IntWalk.i64_in _ (by have := HJN.out; have := H4.out; omega)
   have HEK := Lib.hid ek
   have HA := Lib.hid e2
   subst e1 e2
   clear hd hq hz1 hy1 hky hbd hld c1 c2 ek hjn HA
   go_upto_region 13 with (fail)
   refine Go.FreshS.wp_region_fresh 8 [] (Go.FreshS.spOf [])
    (fun w' => Below wr.heap.size wr w') (by kernel_rfl) (by kernel_rfl) (by kernel_rfl)
    (Go.FreshS.spOf_nil) (fun _ _ h hb => h.trans (hb.mono h.size)) ((Below.refl _ _).drew) ?_
   simp only [List.append_eq, List.cons_append, List.nil_append, List.take_succ_cons, List.take_zero, List.drop_succ_cons, List.drop_zero]
   refine Go.FreshS.wpF_reads rfl rfl rfl ?_ (fun w' hw' => ?_) ?_
   rotate_left
   ·have hb' := hw'.world
    skip
    clear hw'
    go_simp
    try rfl
   conv => arg 10; simp only [Act.put, List.setIfInBounds_toArray, List.set_cons_succ, List.set_cons_zero]
   refine Go.FreshS.wpF_reads rfl rfl rfl ?_ (fun w' hw' => ?_) ?_
   rotate_left
   ·have hb' := hw'.world
    skip
    clear hw'
    go_simp
    try rfl
   conv => arg 10; simp only [Act.put, List.setIfInBounds_toArray, List.set_cons_succ, List.set_cons_zero]
   refine Go.FreshS.wpF_reads rfl rfl rfl ?_ (fun w' hw' => ?_) ?_
   rotate_left
   ·have hb' := hw'.world
    have hn := HJN.out
    clear hw'
    go_simp
    try rfl
   conv => arg 10; simp only [Act.put, List.setIfInBounds_toArray, List.set_cons_succ, List.set_cons_zero]
   refine Go.FreshS.wpF_reads rfl rfl rfl ?_ (fun w' hw' => ?_) ?_
   rotate_left
   ·have hb' := hw'.world
    have hl := (C1.out.below hb').c
    clear hw'
    go_simp
    try rfl
   conv => arg 10; simp only [Act.put, List.setIfInBounds_toArray, List.set_cons_succ, List.set_cons_zero]
   refine Go.FreshS.wpF_reads rfl rfl rfl ?_ (fun w' hw' => ?_) ?_
   rotate_left
   ·have hb' := hw'.world
    skip
    clear hw'
    go_simp
    try rfl
   conv => arg 10; simp only [Act.put, List.setIfInBounds_toArray, List.set_cons_succ, List.set_cons_zero]
   refine Go.FreshS.wpF_reads rfl rfl rfl ?_ (fun w' hw' => ?_) ?_
   rotate_left
   ·have hb' := hw'.world
    skip
    clear hw'
    go_simp
    try rfl
   conv => arg 10; simp only [Act.put, List.setIfInBounds_toArray, List.set_cons_succ, List.set_cons_zero]
   refine Go.FreshS.wpF_reads rfl rfl rfl ?_ (fun w' hw' => ?_) ?_
   rotate_left
   ·have hb' := hw'.world
    have hn := HJN.out
    clear hw'
    go_simp
    try rfl
   conv => arg 10; simp only [Act.put, List.setIfInBounds_toArray, List.set_cons_succ, List.set_cons_zero]
   refine Go.FreshS.wpF_reads rfl rfl rfl ?_ (fun w' hw' => ?_) ?_
   rotate_left
   ·have hb' := hw'.world
    have hl := (C2.out.below hb').c
    clear hw'
    go_simp
    try rfl
   conv => arg 10; simp only [Act.put, List.setIfInBounds_toArray, List.set_cons_succ, List.set_cons_zero]
   refine Go.FreshS.wpF_nil (fun w104 hb hF => ?_)
   clear hF
   have FR := Lib.hid (FR.out.below hb)
   have FP := Lib.hid (FP.out.below hb)
   have FZ := Lib.hid (FZ.out.below hb)
   have BL := Lib.hid (BL.out.below hb)
   have FS := Lib.hid (FS.out.below hb)
   have F1 := Lib.hid (F1.out.below hb)
   have F2 := Lib.hid (F2.out.below hb)
   have C1 := Lib.hid (C1.out.below hb)
   have C2 := Lib.hid (C2.out.below hb)
   have BX102 := Lib.hid (BX102.out.below hb BX102.out.lt)
   have KG := Lib.hid (KG.out.trans (hb.mono KG.out.size))
   clear hb
   go_wp2_with fail
   have CT := Lib.hid ((show Calls Tryz.prog 13 #[.slice z1.a z1.n z1.c, .slice y1.a y1.n y1.c] w104 _ from part_c (x := z1) (y := y1) F1.out F2.out RB.out.n RB.out.v RB.out.bd))
   with_reducible refine CT.out.mono ?_
   rintro e w105 ⟨z106, rfl, hN107, hb⟩
   have N107 := Lib.hid hN107
   clear hN107
   clear CT
   have FR := Lib.hid (FR.out.below hb)
   have FP := Lib.hid (FP.out.below hb)
   have FZ := Lib.hid (FZ.out.below hb)
   have BL := Lib.hid (BL.out.below hb)
   have FS := Lib.hid (FS.out.below hb)
   have F1 := Lib.hid (F1.out.below hb)
   have F2 := Lib.hid (F2.out.below hb)
   have C1 := Lib.hid (C1.out.below hb)
   have C2 := Lib.hid (C2.out.below hb)
   have BX102 := Lib.hid (BX102.out.below hb BX102.out.lt)
   have KG := Lib.hid (KG.out.trans (hb.mono KG.out.size))
   clear hb
   go_wp2_with fail
   have CT := Lib.hid ((show Calls Tryz.prog 14 #[.slice za zn zc, .slice z106.a z106.n z106.c] w105 _ from padd (x := ⟨za, zn, zc⟩) (y := z106) FS.out SI.out.pc N107.out.k RB.out.pc 306000 (by have := HJN.out; have := H4.out; omega) (by decide) (by decide) (by have := HJN.out; have := H4.out; omega)))
   with_reducible refine CT.out.mono ?_
   rintro e w108 ⟨z109, rfl, hN110, hb⟩
   have N110 := Lib.hid hN110
   clear hN110
   clear CT
   have FR := Lib.hid (FR.out.below hb)
   have FP := Lib.hid (FP.out.below hb)
   have FZ := Lib.hid (FZ.out.below hb)
   have BL := Lib.hid (BL.out.below hb)
   have FS := Lib.hid (FS.out.below hb)
   have F1 := Lib.hid (F1.out.below hb)
   have F2 := Lib.hid (F2.out.below hb)
   have C1 := Lib.hid (C1.out.below hb)
   have C2 := Lib.hid (C2.out.below hb)
   have N107 := Lib.hid (N107.out.below hb)
   have BX102 := Lib.hid (BX102.out.below hb BX102.out.lt)
   have KG := Lib.hid (KG.out.trans (hb.mono KG.out.size))
   clear hb
   go_wp2_with fail
   have CT := Lib.hid ((show Calls Tryz.prog 12 #[.int .u8 o, .slice z106.a z106.n z106.c] w108 _ from lead_b (x := z106) o N107.out.k RB.out.pc (by decide) (by decide) (by decide)))
   with_reducible refine CT.out.mono ?_
   rintro e w111 ⟨fv1, m1, ok1, rfl, hlb, hb⟩
   clear CT
   have FR := Lib.hid (FR.out.below hb)
   have FP := Lib.hid (FP.out.below hb)
   have FZ := Lib.hid (FZ.out.below hb)
   have BL := Lib.hid (BL.out.below hb)
   have FS := Lib.hid (FS.out.below hb)
   have F1 := Lib.hid (F1.out.below hb)
   have F2 := Lib.hid (F2.out.below hb)
   have C1 := Lib.hid (C1.out.below hb)
   have C2 := Lib.hid (C2.out.below hb)
   have N107 := Lib.hid (N107.out.below hb)
   have N110 := Lib.hid (N110.out.below hb)
   have BX102 := Lib.hid (BX102.out.below hb BX102.out.lt)
   have KG := Lib.hid (KG.out.trans (hb.mono KG.out.size))
   clear hb
   have LB1 := Lib.hid hlb
   clear hlb
   go_upto_region 16 with (fail)
   obtain ⟨v113, hV⟩ : ∃ V, V = w111.alloc (.cells #[.bool fv1.t.s, .slice fv1.t.a fv1.t.n fv1.t.c, .bool fv1.l.s, .slice fv1.l.a fv1.l.n fv1.l.c, .int .u16 m1.x, .int .u16 m1.y, .int .u16 m1.z, .int .u16 m1.t] 41) := ⟨_, rfl⟩
   have hbV : Below w111.heap.size w111 v113 := by rw [hV]; exact ((Below.refl _ _).alloc (Nat.le_refl _) _)
   have BX112 := Lib.hid (show Bxs v113 (w111.heap.size) 41 [.bool fv1.t.s, .slice fv1.t.a fv1.t.n fv1.t.c, .bool fv1.l.s, .slice fv1.l.a fv1.l.n fv1.l.c, .int .u16 m1.x, .int .u16 m1.y, .int .u16 m1.z, .int .u16 m1.t] by have h := Bxs.new (w111) 41 [.bool fv1.t.s, .slice fv1.t.a fv1.t.n fv1.t.c, .bool fv1.l.s, .slice fv1.l.a fv1.l.n fv1.l.c, .int .u16 m1.x, .int .u16 m1.y, .int .u16 m1.z, .int .u16 m1.t]; rw [hV]; exact h)
   rw [show w111.alloc (.cells #[.bool fv1.t.s, .slice fv1.t.a fv1.t.n fv1.t.c, .bool fv1.l.s, .slice fv1.l.a fv1.l.n fv1.l.c, .int .u16 m1.x, .int .u16 m1.y, .int .u16 m1.z, .int .u16 m1.t] 41) = v113 from hV.symm]
   have FR := Lib.hid (FR.out.below hbV)
   have FP := Lib.hid (FP.out.below hbV)
   have FZ := Lib.hid (FZ.out.below hbV)
   have BL := Lib.hid (BL.out.below hbV)
   have FS := Lib.hid (FS.out.below hbV)
   have F1 := Lib.hid (F1.out.below hbV)
   have F2 := Lib.hid (F2.out.below hbV)
   have C1 := Lib.hid (C1.out.below hbV)
   have C2 := Lib.hid (C2.out.below hbV)
   have N107 := Lib.hid (N107.out.below hbV)
   have N110 := Lib.hid (N110.out.below hbV)
   have BX102 := Lib.hid (BX102.out.below hbV BX102.out.lt)
   have KG := Lib.hid (KG.out.trans (hbV.mono KG.out.size))
   clear hV hbV
   rcases Bool.eq_false_or_eq_true ok1 with rfl | rfl
   ·obtain ⟨hok, hle⟩ := RB.out.top HB.out LB1.out LB0.out
    subst hok
    have HLE := Lib.hid hle
    clear hle
    have cBX1120 := BX112.out.cell (i := 0) rfl
    have cBX1121 := BX112.out.cell (i := 1) rfl
    have cBX1122 := BX112.out.cell (i := 2) rfl
    have cBX1123 := BX112.out.cell (i := 3) rfl
    have cBX1124 := BX112.out.cell (i := 4) rfl
    have cBX1125 := BX112.out.cell (i := 5) rfl
    have cBX1126 := BX112.out.cell (i := 6) rfl
    have cBX1127 := BX112.out.cell (i := 7) rfl
    have cBX112f := BX112.out.fz
    have cBX112l := BX112.out.lt
    have cBX1020 := BX102.out.cell (i := 0) rfl
    have cBX1021 := BX102.out.cell (i := 1) rfl
    have cBX1022 := BX102.out.cell (i := 2) rfl
    have cBX1023 := BX102.out.cell (i := 3) rfl
    have cBX1024 := BX102.out.cell (i := 4) rfl
    have cBX1025 := BX102.out.cell (i := 5) rfl
    have cBX1026 := BX102.out.cell (i := 6) rfl
    have cBX1027 := BX102.out.cell (i := 7) rfl
    have cBX102f := BX102.out.fz
    have cBX102l := BX102.out.lt
    go_wp2_with fail
    have CT := Lib.hid ((show Calls Tryz.prog 15 #[.int .u8 o, .agg #[.int .u16 m1.x, .int .u16 m1.y, .int .u16 m1.z, .int .u16 m1.t], .agg #[.int .u16 m0.x, .int .u16 m0.y, .int .u16 m0.z, .int .u16 m0.t]] v113 _ from cmp_le _ LB1.out.sm LB0.out.sm HLE.out))
    with_reducible refine CT.out.mono ?_
    rintro e w114 ⟨k, rfl, hk, hb⟩
    clear CT
    clear cBX1120 cBX1121 cBX1122 cBX1123 cBX1124 cBX1125 cBX1126 cBX1127 cBX112f cBX112l
    clear cBX1020 cBX1021 cBX1022 cBX1023 cBX1024 cBX1025 cBX1026 cBX1027 cBX102f cBX102l
    have FR := Lib.hid (FR.out.below hb)
    have FP := Lib.hid (FP.out.below hb)
    have FZ := Lib.hid (FZ.out.below hb)
    have BL := Lib.hid (BL.out.below hb)
    have FS := Lib.hid (FS.out.below hb)
    have F1 := Lib.hid (F1.out.below hb)
    have F2 := Lib.hid (F2.out.below hb)
    have C1 := Lib.hid (C1.out.below hb)
    have C2 := Lib.hid (C2.out.below hb)
    have N107 := Lib.hid (N107.out.below hb)
    have N110 := Lib.hid (N110.out.below hb)
    have BX102 := Lib.hid (BX102.out.below hb BX102.out.lt)
    have BX112 := Lib.hid (BX112.out.below hb BX112.out.lt)
    have KG := Lib.hid (KG.out.trans (hb.mono KG.out.size))
    clear hb
    have hk2 : ¬ (k > 0) := Int.not_lt.2 hk
    have hk3 : ¬ (0 < k) := hk2
    clear hk
    have hl := C2.out.c
    have hn := HJN.out
    go_wp2_with fail
    have CT := Lib.hid ((show Calls Tryz.prog 12 #[.int .u8 o, .slice y1.a y1.n y1.c] w114 _ from pleadL5 (x := y1) (o := o) (m := d.1.1) (q := d.1.2) F2.out RB.out.bd RB.out.ld (by decide) (by decide) (by decide)))
    with_reducible refine CT.out.mono ?_
    rintro e w115 ⟨yd, rfl, _, hb⟩
    clear CT
    have FR := Lib.hid (FR.out.below hb)
    have FP := Lib.hid (FP.out.below hb)
    have FZ := Lib.hid (FZ.out.below hb)
    have BL := Lib.hid (BL.out.below hb)
    have FS := Lib.hid (FS.out.below hb)
    have F1 := Lib.hid (F1.out.below hb)
    have F2 := Lib.hid (F2.out.below hb)
    have C1 := Lib.hid (C1.out.below hb)
    have C2 := Lib.hid (C2.out.below hb)
    have N107 := Lib.hid (N107.out.below hb)
    have N110 := Lib.hid (N110.out.below hb)
    have BX102 := Lib.hid (BX102.out.below hb BX102.out.lt)
    have BX112 := Lib.hid (BX112.out.below hb BX112.out.lt)
    have KG := Lib.hid (KG.out.trans (hb.mono KG.out.size))
    clear hb
    go_upto_region 19 with (fail)
    obtain ⟨v117, hV⟩ : ∃ V, V = w115.alloc (.cells #[.bool yd.t.s, .slice yd.t.a yd.t.n yd.t.c, .bool yd.l.s, .slice yd.l.a yd.l.n yd.l.c, .int .u16 d.1.1.x, .int .u16 d.1.1.y, .int .u16 d.1.1.z, .int .u16 d.1.1.t] 41) := ⟨_, rfl⟩
    have hbV : Below w115.heap.size w115 v117 := by rw [hV]; exact ((Below.refl _ _).alloc (Nat.le_refl _) _)
    have BX116 := Lib.hid (show Bxs v117 (w115.heap.size) 41 [.bool yd.t.s, .slice yd.t.a yd.t.n yd.t.c, .bool yd.l.s, .slice yd.l.a yd.l.n yd.l.c, .int .u16 d.1.1.x, .int .u16 d.1.1.y, .int .u16 d.1.1.z, .int .u16 d.1.1.t] by have h := Bxs.new (w115) 41 [.bool yd.t.s, .slice yd.t.a yd.t.n yd.t.c, .bool yd.l.s, .slice yd.l.a yd.l.n yd.l.c, .int .u16 d.1.1.x, .int .u16 d.1.1.y, .int .u16 d.1.1.z, .int .u16 d.1.1.t]; rw [hV]; exact h)
    rw [show w115.alloc (.cells #[.bool yd.t.s, .slice yd.t.a yd.t.n yd.t.c, .bool yd.l.s, .slice yd.l.a yd.l.n yd.l.c, .int .u16 d.1.1.x, .int .u16 d.1.1.y, .int .u16 d.1.1.z, .int .u16 d.1.1.t] 41) = v117 from hV.symm]
    have FR := Lib.hid (FR.out.below hbV)
    have FP := Lib.hid (FP.out.below hbV)
    have FZ := Lib.hid (FZ.out.below hbV)
    have BL := Lib.hid (BL.out.below hbV)
    have FS := Lib.hid (FS.out.below hbV)
    have F1 := Lib.hid (F1.out.below hbV)
    have F2 := Lib.hid (F2.out.below hbV)
    have C1 := Lib.hid (C1.out.below hbV)
    have C2 := Lib.hid (C2.out.below hbV)
    have N107 := Lib.hid (N107.out.below hbV)
    have N110 := Lib.hid (N110.out.below hbV)
    have BX102 := Lib.hid (BX102.out.below hbV BX102.out.lt)
    have BX112 := Lib.hid (BX112.out.below hbV BX112.out.lt)
    have KG := Lib.hid (KG.out.trans (hbV.mono KG.out.size))
    clear hV hbV
    go_wp2_with fail
    go_loopw [19] (fun i wi => ∃ k : Nat, k ≤ rn ∧ i = .int .i64 k ∧ Below v117.heap.size v117 wi) (fun i _ => rn - (intOf i).toNat)
    case atStart => exact ⟨0, Nat.zero_le _, rfl, Below.refl _ _⟩
    case round =>
     obtain ⟨k, hk, rfl, hb0⟩ := hrel
     have FR := Lib.hid (FR.out.below hb0)
     have FP := Lib.hid (FP.out.below hb0)
     have FZ := Lib.hid (FZ.out.below hb0)
     have BL := Lib.hid (BL.out.below hb0)
     have FS := Lib.hid (FS.out.below hb0)
     have F1 := Lib.hid (F1.out.below hb0)
     have F2 := Lib.hid (F2.out.below hb0)
     have C1 := Lib.hid (C1.out.below hb0)
     have C2 := Lib.hid (C2.out.below hb0)
     have N107 := Lib.hid (N107.out.below hb0)
     have N110 := Lib.hid (N110.out.below hb0)
     have BX102 := Lib.hid (BX102.out.below hb0 BX102.out.lt)
     have BX112 := Lib.hid (BX112.out.below hb0 BX112.out.lt)
     have BX116 := Lib.hid (BX116.out.below hb0 BX116.out.lt)
     have KG := Lib.hid (KG.out.trans (hb0.mono KG.out.size))
     have BI := Lib.hid (show Bw v117 wr from ⟨hb0⟩)
     have HK := Lib.hid hk
     clear hk hb0
     by_cases hkn : k < rn
     ·have HKN := Lib.hid hkn
      have hkl : k < s.r.length := by have h1 : rn = s.r.length := FR.out.len; omega
      obtain ⟨t, ht⟩ : ∃ t, s.r[k]? = some t := ⟨_, List.getElem?_eq_getElem hkl⟩
      obtain ⟨T, rb, ro, hra, hrc, htm⟩ := FR.out.te ht
      obtain rfl : ra = some ⟨rb, ro, none⟩ := hra
      have RC := Lib.hid hrc
      have HTM := Lib.hid htm
      have HST := Lib.hid (show t.1.Small from FR.out.small t (List.mem_of_getElem? ht))
      have HSD := Lib.hid (show d.1.1.Small from (RB.out.bd.b.ex d.1 RB.out.ld.1).small (by decide))
      have HNS := Lib.hid (HND.out t (List.mem_of_getElem? ht))
      have ek : IntKind.i64.wrap ((k : Int) + 1) = (k : Int) + 1 := IntWalk.i64_in _ (by have := HKN.out; have := HRN.out; omega)
      clear ht hkl hrc htm hkn
      go_upto_region 22 with (fail)
      refine Go.FreshS.wp_region_fresh 13 [(12, 11)] (Go.FreshS.spOf [(7, Go.FreshS.Sp.know (.tuple #[.agg #[.int .u16 0, .int .u16 0, .int .u16 0, .int .u16 0], .bool false])), (11, Go.FreshS.Sp.box 39 4 wr.heap.size)])
       (fun w' => Below wr.heap.size wr w') (by kernel_rfl) (by kernel_rfl) (by kernel_rfl)
       (Go.FreshS.spOf_cons (Go.FreshS.Sp.know_keeps _ _) (Go.FreshS.spOf_cons (Go.FreshS.Sp.box_keeps _ _ _ _) (Go.FreshS.spOf_nil))) (fun _ _ h hb => h.trans (hb.mono h.size)) ((Below.refl _ _).drew) ?_
      simp only [List.append_eq, List.cons_append, List.nil_append, List.take_succ_cons, List.take_zero, List.drop_succ_cons, List.drop_zero]
      refine Go.FreshS.wpF_reads rfl rfl rfl ?_ (fun w' hw' => ?_) ?_
      rotate_left
      ·have hb' := hw'.world
       skip
       clear hw'
       go_simp
       try rfl
      conv => arg 10; simp only [Act.put, List.setIfInBounds_toArray, List.set_cons_succ, List.set_cons_zero]
      refine Go.FreshS.wpF_reads rfl rfl rfl ?_ (fun w' hw' => ?_) ?_
      rotate_left
      ·have hb' := hw'.world
       skip
       clear hw'
       go_simp
       try rfl
      conv => arg 10; simp only [Act.put, List.setIfInBounds_toArray, List.set_cons_succ, List.set_cons_zero]
      refine Go.FreshS.wpF_reads rfl rfl rfl ?_ (fun w' hw' => ?_) ?_
      rotate_left
      ·have hb' := hw'.world
       have hn := HKN.out
       clear hw'
       go_simp
       try rfl
      conv => arg 10; simp only [Act.put, List.setIfInBounds_toArray, List.set_cons_succ, List.set_cons_zero]
      refine Go.FreshS.wpF_reads rfl rfl rfl ?_ (fun w' hw' => ?_) ?_
      rotate_left
      ·have hb' := hw'.world
       skip
       clear hw'
       go_simp
       try rfl
      conv => arg 10; simp only [Act.put, List.setIfInBounds_toArray, List.set_cons_succ, List.set_cons_zero]
      refine Go.FreshS.wpF_reads rfl rfl rfl ?_ (fun w' hw' => ?_) ?_
      rotate_left
      ·have hb' := hw'.world
       obtain ⟨hs0, hs1, hs2, hs3, hs4, hs5, hs6, hs7⟩ := (RC.out.below hb').eight
       have hm := HTM.out
       clear hw'
       go_simp
       try rfl
      conv => arg 10; simp only [Act.put, List.setIfInBounds_toArray, List.set_cons_succ, List.set_cons_zero]
      refine Go.FreshS.wpF_reads rfl rfl rfl ?_ (fun w' hw' => ?_) ?_
      rotate_left
      ·have hb' := hw'.world
       skip
       clear hw'
       go_simp
       try rfl
      conv => arg 10; simp only [Act.put, List.setIfInBounds_toArray, List.set_cons_succ, List.set_cons_zero]
      refine Go.FreshS.wpF_reads rfl rfl rfl ?_ (fun w' hw' => ?_) ?_
      rotate_left
      ·have hb' := hw'.world
       have hs0 := (BX116.out.below hb' BX116.out.lt).cell (i := 0) rfl
       have hs1 := (BX116.out.below hb' BX116.out.lt).cell (i := 1) rfl
       have hs2 := (BX116.out.below hb' BX116.out.lt).cell (i := 2) rfl
       have hs3 := (BX116.out.below hb' BX116.out.lt).cell (i := 3) rfl
       have hs4 := (BX116.out.below hb' BX116.out.lt).cell (i := 4) rfl
       have hs5 := (BX116.out.below hb' BX116.out.lt).cell (i := 5) rfl
       have hs6 := (BX116.out.below hb' BX116.out.lt).cell (i := 6) rfl
       have hs7 := (BX116.out.below hb' BX116.out.lt).cell (i := 7) rfl
       have hsf := (BX116.out.below hb' BX116.out.lt).fz
       have hsl := (BX116.out.below hb' BX116.out.lt).lt
       clear hw'
       go_simp
       try rfl
      conv => arg 10; simp only [Act.put, List.setIfInBounds_toArray, List.set_cons_succ, List.set_cons_zero]
      refine Go.FreshS.wpF_spec rfl rfl rfl (fun w' hw' => ?_) ?_
      ·have hb' := hw'.world
       refine Go.FreshS.gives_of (Go.FreshS.PK (.tuple #[.agg #[.int .u16 0, .int .u16 0, .int .u16 0, .int .u16 0], .bool false])) ?_ (fun _ _ h => h.post)
       go_simp
       have CT := (show Calls Tryz.prog 16 #[.agg #[.int .u16 t.1.x, .int .u16 t.1.y, .int .u16 t.1.z, .int .u16 t.1.t], .agg #[.int .u16 d.1.1.x, .int .u16 d.1.1.y, .int .u16 d.1.1.z, .int .u16 d.1.1.t]] w' _ from mono_divN t.1 d.1.1 w' HST.out HSD.out HNS.out)
       refine CT.mono ?_
       rintro e w'' ⟨rfl, hb⟩
       exact ⟨_, rfl, rfl, hb⟩
      rintro _ rfl
      conv => arg 10; simp only [Act.put, List.setIfInBounds_toArray, List.set_cons_succ, List.set_cons_zero]
      refine Go.FreshS.wpF_reads rfl rfl rfl ?_ (fun w' hw' => ?_) ?_
      rotate_left
      ·have hb' := hw'.world
       skip
       clear hw'
       go_simp
       try rfl
      conv => arg 10; simp only [Act.put, List.setIfInBounds_toArray, List.set_cons_succ, List.set_cons_zero]
      refine Go.FreshS.wpF_reads rfl rfl rfl ?_ (fun w' hw' => ?_) ?_
      rotate_left
      ·have hb' := hw'.world
       skip
       clear hw'
       go_simp
       try rfl
      conv => arg 10; simp only [Act.put, List.setIfInBounds_toArray, List.set_cons_succ, List.set_cons_zero]
      refine Go.FreshS.wpF_reads rfl rfl rfl ?_ (fun w' hw' => ?_) ?_
      rotate_left
      ·have hb' := hw'.world
       skip
       clear hw'
       go_simp
       try rfl
      conv => arg 10; simp only [Act.put, List.setIfInBounds_toArray, List.set_cons_succ, List.set_cons_zero]
      refine Go.FreshS.wpF_spec rfl rfl rfl (fun w' hw' => ?_) ?_
      ·have hb' := hw'.world
       refine Go.FreshS.gives_of (Go.FreshS.PB 39 4 wr.heap.size w'.heap.size) ?_ (fun _ _ h => h.post)
       go_simp
       exact ⟨Go.FreshS.PB.new _ rfl hb'.size, (Below.refl _ _).alloc (Nat.le_refl _) _⟩
      rintro _ ⟨y11, rfl⟩
      conv => arg 10; simp only [Act.put, List.setIfInBounds_toArray, List.set_cons_succ, List.set_cons_zero]
      refine Go.FreshS.wpF_store rfl rfl 11 rfl rfl rfl rfl (fun _ => Iff.rfl) (fun w' hw' => ?_) ?_
      ·have hb' := hw'.world
       have hX := Go.FreshS.box_of (hw'.fact 11 (by kernel_rfl))
       obtain ⟨c0, c1, c2, c3, hB⟩ := shp4 hX.1
       have m0 := hB.cell (i := 0) rfl
       have m1 := hB.cell (i := 1) rfl
       have m2 := hB.cell (i := 2) rfl
       have m3 := hB.cell (i := 3) rfl
       have mf := hB.fz
       have ml := hB.lt
       refine Go.FreshS.stores_of ?_ (store4 hb' hX.2 hB (.int .u16 0) (.int .u16 0) (.int .u16 0) (.int .u16 0))
       clear hw'
       go_simp
       try rfl
      conv => arg 10; simp only [Act.put, List.setIfInBounds_toArray, List.set_cons_succ, List.set_cons_zero]
      refine Go.FreshS.wpF_nil (fun w119 hb hF => ?_)
      have BX118 := Lib.hid (show Bxs w119 y11 39 [.int .u16 0, .int .u16 0, .int .u16 0, .int .u16 0] from stored_bxs (hF.all 12))
      clear hF
      have FR := Lib.hid (FR.out.below hb)
      have FP := Lib.hid (FP.out.below hb)
      have FZ := Lib.hid (FZ.out.below hb)
      have BL := Lib.hid (BL.out.below hb)
      have FS := Lib.hid (FS.out.below hb)
      have F1 := Lib.hid (F1.out.below hb)
      have F2 := Lib.hid (F2.out.below hb)
      have C1 := Lib.hid (C1.out.below hb)
      have C2 := Lib.hid (C2.out.below hb)
      have N107 := Lib.hid (N107.out.below hb)
      have N110 := Lib.hid (N110.out.below hb)
      have BI := Lib.hid (BI.out.below hb)
      have BX102 := Lib.hid (BX102.out.below hb BX102.out.lt)
      have BX112 := Lib.hid (BX112.out.below hb BX112.out.lt)
      have BX116 := Lib.hid (BX116.out.below hb BX116.out.lt)
      have KG := Lib.hid (KG.out.trans (hb.mono KG.out.size))
      clear hb
      go_wp2_with fail
      go_roundw
      case rel => exact ⟨k + 1, by have := HKN.out; omega, rfl, BI.out.b⟩
      case measure => simp [intOf]; have := HKN.out; omega
     ·have hge : ¬ ((k : Int) < (rn : Int)) := by omega
      clear hkn
      have ek := HEK.out
      go_wp2_with fail
      go_roundw
      case rel => exact ⟨j + 1, z109, addP S (mulP q d.2), rfl, rfl, by have := HJN.out; omega, N110.out.k, SI.out.step RB.out.hd RB.out.hq RB.out.pc, BL.out.b⟩
      case measure => simp [intOf]; have := HJN.out; omega
   ·skip
    have hl := C2.out.c
    have hn := HJN.out
    go_wp2_with fail
    have CT := Lib.hid ((show Calls Tryz.prog 12 #[.int .u8 o, .slice y1.a y1.n y1.c] v113 _ from pleadL5 (x := y1) (o := o) (m := d.1.1) (q := d.1.2) F2.out RB.out.bd RB.out.ld (by decide) (by decide) (by decide)))
    with_reducible refine CT.out.mono ?_
    rintro e w120 ⟨yd, rfl, _, hb⟩
    clear CT
    have FR := Lib.hid (FR.out.below hb)
    have FP := Lib.hid (FP.out.below hb)
    have FZ := Lib.hid (FZ.out.below hb)
    have BL := Lib.hid (BL.out.below hb)
    have FS := Lib.hid (FS.out.below hb)
    have F1 := Lib.hid (F1.out.below hb)
    have F2 := Lib.hid (F2.out.below hb)
    have C1 := Lib.hid (C1.out.below hb)
    have C2 := Lib.hid (C2.out.below hb)
    have N107 := Lib.hid (N107.out.below hb)
    have N110 := Lib.hid (N110.out.below hb)
    have BX102 := Lib.hid (BX102.out.below hb BX102.out.lt)
    have BX112 := Lib.hid (BX112.out.below hb BX112.out.lt)
    have KG := Lib.hid (KG.out.trans (hb.mono KG.out.size))
    clear hb
    go_upto_region 19 with (fail)
    obtain ⟨v122, hV⟩ : ∃ V, V = w120.alloc (.cells #[.bool yd.t.s, .slice yd.t.a yd.t.n yd.t.c, .bool yd.l.s, .slice yd.l.a yd.l.n yd.l.c, .int .u16 d.1.1.x, .int .u16 d.1.1.y, .int .u16 d.1.1.z, .int .u16 d.1.1.t] 41) := ⟨_, rfl⟩
    have hbV : Below w120.heap.size w120 v122 := by rw [hV]; exact ((Below.refl _ _).alloc (Nat.le_refl _) _)
    have BX121 := Lib.hid (show Bxs v122 (w120.heap.size) 41 [.bool yd.t.s, .slice yd.t.a yd.t.n yd.t.c, .bool yd.l.s, .slice yd.l.a yd.l.n yd.l.c, .int .u16 d.1.1.x, .int .u16 d.1.1.y, .int .u16 d.1.1.z, .int .u16 d.1.1.t] by have h := Bxs.new (w120) 41 [.bool yd.t.s, .slice yd.t.a yd.t.n yd.t.c, .bool yd.l.s, .slice yd.l.a yd.l.n yd.l.c, .int .u16 d.1.1.x, .int .u16 d.1.1.y, .int .u16 d.1.1.z, .int .u16 d.1.1.t]; rw [hV]; exact h)
    rw [show w120.alloc (.cells #[.bool yd.t.s, .slice yd.t.a yd.t.n yd.t.c, .bool yd.l.s, .slice yd.l.a yd.l.n yd.l.c, .int .u16 d.1.1.x, .int .u16 d.1.1.y, .int .u16 d.1.1.z, .int .u16 d.1.1.t] 41) = v122 from hV.symm]
    have FR := Lib.hid (FR.out.below hbV)
    have FP := Lib.hid (FP.out.below hbV)
    have FZ := Lib.hid (FZ.out.below hbV)
    have BL := Lib.hid (BL.out.below hbV)
    have FS := Lib.hid (FS.out.below hbV)
    have F1 := Lib.hid (F1.out.below hbV)
    have F2 := Lib.hid (F2.out.below hbV)
    have C1 := Lib.hid (C1.out.below hbV)
    have C2 := Lib.hid (C2.out.below hbV)
    have N107 := Lib.hid (N107.out.below hbV)
    have N110 := Lib.hid (N110.out.below hbV)
    have BX102 := Lib.hid (BX102.out.below hbV BX102.out.lt)
    have BX112 := Lib.hid (BX112.out.below hbV BX112.out.lt)
    have KG := Lib.hid (KG.out.trans (hbV.mono KG.out.size))
    clear hV hbV
    go_wp2_with fail
    go_loopw [19] (fun i wi => ∃ k : Nat, k ≤ rn ∧ i = .int .i64 k ∧ Below v122.heap.size v122 wi) (fun i _ => rn - (intOf i).toNat)
    case atStart => exact ⟨0, Nat.zero_le _, rfl, Below.refl _ _⟩
    case round =>
     obtain ⟨k, hk, rfl, hb0⟩ := hrel
     have FR := Lib.hid (FR.out.below hb0)
     have FP := Lib.hid (FP.out.below hb0)
     have FZ := Lib.hid (FZ.out.below hb0)
     have BL := Lib.hid (BL.out.below hb0)
     have FS := Lib.hid (FS.out.below hb0)
     have F1 := Lib.hid (F1.out.below hb0)
     have F2 := Lib.hid (F2.out.below hb0)
     have C1 := Lib.hid (C1.out.below hb0)
     have C2 := Lib.hid (C2.out.below hb0)
     have N107 := Lib.hid (N107.out.below hb0)
     have N110 := Lib.hid (N110.out.below hb0)
     have BX102 := Lib.hid (BX102.out.below hb0 BX102.out.lt)
     have BX112 := Lib.hid (BX112.out.below hb0 BX112.out.lt)
     have BX121 := Lib.hid (BX121.out.below hb0 BX121.out.lt)
     have KG := Lib.hid (KG.out.trans (hb0.mono KG.out.size))
     have BI := Lib.hid (show Bw v122 wr from ⟨hb0⟩)
     have HK := Lib.hid hk
     clear hk hb0
     by_cases hkn : k < rn
     ·have HKN := Lib.hid hkn
      have hkl : k < s.r.length := by have h1 : rn = s.r.length := FR.out.len; omega
      obtain ⟨t, ht⟩ : ∃ t, s.r[k]? = some t := ⟨_, List.getElem?_eq_getElem hkl⟩
      obtain ⟨T, rb, ro, hra, hrc, htm⟩ := FR.out.te ht
      obtain rfl : ra = some ⟨rb, ro, none⟩ := hra
      have RC := Lib.hid hrc
      have HTM := Lib.hid htm
      have HST := Lib.hid (show t.1.Small from FR.out.small t (List.mem_of_getElem? ht))
      have HSD := Lib.hid (show d.1.1.Small from (RB.out.bd.b.ex d.1 RB.out.ld.1).small (by decide))
      have HNS := Lib.hid (HND.out t (List.mem_of_getElem? ht))
      have ek : IntKind.i64.wrap ((k : Int) + 1) = (k : Int) + 1 := IntWalk.i64_in _ (by have := HKN.out; have := HRN.out; omega)
      clear ht hkl hrc htm hkn
      go_upto_region 22 with (fail)
      refine Go.FreshS.wp_region_fresh 13 [(12, 11)] (Go.FreshS.spOf [(7, Go.FreshS.Sp.know (.tuple #[.agg #[.int .u16 0, .int .u16 0, .int .u16 0, .int .u16 0], .bool false])), (11, Go.FreshS.Sp.box 39 4 wr.heap.size)])
       (fun w' => Below wr.heap.size wr w') (by kernel_rfl) (by kernel_rfl) (by kernel_rfl)
       (Go.FreshS.spOf_cons (Go.FreshS.Sp.know_keeps _ _) (Go.FreshS.spOf_cons (Go.FreshS.Sp.box_keeps _ _ _ _) (Go.FreshS.spOf_nil))) (fun _ _ h hb => h.trans (hb.mono h.size)) ((Below.refl _ _).drew) ?_
      simp only [List.append_eq, List.cons_append, List.nil_append, List.take_succ_cons, List.take_zero, List.drop_succ_cons, List.drop_zero]
      refine Go.FreshS.wpF_reads rfl rfl rfl ?_ (fun w' hw' => ?_) ?_
      rotate_left
      ·have hb' := hw'.world
       skip
       clear hw'
       go_simp
       try rfl
      conv => arg 10; simp only [Act.put, List.setIfInBounds_toArray, List.set_cons_succ, List.set_cons_zero]
      refine Go.FreshS.wpF_reads rfl rfl rfl ?_ (fun w' hw' => ?_) ?_
      rotate_left
      ·have hb' := hw'.world
       skip
       clear hw'
       go_simp
       try rfl
      conv => arg 10; simp only [Act.put, List.setIfInBounds_toArray, List.set_cons_succ, List.set_cons_zero]
      refine Go.FreshS.wpF_reads rfl rfl rfl ?_ (fun w' hw' => ?_) ?_
      rotate_left
      ·have hb' := hw'.world
       have hn := HKN.out
       clear hw'
       go_simp
       try rfl
      conv => arg 10; simp only [Act.put, List.setIfInBounds_toArray, List.set_cons_succ, List.set_cons_zero]
      refine Go.FreshS.wpF_reads rfl rfl rfl ?_ (fun w' hw' => ?_) ?_
      rotate_left
      ·have hb' := hw'.world
       skip
       clear hw'
       go_simp
       try rfl
      conv => arg 10; simp only [Act.put, List.setIfInBounds_toArray, List.set_cons_succ, List.set_cons_zero]
      refine Go.FreshS.wpF_reads rfl rfl rfl ?_ (fun w' hw' => ?_) ?_
      rotate_left
      ·have hb' := hw'.world
       obtain ⟨hs0, hs1, hs2, hs3, hs4, hs5, hs6, hs7⟩ := (RC.out.below hb').eight
       have hm := HTM.out
       clear hw'
       go_simp
       try rfl
      conv => arg 10; simp only [Act.put, List.setIfInBounds_toArray, List.set_cons_succ, List.set_cons_zero]
      refine Go.FreshS.wpF_reads rfl rfl rfl ?_ (fun w' hw' => ?_) ?_
      rotate_left
      ·have hb' := hw'.world
       skip
       clear hw'
       go_simp
       try rfl
      conv => arg 10; simp only [Act.put, List.setIfInBounds_toArray, List.set_cons_succ, List.set_cons_zero]
      refine Go.FreshS.wpF_reads rfl rfl rfl ?_ (fun w' hw' => ?_) ?_
      rotate_left
      ·have hb' := hw'.world
       have hs0 := (BX121.out.below hb' BX121.out.lt).cell (i := 0) rfl
       have hs1 := (BX121.out.below hb' BX121.out.lt).cell (i := 1) rfl
       have hs2 := (BX121.out.below hb' BX121.out.lt).cell (i := 2) rfl
       have hs3 := (BX121.out.below hb' BX121.out.lt).cell (i := 3) rfl
       have hs4 := (BX121.out.below hb' BX121.out.lt).cell (i := 4) rfl
       have hs5 := (BX121.out.below hb' BX121.out.lt).cell (i := 5) rfl
       have hs6 := (BX121.out.below hb' BX121.out.lt).cell (i := 6) rfl
       have hs7 := (BX121.out.below hb' BX121.out.lt).cell (i := 7) rfl
       have hsf := (BX121.out.below hb' BX121.out.lt).fz
       have hsl := (BX121.out.below hb' BX121.out.lt).lt
       clear hw'
       go_simp
       try rfl
      conv => arg 10; simp only [Act.put, List.setIfInBounds_toArray, List.set_cons_succ, List.set_cons_zero]
      refine Go.FreshS.wpF_spec rfl rfl rfl (fun w' hw' => ?_) ?_
      ·have hb' := hw'.world
       refine Go.FreshS.gives_of (Go.FreshS.PK (.tuple #[.agg #[.int .u16 0, .int .u16 0, .int .u16 0, .int .u16 0], .bool false])) ?_ (fun _ _ h => h.post)
       go_simp
       have CT := (show Calls Tryz.prog 16 #[.agg #[.int .u16 t.1.x, .int .u16 t.1.y, .int .u16 t.1.z, .int .u16 t.1.t], .agg #[.int .u16 d.1.1.x, .int .u16 d.1.1.y, .int .u16 d.1.1.z, .int .u16 d.1.1.t]] w' _ from mono_divN t.1 d.1.1 w' HST.out HSD.out HNS.out)
       refine CT.mono ?_
       rintro e w'' ⟨rfl, hb⟩
       exact ⟨_, rfl, rfl, hb⟩
      rintro _ rfl
      conv => arg 10; simp only [Act.put, List.setIfInBounds_toArray, List.set_cons_succ, List.set_cons_zero]
      refine Go.FreshS.wpF_reads rfl rfl rfl ?_ (fun w' hw' => ?_) ?_
      rotate_left
      ·have hb' := hw'.world
       skip
       clear hw'
       go_simp
       try rfl
      conv => arg 10; simp only [Act.put, List.setIfInBounds_toArray, List.set_cons_succ, List.set_cons_zero]
      refine Go.FreshS.wpF_reads rfl rfl rfl ?_ (fun w' hw' => ?_) ?_
      rotate_left
      ·have hb' := hw'.world
       skip
       clear hw'
       go_simp
       try rfl
      conv => arg 10; simp only [Act.put, List.setIfInBounds_toArray, List.set_cons_succ, List.set_cons_zero]
      refine Go.FreshS.wpF_reads rfl rfl rfl ?_ (fun w' hw' => ?_) ?_
      rotate_left
      ·have hb' := hw'.world
       skip
       clear hw'
       go_simp
       try rfl
      conv => arg 10; simp only [Act.put, List.setIfInBounds_toArray, List.set_cons_succ, List.set_cons_zero]
      refine Go.FreshS.wpF_spec rfl rfl rfl (fun w' hw' => ?_) ?_
      ·have hb' := hw'.world
       refine Go.FreshS.gives_of (Go.FreshS.PB 39 4 wr.heap.size w'.heap.size) ?_ (fun _ _ h => h.post)
       go_simp
       exact ⟨Go.FreshS.PB.new _ rfl hb'.size, (Below.refl _ _).alloc (Nat.le_refl _) _⟩
      rintro _ ⟨y11, rfl⟩
      conv => arg 10; simp only [Act.put, List.setIfInBounds_toArray, List.set_cons_succ, List.set_cons_zero]
      refine Go.FreshS.wpF_store rfl rfl 11 rfl rfl rfl rfl (fun _ => Iff.rfl) (fun w' hw' => ?_) ?_
      ·have hb' := hw'.world
       have hX := Go.FreshS.box_of (hw'.fact 11 (by kernel_rfl))
       obtain ⟨c0, c1, c2, c3, hB⟩ := shp4 hX.1
       have m0 := hB.cell (i := 0) rfl
       have m1 := hB.cell (i := 1) rfl
       have m2 := hB.cell (i := 2) rfl
       have m3 := hB.cell (i := 3) rfl
       have mf := hB.fz
       have ml := hB.lt
       refine Go.FreshS.stores_of ?_ (store4 hb' hX.2 hB (.int .u16 0) (.int .u16 0) (.int .u16 0) (.int .u16 0))
       clear hw'
       go_simp
       try rfl
      conv => arg 10; simp only [Act.put, List.setIfInBounds_toArray, List.set_cons_succ, List.set_cons_zero]
      refine Go.FreshS.wpF_nil (fun w124 hb hF => ?_)
      have BX123 := Lib.hid (show Bxs w124 y11 39 [.int .u16 0, .int .u16 0, .int .u16 0, .int .u16 0] from stored_bxs (hF.all 12))
      clear hF
      have FR := Lib.hid (FR.out.below hb)
      have FP := Lib.hid (FP.out.below hb)
      have FZ := Lib.hid (FZ.out.below hb)
      have BL := Lib.hid (BL.out.below hb)
      have FS := Lib.hid (FS.out.below hb)
      have F1 := Lib.hid (F1.out.below hb)
      have F2 := Lib.hid (F2.out.below hb)
      have C1 := Lib.hid (C1.out.below hb)
      have C2 := Lib.hid (C2.out.below hb)
      have N107 := Lib.hid (N107.out.below hb)
      have N110 := Lib.hid (N110.out.below hb)
      have BI := Lib.hid (BI.out.below hb)
      have BX102 := Lib.hid (BX102.out.below hb BX102.out.lt)
      have BX112 := Lib.hid (BX112.out.below hb BX112.out.lt)
      have BX121 := Lib.hid (BX121.out.below hb BX121.out.lt)
      have KG := Lib.hid (KG.out.trans (hb.mono KG.out.size))
      clear hb
      go_wp2_with fail
      go_roundw
      case rel => exact ⟨k + 1, by have := HKN.out; omega, rfl, BI.out.b⟩
      case measure => simp [intOf]; have := HKN.out; omega
     ·have hge : ¬ ((k : Int) < (rn : Int)) := by omega
      clear hkn
      have ek := HEK.out
      go_wp2_with fail
      go_roundw
      case rel => exact ⟨j + 1, z109, addP S (mulP q d.2), rfl, rfl, by have := HJN.out; omega, N110.out.k, SI.out.step RB.out.hd RB.out.hq RB.out.pc, BL.out.b⟩
      case measure => simp [intOf]; have := HJN.out; omega
  ·have hge : ¬ ((j : Int) < (n : Int)) := by omega
   obtain rfl : j = n := by have := HJ.out; omega
   have hS := SI.out
   rw [← HDN.out] at hS
   have HSP := Lib.hid (hS.done HB.out.al.len PCP.out.c)
   have CT := Lib.hid (show Calls Tryz.prog 17 #[.slice za zn zc, .slice pa pn pc] wr _ from psame5 (x := ⟨za, zn, zc⟩) (y := ⟨pa, pn, pc⟩) FS.out FP.out HSP.out (HSP.out ▸ PCP.out) (by decide) (by decide))
   clear hjn hS
   go_wp2_with fail
   with_reducible refine CT.out.mono ?_
   rintro e w9 ⟨rfl, hb⟩
   have KG := Lib.hid (KG.out.trans (hb.mono KG.out.size))
   clear hb CT
   go_wp2_with fail
   go_ret
   exact ⟨rfl, KG.out⟩
end Go.Proofs.YthcccdjfedbnfaaGreat.Pol
namespace Go.Proofs.YthcccdjfedbnfaaGreat.Pol
open Go.RowKit Go.Sort Go.Proofs.YthcccdjfedbnfaaGreat.Limb Go.ChangeShapes Go.WideShapes Go.ChangeAt
namespace DividesBackS
theorem own : ownKnob Tryz.prog.godebug = none := by kernel_rfl
theorem laidOut : laidOutB Tryz.prog = true := by kernel_rfl
theorem order_pos {o : Int} (h : (Lit.int .u8 o).wf = true) : 0 ≤ o := by
 have h1 : (decide (IntKind.min .u8 ≤ o) && decide (o ≤ IntKind.max .u8)) = true := h
 rw [Bool.and_eq_true] at h1
 have h2 := of_decide_eq_true h1.1
 have h3 : IntKind.min .u8 = 0 := by decide
 omega
noncomputable def laidWorld (os : Os) : World := World.laidAll Tryz.prog os Rows.dividesBackRow.laid
noncomputable def witArgs : Array Value := #[.int .u8 0, .slice none 0 0, .slice none 0 0]
theorem laid_met (os : Os) : laidMet Tryz.prog Rows.dividesBackRow.laid ((laidWorld os).forCall (fun _ _ => 0) ⟨#[], witArgs, []⟩).memory :=
 laidMet_laidAll _ (by kernel_rfl) (by kernel_rfl)
theorem reads (os : Os) {H : Type} (enc : TypeId × Value → H) : ∃ places, DataW.whole enc Tryz.prog ((laidWorld os).forCall (fun _ _ => 0) ⟨#[], witArgs, []⟩).memory Tryz.f3.params.toList Rows.dividesBackSpec.vars false witArgs.toList 8 = some ([.lit (.int .u8 0), .nil, .nil], [], places) :=
 ⟨[], by kernel_rfl⟩
set_option maxRecDepth 100000 in
theorem lifted (os : Os) (started : os.Started) (H : Type) (enc : TypeId × Value → H) (F : Stop.Interp) :
  ReturnsInHanded {} Tryz.checked os 3 .any ((OpenSpec.ofChange Rows.dividesBackSpec).preRow enc Tryz.prog Tryz.f3 Rows.dividesBackRow.domain false Rows.dividesBackRow.laid) (((OpenSpec.ofChange Rows.dividesBackSpec).at F).post enc Tryz.prog Tryz.f3 false true false false) := by
 obtain ⟨places, hx⟩ := reads os enc
 refine returnsInHanded_of_row (C := Tryz.checked) (s := OpenSpec.ofChange Rows.dividesBackSpec) own started (by kernel_rfl) Tryz.func3
  (witness_row_atRef (enc := enc) (C := Tryz.checked) false (laidWorld os) witArgs (World.laidAll_os _ _ _) (by kernel_rfl) (by kernel_rfl) (by kernel_rfl)
   (OpenSpec.preRow_of_cond 8 hx (by kernel_rfl) (fun k hk => by cases hk) (by kernel_rfl) (laid_met os))) ?_
 intro W base args ds gs before hval0 hW _ _ hwt _ _ _
 have hval : ∀ (j : Nat) t v, Tryz.f3.params[j]? = some t → args[j]? = some v → Value.okWide Tryz.prog W .any base t v := hval0
 have hW' := hW
 obtain ⟨p, q, hA0, hV, rfl, hfz, hnd⟩ := hW
 have hA : DataW.TrodAll enc Tryz.prog W 0 (fun _ => true) true Tryz.f3.params.toList args.toList ds p := hA0
 rw [Tryz.params3] at hA hval
 obtain ⟨v0, v1, v2, d0, d1, d2, p0, p1, p2, rfl, rfl, rfl, h0, h1, h2⟩ := trodAll_three hA
 obtain ⟨rfl, rfl⟩ := trodVars_none hV
 obtain ⟨o, rfl, -, -, wo⟩ := open_int Tryz.underlying22 (hval 0 22 v0 rfl rfl) h0
 have ho : 0 ≤ o := order_pos wo
 obtain ⟨x1, L1, rfl, r1⟩ := open_polyV (hval 1 24 v1 rfl rfl) h1
 obtain ⟨a2, n2, c2, Xs2, rfl, r2⟩ := open_polysV (hval 2 25 v2 rfl rfl) h2
 refine (dividesBack_law o x1 L1 a2 n2 c2 Xs2 W ho r1 r2).mono fun e W' ⟨he, hg⟩ => ?_
 subst he
 exact ⟨_, rfl, LawPost.law_post laidOut (by kernel_rfl) (by kernel_rfl) Tryz.underlying4 hW' rfl rfl hg⟩
theorem said : Rows.DividesBackSaid :=
 OpenClaim.holds_of_cond 3 Tryz.f3 rfl rfl rfl rfl rfl rfl rfl ⟨rfl, rfl, rfl, rfl, rfl⟩ rfl rfl rfl rfl rfl (by kernel_rfl) Tryz.func3 (by kernel_rfl)
  (of_decide_eq_true (by kernel_rfl)) (by unfold Func.isWrapper; first | (rw [if_pos (by decide +kernel)]; kernel_rfl) | (rw [if_neg (by decide +kernel)]; exact ⟨rfl, rfl⟩))
  (fun os started H enc _ F => by rw [OpenClaim.pre_eq_preRow]; exact lifted os started H enc F)
#print axioms said
end DividesBackS
end Go.Proofs.YthcccdjfedbnfaaGreat.Pol
