/-
  The statement of DividesTwice: whatever it is handed, it returns true, and what it was handed reads behind the call as it read before.
-/
import Derived.Test.YthcccdjfedbnfaaGreatDbM
import Derived.Lay
import Derived.MakeChecks
import Derived.Stop.LaidErr
import Derived.Deep.DeepWitnessRowRef
import Derived.WalkKit
import Derived.ProofKit
import Derived.OpenShut
import Derived.Deep.DeepHandedRow
import Derived.Lib.LaidTab
set_option linter.unusedSimpArgs false
set_option linter.unusedVariables false
namespace Go.Proofs.YthcccdjfedbnfaaGreat.Pol
open Go.RowKit Go.Sort Go.Proofs.YthcccdjfedbnfaaGreat.Limb Go.ChangeShapes Go.WideShapes Go.ChangeAt
theorem RawR.below {w w' : World} {a : Option Addr} {n : Nat} {Xs : List (PV × List TO)} (h : RawR w a n Xs) (hb : Below w.heap.size w w') : RawR w' a n Xs := ⟨h.len, h.n, h.row.below hb, fun e he => (h.e e he).below hb⟩
set_option maxRecDepth 100000 in
theorem open_polysT {H : Type} {enc : TypeId × Value → H} {W : World} {sp : Nat → Bool} {hd : Bool} {fuel : Nat} {v : Value} {x : DataW H × List MemPlace}
  (hf : DataW.trod enc Tryz.prog W 0 sp hd fuel 25 [v] = some x) : ∃ (a : Option Addr) (n c : Nat) (Xs : List (PV × List TO)), v = .slice a n c ∧ RawR W a n Xs := by
 rcases DataW.trod_slice Tryz.underlying25 hf with ⟨e, _⟩ | ⟨a, len, cap, elems, rest, m, _, e, _, _, hl, hm, hel, hcs, _⟩
 ·simp only [List.cons.injEq, and_true] at e
  exact ⟨none, 0, 0, [], e, rfl, Nat.zero_le _, RS.nil _ _, fun e he => (by cases he)⟩
 ·simp only [List.cons.injEq, and_true] at e
  have h4 : maxLen = 9223372036854775807 := by decide
  obtain ⟨L, hL1, hL2⟩ := list_of (Φ := fun i (e : PV × List TO) => W.cells? 0 (a.add (i * 1)) 1 = some [e.1.v] ∧ RawL W e.1 e.2) len fun i hi => by
   have h1 := hcs i hi
   rw [cellsPoly, List.getElem?_eq_getElem (by omega)] at h1
   obtain ⟨l, h2, h3⟩ := Option.bind_eq_some_iff.1 h1
   obtain ⟨v, rfl⟩ : ∃ v, l = [v] := by
    rcases DataW.trod_slice Tryz.underlying24 h3 with ⟨e, _⟩ | ⟨_, _, _, _, _, _, _, e, _⟩
    ·exact ⟨_, e⟩
    ·exact ⟨_, e⟩
   obtain ⟨y, M, h5, h6⟩ := open_polyL h3
   exact ⟨(y, M), by rw [h2, h5], h6⟩
  refine ⟨some a, len, cap, L, e, hL1, by omega, ⟨fun hn => ?_⟩, fun e he => ?_⟩
  ·have hpos : 0 < L.length := List.length_pos_iff.2 fun h => hn (by rw [h]; rfl)
   obtain ⟨h1, -⟩ := hL2 0 _ (List.getElem?_eq_getElem hpos)
   have h2 := cells_at h1 0 (by omega)
   obtain ⟨b, off, spot⟩ := a
   have hspot : spot = none := by
    have h3 := World.cell?_spot (h2.trans rfl)
    simpa [Addr.add] using h3
   subst hspot
   refine ⟨b, off, rfl, fun i t hi => ?_⟩
   rw [List.getElem?_map] at hi
   obtain ⟨e, he, rfl⟩ := Option.map_eq_some_iff.1 hi
   obtain ⟨h3, -⟩ := hL2 i e he
   have h4 := cells_at h3 0 (by omega)
   rw [Go.WideShapes.add_plain, Go.WideShapes.add_plain, Nat.mul_one, Nat.add_zero] at h4
   exact h4
  ·obtain ⟨i, hi⟩ := List.mem_iff_getElem?.1 he
   exact (hL2 i e hi).2
set_option maxRecDepth 100000 in
theorem open_polysV {H : Type} {enc : TypeId × Value → H} {W : World} {base : Nat} {r : Reach} {sp : Nat → Bool} {hd : Bool} {v : Value} {d : DataW H} {p : List MemPlace}
  (hok : Value.okWide Tryz.prog W r base 25 v) (h : DataW.Trod enc Tryz.prog W 0 sp hd 25 v d p) : ∃ (a : Option Addr) (n c : Nat) (Xs : List (PV × List TO)), v = .slice a n c ∧ RawR W a n Xs := by
 obtain ⟨fuel, hf⟩ := h
 obtain ⟨a, n, c, rfl⟩ := Go.WideShapes.okWide_slice Tryz.underlying25 hok
 exact open_polysT hf
end Go.Proofs.YthcccdjfedbnfaaGreat.Pol
namespace Go.Proofs.YthcccdjfedbnfaaGreat.Pol
open Go.RowKit Go.Sort Go.Proofs.YthcccdjfedbnfaaGreat.Limb
theorem takes_twice {ds : List Dv} {m : Mo} {i : Nat} {d : Dv} (h : Takes (ds ++ ds) m i d) : i < ds.length ∧ Takes ds m i d := by
 obtain ⟨h1, h2, h3⟩ := h
 have hi : i < ds.length := by
  refine Nat.lt_of_not_le fun hle => ?_
  rw [List.getElem?_append_right hle] at h1
  have hlt := (List.getElem?_eq_some_iff.1 h1).1
  exact h3 (i - ds.length) d (by omega) (by rw [List.getElem?_append_left hlt]; exact h1) h2
 refine ⟨hi, by rw [List.getElem?_append_left hi] at h1; exact h1, h2, fun j e hj he => h3 j e hj ?_⟩
 rw [List.getElem?_append_left (by omega)]
 exact he
theorem modify_app {α : Type} (f : α → α) : ∀ {l m : List α} {i : Nat}, i < l.length → (l ++ m).modify i f = l.modify i f ++ m
 | [], _, _, h => absurd h (Nat.not_lt_zero _)
 | _ :: _, _, 0, _ => rfl
 | x :: l, m, i + 1, h => by
  show x :: (l ++ m).modify i f = x :: (l.modify i f ++ m)
  rw [modify_app f (Nat.lt_of_succ_lt_succ h)]
theorem iter_final {K : Mo → Int} {ds : List Dv} {s : DS} : ∀ {n m : Nat}, n ≤ m → (iterS K ds n s).p = [] → iterS K ds m s = iterS K ds n s
 | n, 0, h, _ => by rw [show n = 0 from by omega]
 | n, m + 1, h, h0 => by
  by_cases e : n = m + 1
  ·rw [e]
  ·have ih := iter_final (m := m) (by omega) h0
   show stepF K ds (iterS K ds m s) = _
   rw [ih]
   unfold stepF leadF
   rw [h0]
   rfl
theorem iter_same {K : Mo → Int} {ds : List Dv} {s : DS} {n m : Nat} (h1 : (iterS K ds n s).p = []) (h2 : (iterS K ds m s).p = []) : iterS K ds n s = iterS K ds m s := by
 rcases Nat.le_total n m with h | h
 ·exact (iter_final h h1).symm
 ·exact iter_final h h2
def TwI (K : Mo → Int) (ds : List Dv) (s0 : DS) (s2 : DS) : Prop := ∃ n, s2.p = (iterS K ds n s0).p ∧ s2.r = (iterS K ds n s0).r ∧ s2.os = (iterS K ds n s0).os ++ List.replicate ds.length [] ∧ (iterS K ds n s0).os.length = ds.length
theorem TwI.step {o : Int} {ds : List Dv} {s0 s2 s2' : DS} (h : TwI (keyO o) ds s0 s2) (hc : Canon s2.p) (hs : ∀ t ∈ s2.p, t.1.le 65535) (hst : Step (keyO o) (ds ++ ds) s2 s2') : TwI (keyO o) ds s0 s2' := by
 obtain ⟨n, h1, h2, h3, h4⟩ := h
 have key : ∀ s', Step (keyO o) ds (iterS (keyO o) ds n s0) s' → s' = iterS (keyO o) ds (n + 1) s0 := fun s' h => stepF_eq (keyO_key o) (by rw [← h1]; exact hc) (fun t ht => hs t (by rw [h1]; exact ht)) h
 cases hst with
 | @hit t i d hl ht =>
  obtain ⟨hi, ht2⟩ := takes_twice ht
  have hk := key _ (.hit (by rw [← h1]; exact hl) ht2)
  refine ⟨n + 1, ?_, ?_, ?_, ?_⟩
  ·rw [← hk]; show subP s2.p _ = subP _ _; rw [h1]
  ·rw [← hk]; exact h2
  ·rw [← hk]
   show s2.os.modify i _ = (iterS (keyO o) ds n s0).os.modify i _ ++ _
   rw [h3, modify_app _ (by omega)]
  ·rw [← hk]
   show ((iterS (keyO o) ds n s0).os.modify i _).length = _
   rw [List.length_modify]; exact h4
 | @rest t hl ht =>
  have hk := key _ (.rest (by rw [← h1]; exact hl) (fun d hd => ht d (List.mem_append_left _ hd)))
  refine ⟨n + 1, ?_, ?_, ?_, ?_⟩
  ·rw [← hk]; show subP s2.p _ = subP _ _; rw [h1]
  ·rw [← hk]; show addP s2.r _ = addP _ _; rw [h2]
  ·rw [← hk]; exact h3
  ·rw [← hk]; exact h4
abbrev s0D (ds : List Dv) (P : List Tm) : DS := ⟨P, [], List.replicate ds.length []⟩
theorem first_run {o : Int} {ds : List Dv} {P : List Tm} {p : PV} {ts : List TV} {Ls : List (List TV)} {a : Option Addr} {c : Nat} {qs : List (PV × List Tm)} {w : World} (ho0 : 0 ≤ o) (hg : DGood w o 8 p ts P Ls qs ds) (hgr : DGr o 8 6 ts Ls) (hr : RS w a (qs.map Prod.fst)) :
  Calls Tryz.prog 10 #[.int .u8 o, p.v, .slice a qs.length c] w (DivD w fun s => BackR o ds P 24 11825 656 s ∧ ∃ n, s = iterS (keyO o) ds n (s0D ds P)) :=
 back_run ho0 hg hgr hr (fun s => ∃ n, s = iterS (keyO o) ds n (s0D ds P)) ⟨0, rfl⟩ fun s s' h1 h2 ⟨n, e⟩ hst => ⟨n + 1, by
  have h := stepF_eq (keyO_key o) h1.cp (fun t ht => (h2 t ht).up (by decide)) hst
  rw [h, e]
  rfl⟩
theorem TwI.start (K : Mo → Int) (ds : List Dv) (P : List Tm) : TwI K ds (s0D ds P) ⟨P, [], List.replicate (ds ++ ds).length []⟩ := ⟨0, rfl, rfl, by
 show List.replicate (ds ++ ds).length [] = List.replicate ds.length [] ++ List.replicate ds.length []
 rw [List.length_append, List.replicate_append_replicate], List.length_replicate⟩
theorem Dvb.twice {K : Mo → Int} {ds : List Dv} {c : Mo} {W E nd kd g : Nat} (h : Dvb K ds c W E nd kd g) : Dvb K (ds ++ ds) c W E nd kd g := by
 have hm : ∀ d ∈ ds ++ ds, d ∈ ds := fun d hd => (List.mem_append.1 hd).elim id id
 exact ⟨⟨h.d.key, fun d hd => h.d.can d (hm d hd), fun d hd => h.d.lead d (hm d hd), fun d hd => h.d.ex d (hm d hd)⟩, fun d hd => h.wt d (hm d hd), fun d hd => h.cd d (hm d hd), fun d hd => h.lq d (hm d hd), fun d hd => h.len d (hm d hd), h.pos, h.small⟩
theorem second_run {o : Int} {ds : List Dv} {P : List Tm} {p : PV} {ts : List TV} {Ls : List (List TV)} {a : Option Addr} {c : Nat} {qs : List (PV × List Tm)} {w : World} (ho0 : 0 ≤ o) (hg : DGood w o 8 p ts P Ls qs ds) (hgr : DGr o 8 6 ts Ls) (hr : RS w a ((qs ++ qs).map Prod.fst)) :
  Calls Tryz.prog 10 #[.int .u8 o, p.v, .slice a (qs ++ qs).length c] w (DivD w fun s => TwI (keyO o) ds (s0D ds P) s) := by
 have hl : (qs ++ qs).length ≤ 1000 := by have := hg.q.len; have := hgr.n4; rw [List.length_append]; omega
 have hq : ∀ q ∈ qs ++ qs, KP w q.1 q.2 := fun q hq => by
  obtain ⟨us, _, hi⟩ := hg.q.all ((List.mem_append.1 hq).elim id id)
  exact hi.k
 have he : (ds ++ ds).map Prod.snd = (qs ++ qs).map Prod.snd := by rw [List.map_append, List.map_append, hg.e]
 have hgen : ∀ (c0 : Mo) (W : Nat), Wts o ds P c0 W → 6 + W ≤ 65535 → (boxM c0 W).length ≤ 656 → Calls Tryz.prog 10 #[.int .u8 o, p.v, .slice a (qs ++ qs).length c] w (DivD w fun s => TwI (keyO o) ds (s0D ds P) s) := fun c0 W hw hW hN =>
  (div_run hg.o2 hg.p.k hr hq he hl (hg.dvb hgr hw hW).twice hw.p hg.p.cd (Nat.le_refl _) hN (by decide : 5 + 8 + 18 * 656 + 4 ≤ 11825) (by decide) (by decide) (by decide) (by decide) (TwI (keyO o) ds (s0D ds P)) (TwI.start _ _ _) (fun s s' h1 h2 h3 h4 => h3.step h1.cp (fun t ht => (h2 t ht).up (by omega)) h4)).mono fun e w' h => h.imp fun s hs _ => hs.2
 rcases wts_ex ho0 hg.o2 hgr hg.p hg.q hg.e hg.lead with hw | hw
 ·exact hgen _ _ hw (by decide) box_1_6
 ·exact hgen _ _ hw (by decide) box_8_24
theorem twice_end {K : Mo → Int} {ds : List Dv} {s0 s1 s2 : DS} (h1 : ∃ n, s1 = iterS K ds n s0) (p1 : s1.p = []) (h2 : TwI K ds s0 s2) (p2 : s2.p = []) : s2.r = s1.r ∧ s2.os = s1.os ++ List.replicate ds.length [] := by
 obtain ⟨n, rfl⟩ := h1
 obtain ⟨m, g1, g2, g3, _⟩ := h2
 have e := iter_same p1 (by rw [← g1]; exact p2)
 rw [e]
 exact ⟨g2, g3⟩
def RowD (w : World) (k : Int) (T : List (List Tm) → List Tm → Prop) (e : Ending) (w' : World) : Prop :=
 ∃ (v : Value) (zs : List PV) (os : List (List Tm)) (r : PV) (R : List Tm), e = .returned (.tuple #[v, r.v, .int .i64 k]) ∧ OQ w' w.heap.size v zs ∧ zs.length = os.length ∧ (∀ (i : Nat) (z : PV) (q : List Tm), zs[i]? = some z → os[i]? = some q → DP w' w.heap.size z q) ∧ DP w' w.heap.size r R ∧ T os R ∧ Below w.heap.size w w'
theorem DivD.rowD {w w' : World} {Inv : DS → Prop} {T : List (List Tm) → List Tm → Prop} {e : Ending} (h : DivD w Inv e w') (hT : ∀ s, Inv s → s.p = [] → T s.os s.r) : RowD w 0 T e w' := by
 obtain ⟨v, zs, r, s, h1, h2, h3, h4, h5, h6, h7, h8⟩ := h
 exact ⟨v, zs, s.os, r, s.r, h1, h2, h3, h4, h5, hT s h6 h7, h8⟩
theorem OQ.none (w : World) (lo : Nat) (hl : lo ≤ w.heap.size) : OQ w lo (.slice none 0 0) [] := World.ownsRow_nil _ _ _ _
theorem rowD_no {w w' : World} {k : Int} {T : List (List Tm) → List Tm → Prop} {e : Ending} (hT : T [] []) (h : e = .returned (.tuple #[.slice none 0 0, .slice none 0 0, .int .i64 k]) ∧ Below w.heap.size w w') : RowD w k T e w' :=
 ⟨_, [], [], ⟨none, 0, 0⟩, [], h.1, OQ.none _ _ h.2.size, rfl, fun i z q hz => by simp at hz, DP.void _ _, hT, h.2⟩
structure TwR (w : World) (o : Int) (x : PV) (a : Option Addr) (n c : Nat) (ps : List PV) (k : Int) (T : List (List Tm) → List Tm → Prop) : Prop where
 first : ∀ w1, Below w.heap.size w w1 → Calls Tryz.prog 10 #[.int .u8 o, x.v, .slice a n c] w1 (RowD w1 k T)
 second : ∀ (w1 : World) (a2 : Option Addr) (c2 : Nat) (os : List (List Tm)) (R : List Tm), Below w.heap.size w w1 → RS w1 a2 (ps ++ ps) → T os R →
  Calls Tryz.prog 10 #[.int .u8 o, x.v, .slice a2 (n + n) c2] w1 (RowD w1 k fun os' R' => R' = R ∧ os' = os ++ List.replicate os.length [])
 pc : ∀ os R, T os R → os.length ≤ 4 ∧ PC R 656 11825 24 ∧ ∀ q ∈ os, PC q 656 11825 24
theorem tw_runs {o : Int} {x : PV} {L : List TO} {a : Option Addr} {n c : Nat} {Xs : List (PV × List TO)} {w : World} (ho0 : 0 ≤ o) (hx : RawL w x L) (hX : RawR w a n Xs) (hg : DGr o 8 6 (tsOf L) (LsOf Xs)) : ∃ (k : Int) (T : List (List Tm) → List Tm → Prop), TwR w o x a n c (Xs.map Prod.fst) k T := by
 have hn4 : n ≤ 4 := hg.n hX
 have hno : ∀ k : Int, RefD w o x (Xs.map Prod.fst) k → TwR w o x a n c (Xs.map Prod.fst) k (fun os R => os = [] ∧ R = []) := fun k h => by
  refine ⟨fun w1 hb => (refD_div h hX hn4 hb).mono fun e w' h => rowD_no ⟨rfl, rfl⟩ h, fun w1 a2 c2 os R hb hr hT => ?_, fun os R hT => ?_⟩
  ·obtain ⟨rfl, rfl⟩ := hT
   have h1 := h w1 a2 c2 (Xs.map Prod.fst) hb (fun _ h => h) (by rw [List.length_append, List.length_map, hX.len]; omega) hr
   rw [List.length_append, List.length_map, hX.len] at h1
   exact h1.mono fun e w' h => rowD_no ⟨rfl, rfl⟩ h
  ·obtain ⟨rfl, rfl⟩ := hT
   exact ⟨Nat.zero_le _, PC.nil _ _ _, fun q hq => by cases hq⟩
 rcases sort_in3 hx hX hg (by decide) with h | h | ⟨P, qs, ds, hd, hqf⟩
 ·exact ⟨1, _, hno 1 h⟩
 ·exact ⟨6, _, hno 6 h⟩
 ·refine ⟨0, fun os R => ∃ s, (BackR o ds P 24 11825 656 s ∧ ∃ m, s = iterS (keyO o) ds m (s0D ds P)) ∧ s.p = [] ∧ s.os = os ∧ s.r = R, fun w1 hb => ?_, fun w1 a2 c2 os R hb hr ⟨s, h1, h2, h3, h4⟩ => ?_, fun os R ⟨s, h1, h2, h3, h4⟩ => ?_⟩
  ·obtain ⟨hr, hl⟩ := good_row hd hqf hX
   have h := first_run (a := a) (c := c) ho0 (hd.below hb) hg (hr.below hb)
   rw [hl] at h
   exact h.mono fun e w' h => h.rowD fun s hs h0 => ⟨s, hs, h0, rfl, rfl⟩
  ·obtain ⟨_, hl⟩ := good_row hd hqf hX
   have h := second_run (a := a2) (c := c2) ho0 (hd.below hb) hg (by rw [List.map_append, hqf]; exact hr)
   rw [List.length_append, hl] at h
   refine h.mono fun e w' h => h.rowD fun s2 hs h0 => ?_
   obtain ⟨e1, e2⟩ := twice_end h1.2 h2 hs h0
   rw [← h1.1.al.len, h3] at e2
   exact ⟨e1.trans h4, e2⟩
  ·subst h3 h4
   refine ⟨by rw [h1.1.al.len, hd.len, (good_row hd hqf hX).2]; exact hn4, ⟨h1.1.al.cr, h1.1.rn, fun t ht => (h1.1.rq t ht).1, fun t ht => (h1.1.rq t ht).2.1⟩, fun q hq => ?_⟩
   obtain ⟨i, hi⟩ := List.mem_iff_getElem?.1 hq
   have hil := (List.getElem?_eq_some_iff.1 hi).1
   have h5 := h1.1.o i _ q (List.getElem?_eq_getElem (l := ds) (i := i) (by rw [← h1.1.al.len]; exact hil)) hi
   exact ⟨h1.1.al.co q hq, h5.1, fun v hv => (h5.2 v hv).1, fun v hv => (h5.2 v hv).2.1⟩
theorem RS.news {w : World} {ad : Addr} {ps : List PV} (h : RS w (some ad) ps) (j : Nat) (u : Value) (hj : (ps.map PV.v)[j]? = some u) : w.cell? (ad.add j) = some u := by
 rw [List.getElem?_map] at hj
 obtain ⟨p, hp, rfl⟩ := Option.map_eq_some_iff.1 hj
 obtain ⟨b, o, e, hc⟩ := h.ex (fun h0 => by rw [h0] at hp; simp at hp)
 injection e with e
 subst e
 rw [Go.WideShapes.add_plain]
 exact hc j p hp
set_option maxRecDepth 100000 in
set_option maxHeartbeats 16000000 in
theorem dividesTwice_law (o : Int) (x : PV) (L : List TO) (a : Option Addr) (n c : Nat) (Xs : List (PV × List TO)) (w : World) (ho : 0 ≤ o) (hx : RawL w x L) (hX : RawR w a n Xs) (hac : a = none → c = 0) :
  Calls Tryz.prog 7 #[.int .u8 o, .slice x.a x.n x.c, .slice a n c] w fun e w' => e = .returned (.bool true) ∧ Below w.heap.size w w' := by
 obtain ⟨pa, pn, pc⟩ := x
 have HX := Lib.hid hx; have HXX := Lib.hid hX; have HAC := Lib.hid hac; have HO := Lib.hid ho
 have KG := Lib.hid (Below.refl w.heap.size w)
 change Calls Tryz.prog 7 #[.int .u8 o, .slice pa pn pc, .slice a n c] w _
 clear ho hx hX hac
 go_enter Tryz.func7, Tryz.ntmps7
 have AL := Lib.hid (dalive w)
 go_wp2_with fail
 with_reducible refine AL.out.mono ?_
 rintro e w1 ⟨rfl, hb⟩
 have KG := Lib.hid (KG.out.trans (hb.mono KG.out.size))
 clear hb AL
 have CT := Lib.hid (show Calls Tryz.prog 9 #[.int .u8 o, .int .i64 8, .int .i64 6, .slice pa pn pc, .slice a n c] w1 _ from dgreat_raw (x := ⟨pa, pn, pc⟩) 8 6 (HX.out.below KG.out) (HXX.out.below KG.out) (by decide))
 go_wp2_with fail
 with_reducible refine CT.out.mono ?_
 rintro e w2 ⟨b, rfl, hn, hb⟩
 have KG := Lib.hid (KG.out.trans (hb.mono KG.out.size))
 have HN := Lib.hid hn
 clear hb hn CT
 rcases Bool.eq_false_or_eq_true b with rfl | rfl
 ·clear HN
  have AL := Lib.hid (dalive w2)
  go_wp2_with fail
  with_reducible refine AL.out.mono ?_
  rintro e w3 ⟨rfl, hb⟩
  have KG := Lib.hid (KG.out.trans (hb.mono KG.out.size))
  clear hb AL
  go_wp2_with fail
  go_ret
  exact ⟨rfl, KG.out⟩
 have HG := Lib.hid (HN.out rfl)
 clear HN
 by_cases h2 : 2 < n
 ·have h2' : (2 : Int) < (n : Int) := by omega
  clear h2
  have AL := Lib.hid (dalive w2)
  go_wp2_with fail
  with_reducible refine AL.out.mono ?_
  rintro e w3 ⟨rfl, hb⟩
  have KG := Lib.hid (KG.out.trans (hb.mono KG.out.size))
  clear hb AL
  go_wp2_with fail
  go_ret
  exact ⟨rfl, KG.out⟩
 have h2' : ¬ ((2 : Int) < (n : Int)) := by omega
 have H2 := Lib.hid (show n ≤ 2 by omega)
 clear h2
 obtain ⟨k, T, htw⟩ := tw_runs (a := a) (c := c) HO.out HX.out HXX.out HG.out
 have HTW := Lib.hid htw
 obtain ⟨ps, hps⟩ : ∃ ps, ps = Xs.map Prod.fst := ⟨_, rfl⟩
 rw [← hps] at HTW
 have HPL := Lib.hid (show ps.length = n by rw [hps, List.length_map]; exact HXX.out.len)
 have HRS := Lib.hid (show RS w a ps by rw [hps]; exact HXX.out.row)
 clear hps htw
 have CT := Lib.hid (HTW.out.first w2 KG.out)
 go_wp2_with fail
 with_reducible refine CT.out.mono ?_
 rintro e w3 ⟨v1, zs1, os, ⟨ra, rn, rc⟩, R, he, hoq, hlen, hdp, hr, hT, hb⟩
 obtain rfl : e = .returned (.tuple #[v1, .slice ra rn rc, .int .i64 k]) := he
 obtain ⟨qa, qc, hv, _, hrow⟩ := hoq.row
 obtain ⟨m, hm⟩ : ∃ m, m = os.length := ⟨_, rfl⟩
 rw [hlen, ← hm] at hv
 subst hv
 have HM := Lib.hid hm; have HROW := Lib.hid hrow; have HDP := Lib.hid hdp; have HR := Lib.hid hr; have HT := Lib.hid hT; have HLEN := Lib.hid hlen
 have HM4 := Lib.hid (show m ≤ 4 by rw [hm]; exact (HTW.out.pc os R hT).1)
 have KG := Lib.hid (KG.out.trans (hb.mono KG.out.size))
 clear hoq hlen hdp hr hT hb hm hrow CT
 obtain ⟨i1, hi, hz0, hz1, hz2⟩ := info_parts infoPq
 rcases hra : a with _ | ad
 ·have hc0 := HAC.out hra
  subst hra hc0
  have hn0 : n = 0 := by
   have h1 := HPL.out
   match ps, HRS.out, h1 with
   | [], _, h1 => exact h1.symm
   | p :: r, h, _ => obtain ⟨b, o, e, _⟩ := h.ex (List.cons_ne_nil _ _); cases e
  subst hn0
  have HRX := Lib.hid (show RS w3 none (ps ++ ps) by rw [List.length_eq_zero_iff.1 HPL.out]; exact RS.nil _ _)
  have B3X := Lib.hid (Below.refl w3.heap.size w3)
  go_wp2_with fail
  clear hi hz0 hz1 hz2
  have CT := Lib.hid (HTW.out.second w3 none 0 os R KG.out HRX.out HT.out)
  go_wp2_with fail
  with_reducible refine CT.out.mono ?_
  rintro e w7 ⟨v2, zs2, os2, ⟨sa, sn, sc⟩, R2, he, hoq2, hlen2, hdp2, hs2, ⟨hR2, hos2⟩, hb⟩
  obtain rfl : e = .returned (.tuple #[v2, .slice sa sn sc, .int .i64 k]) := he
  subst hR2
  obtain ⟨ta, tc, hv2, _, hrow2⟩ := hoq2.row
  obtain ⟨l2, hl2⟩ : ∃ l, l = zs2.length := ⟨_, rfl⟩
  rw [← hl2] at hv2
  subst hv2
  have HL2 := Lib.hid (show l2 = m + m by rw [hl2, hlen2, hos2, List.length_append, List.length_replicate, HM.out])
  have h37 : Below w3.heap.size w3 w7 := B3X.out.trans (hb.mono B3X.out.size)
  have HB37 := Lib.hid h37
  have KG := Lib.hid (KG.out.trans (hb.mono KG.out.size))
  have K7 := Lib.hid KG.out
  have HROW1 := Lib.hid (fun i z hi => by obtain ⟨g, e, h⟩ := HROW.out i z hi; exact ⟨g, e, cell_below h HB37.out⟩ : ∀ (i : Nat) (z : PV), zs1[i]? = some z → ∃ g, qa = some ⟨g, 0, none⟩ ∧ w7.cell? ⟨g, i, none⟩ = some z.v)
  have HROW2 := Lib.hid hrow2
  have HD1 := Lib.hid (fun i z q h1 h2 => (HDP.out i z q h1 h2).k.below HB37.out : ∀ (i : Nat) (z : PV) (q : List Tm), zs1[i]? = some z → os[i]? = some q → KP w7 z q)
  have HD2 := Lib.hid (fun i z q h1 h2 => (hdp2 i z q h1 h2).k : ∀ (i : Nat) (z : PV) (q : List Tm), zs2[i]? = some z → os2[i]? = some q → KP w7 z q)
  have HOS2 := Lib.hid hos2
  have HZL1 := Lib.hid (show zs1.length = m by rw [HLEN.out, HM.out])
  have HZL2 := Lib.hid (show zs2.length = l2 from hl2.symm)
  have hl2' : (l2 : Int) = 2 * (m : Int) := by have := HL2.out; omega
  have ew : IntKind.i64.wrap (2 * (m : Int)) = 2 * (m : Int) := IntWalk.i64_in _ (by have := HM4.out; omega)
  have CT := Lib.hid (show Calls Tryz.prog 17 #[.slice ra rn rc, .slice sa sn sc] w7 _ from psame5 (x := ⟨ra, rn, rc⟩) (y := ⟨sa, sn, sc⟩) (HR.out.k.below HB37.out) hs2.k rfl (HTW.out.pc os R2 HT.out).2.1 (by decide) (by decide))
  clear hoq2 hlen2 hdp2 hs2 hos2 hb hrow2 hl2 h37
  go_wp2_with fail
  with_reducible refine CT.out.mono ?_
  rintro e w8 ⟨rfl, hb⟩
  have KG := Lib.hid (KG.out.trans (hb.mono KG.out.size))
  have B78 := Lib.hid hb
  clear hb CT
  go_wp2_with fail
  clear hl2' ew
  go_loopw [13] (fun i wr => ∃ j : Nat, j ≤ m ∧ i = .int .i64 j ∧ Below w7.heap.size w7 wr) (fun i _ => m - (intOf i).toNat)
  case atStart => exact ⟨0, Nat.zero_le _, rfl, B78.out⟩
  case round =>
   obtain ⟨j, hj, rfl, hb0⟩ := hrel
   have HJ := Lib.hid hj; have B7 := Lib.hid hb0
   clear hj hb0 KG
   have KG := Lib.hid (show Below w.heap.size w wr from K7.out.trans (B7.out.mono K7.out.size))
   by_cases hjm : j < m
   ·have HJ1 := Lib.hid hjm
    have HJ2 := Lib.hid (show j < l2 by have := HL2.out; omega)
    obtain ⟨l3, hl3⟩ : ∃ l, l = m + j := ⟨_, rfl⟩
    have HJ3 := Lib.hid (show l3 < l2 by have := HL2.out; omega)
    have EW := Lib.hid (show IntKind.i64.wrap ((m : Int) + (j : Int)) = (l3 : Int) by rw [IntWalk.i64_in _ (by have := HM4.out; omega)]; omega)
    obtain ⟨z1, hz1⟩ : ∃ z, zs1[j]? = some z := ⟨_, List.getElem?_eq_getElem (by rw [HZL1.out]; exact hjm)⟩
    obtain ⟨z2, hz2⟩ : ∃ z, zs2[j]? = some z := ⟨_, List.getElem?_eq_getElem (by rw [HZL2.out]; exact HJ2.out)⟩
    obtain ⟨z3, hz3⟩ : ∃ z, zs2[l3]? = some z := ⟨_, List.getElem?_eq_getElem (by rw [HZL2.out]; exact HJ3.out)⟩
    obtain ⟨q, hq⟩ : ∃ q, os[j]? = some q := ⟨_, List.getElem?_eq_getElem (by rw [← HM.out]; exact hjm)⟩
    have hq2 : os2[j]? = some q := by rw [HOS2.out, List.getElem?_append_left (by rw [← HM.out]; exact hjm)]; exact hq
    have hq3 : os2[l3]? = some [] := by
     rw [HOS2.out, List.getElem?_append_right (by rw [← HM.out]; omega), List.getElem?_replicate, if_pos (by rw [← HM.out]; omega)]
    have k3 := (HD2.out l3 z3 [] hz3 hq3).len
    have HZ3 := Lib.hid (show ((z3.n : Nat) : Int) = 0 by rw [k3]; rfl)
    have D1 := Lib.hid ((HD1.out j z1 q hz1 hq).below B7.out)
    have D2 := Lib.hid ((HD2.out j z2 q hz2 hq2).below B7.out)
    have PCQ := Lib.hid ((HTW.out.pc os R2 HT.out).2.2 q (List.mem_of_getElem? hq))
    obtain ⟨g, e1, c1⟩ := HROW1.out j z1 hz1
    obtain ⟨h, e2, c2⟩ := HROW2.out j z2 hz2
    obtain ⟨h', e3, c3⟩ := HROW2.out l3 z3 hz3
    subst e1 e2
    obtain rfl : h = h' := by injection e3 with e3; injection e3
    have C1 := Lib.hid (show wr.cell? ⟨g, j, none⟩ = some (.slice z1.a z1.n z1.c) from cell_below c1 B7.out)
    have C2 := Lib.hid (show wr.cell? ⟨h, j, none⟩ = some (.slice z2.a z2.n z2.c) from cell_below c2 B7.out)
    have C3 := Lib.hid (show wr.cell? ⟨h, l3, none⟩ = some (.slice z3.a z3.n z3.c) from cell_below c3 B7.out)
    have ek : IntKind.i64.wrap ((j : Int) + 1) = (j : Int) + 1 := IntWalk.i64_in _ (by have := HM4.out; omega)
    clear hz1 hz2 hz3 hq hq2 hq3 k3 c1 c2 c3 e3 hl3
    go_upto_region 10 with (fail)
    refine Go.FreshS.wp_region_fresh 20 [] (Go.FreshS.spOf [(8, Go.FreshS.Sp.know (.bool true))])
     (fun w' => Below wr.heap.size wr w') (by kernel_rfl) (by kernel_rfl) (by kernel_rfl)
     (Go.FreshS.spOf_cons (Go.FreshS.Sp.know_keeps _ _) (Go.FreshS.spOf_nil)) (fun _ _ h hb => h.trans (hb.mono h.size)) ((Below.refl _ _).drew) ?_
    simp only [List.append_eq, List.cons_append, List.nil_append, List.take_succ_cons, List.take_zero, List.drop_succ_cons, List.drop_zero]
    refine Go.FreshS.wpF_reads rfl rfl rfl ?_ (fun w' hw' => ?_) ?_
    rotate_left
    ·have hb' := hw'.world
     skip
     clear hw'
     go_simp
     try rfl
    conv => arg 10; simp only [Act.put, List.setIfInBounds_toArray, List.set_cons_succ, List.set_cons_zero]
    refine Go.FreshS.wpF_reads rfl rfl rfl ?_ (fun w' hw' => ?_) ?_
    rotate_left
    ·have hb' := hw'.world
     skip
     clear hw'
     go_simp
     try rfl
    conv => arg 10; simp only [Act.put, List.setIfInBounds_toArray, List.set_cons_succ, List.set_cons_zero]
    refine Go.FreshS.wpF_reads rfl rfl rfl ?_ (fun w' hw' => ?_) ?_
    rotate_left
    ·have hb' := hw'.world
     have hn := HJ2.out
     clear hw'
     go_simp
     try rfl
    conv => arg 10; simp only [Act.put, List.setIfInBounds_toArray, List.set_cons_succ, List.set_cons_zero]
    refine Go.FreshS.wpF_reads rfl rfl rfl ?_ (fun w' hw' => ?_) ?_
    rotate_left
    ·have hb' := hw'.world
     have hl := cell_below C2.out hb'
     clear hw'
     go_simp
     try rfl
    conv => arg 10; simp only [Act.put, List.setIfInBounds_toArray, List.set_cons_succ, List.set_cons_zero]
    refine Go.FreshS.wpF_reads rfl rfl rfl ?_ (fun w' hw' => ?_) ?_
    rotate_left
    ·have hb' := hw'.world
     skip
     clear hw'
     go_simp
     try rfl
    conv => arg 10; simp only [Act.put, List.setIfInBounds_toArray, List.set_cons_succ, List.set_cons_zero]
    refine Go.FreshS.wpF_reads rfl rfl rfl ?_ (fun w' hw' => ?_) ?_
    rotate_left
    ·have hb' := hw'.world
     skip
     clear hw'
     go_simp
     try rfl
    conv => arg 10; simp only [Act.put, List.setIfInBounds_toArray, List.set_cons_succ, List.set_cons_zero]
    refine Go.FreshS.wpF_reads rfl rfl rfl ?_ (fun w' hw' => ?_) ?_
    rotate_left
    ·have hb' := hw'.world
     have hn := HJ1.out
     clear hw'
     go_simp
     try rfl
    conv => arg 10; simp only [Act.put, List.setIfInBounds_toArray, List.set_cons_succ, List.set_cons_zero]
    refine Go.FreshS.wpF_reads rfl rfl rfl ?_ (fun w' hw' => ?_) ?_
    rotate_left
    ·have hb' := hw'.world
     have hl := cell_below C1.out hb'
     clear hw'
     go_simp
     try rfl
    conv => arg 10; simp only [Act.put, List.setIfInBounds_toArray, List.set_cons_succ, List.set_cons_zero]
    refine Go.FreshS.wpF_spec rfl rfl rfl (fun w' hw' => ?_) ?_
    ·have hb' := hw'.world
     refine Go.FreshS.gives_of (Go.FreshS.PK (.bool true)) ?_ (fun _ _ h => h.post)
     go_simp
     have CT := (show Calls Tryz.prog 17 #[.slice z2.a z2.n z2.c, .slice z1.a z1.n z1.c] w' _ from psame5 (x := z2) (y := z1) (D2.out.below hb') (D1.out.below hb') rfl PCQ.out (by decide) (by decide))
     refine CT.mono ?_
     rintro e w'' ⟨rfl, hb⟩
     exact ⟨_, rfl, rfl, hb⟩
    rintro _ rfl
    conv => arg 10; simp only [Act.put, List.setIfInBounds_toArray, List.set_cons_succ, List.set_cons_zero]
    refine Go.FreshS.wpF_reads rfl rfl rfl ?_ (fun w' hw' => ?_) ?_
    rotate_left
    ·have hb' := hw'.world
     skip
     clear hw'
     go_simp
     try rfl
    conv => arg 10; simp only [Act.put, List.setIfInBounds_toArray, List.set_cons_succ, List.set_cons_zero]
    refine Go.FreshS.wpF_reads rfl rfl rfl ?_ (fun w' hw' => ?_) ?_
    rotate_left
    ·have hb' := hw'.world
     skip
     clear hw'
     go_simp
     try rfl
    conv => arg 10; simp only [Act.put, List.setIfInBounds_toArray, List.set_cons_succ, List.set_cons_zero]
    refine Go.FreshS.wpF_readsG (by rfl) rfl rfl ?_ (fun w' hw' => ?_) ?_
    rotate_left
    ·have hb' := hw'.world
     skip
     clear hw'
     go_simp
     try rfl
    conv => arg 10; simp only [Act.put, List.setIfInBounds_toArray, List.set_cons_succ, List.set_cons_zero]
    refine Go.FreshS.wpF_readsG (by rfl) rfl rfl ?_ (fun w' hw' => ?_) ?_
    rotate_left
    ·have hb' := hw'.world
     skip
     clear hw'
     go_simp
     try rfl
    conv => arg 10; simp only [Act.put, List.setIfInBounds_toArray, List.set_cons_succ, List.set_cons_zero]
    refine Go.FreshS.wpF_readsG (by rfl) rfl rfl ?_ (fun w' hw' => ?_) ?_
    rotate_left
    ·have hb' := hw'.world
     skip
     clear hw'
     go_simp
     try rfl
    conv => arg 10; simp only [Act.put, List.setIfInBounds_toArray, List.set_cons_succ, List.set_cons_zero]
    refine Go.FreshS.wpF_readsG (by rfl) rfl rfl ?_ (fun w' hw' => ?_) ?_
    rotate_left
    ·have hb' := hw'.world
     skip
     clear hw'
     go_simp
     try rfl
    conv => arg 10; simp only [Act.put, List.setIfInBounds_toArray, List.set_cons_succ, List.set_cons_zero]
    refine Go.FreshS.wpF_readsG (by rfl) rfl rfl ?_ (fun w' hw' => ?_) ?_
    rotate_left
    ·have hb' := hw'.world
     have hn := EW.out
     clear hw'
     go_simp
     try rfl
    conv => arg 10; simp only [Act.put, List.setIfInBounds_toArray, List.set_cons_succ, List.set_cons_zero]
    refine Go.FreshS.wpF_readsG (by rfl) rfl rfl ?_ (fun w' hw' => ?_) ?_
    rotate_left
    ·have hb' := hw'.world
     have hn := HJ3.out
     clear hw'
     go_simp
     try rfl
    conv => arg 10; simp only [Act.put, List.setIfInBounds_toArray, List.set_cons_succ, List.set_cons_zero]
    refine Go.FreshS.wpF_readsG (by rfl) rfl rfl ?_ (fun w' hw' => ?_) ?_
    rotate_left
    ·have hb' := hw'.world
     have hl := cell_below C3.out hb'
     clear hw'
     go_simp
     try rfl
    conv => arg 10; simp only [Act.put, List.setIfInBounds_toArray, List.set_cons_succ, List.set_cons_zero]
    refine Go.FreshS.wpF_readsG (by rfl) rfl rfl ?_ (fun w' hw' => ?_) ?_
    rotate_left
    ·have hb' := hw'.world
     have hn := HZ3.out
     clear hw'
     go_simp
     try rfl
    conv => arg 10; simp only [Act.put, List.setIfInBounds_toArray, List.set_cons_succ, List.set_cons_zero]
    refine Go.FreshS.wpF_readsG (by rfl) rfl rfl ?_ (fun w' hw' => ?_) ?_
    rotate_left
    ·have hb' := hw'.world
     skip
     clear hw'
     go_simp
     try rfl
    conv => arg 10; simp only [Act.put, List.setIfInBounds_toArray, List.set_cons_succ, List.set_cons_zero]
    refine Go.FreshS.wpF_nil (fun w101 hb hF => ?_)
    clear hF
    have KG := Lib.hid (KG.out.trans (hb.mono KG.out.size))
    have BW := Lib.hid hb
    clear hb
    have B7 := Lib.hid (B7.out.trans (BW.out.mono B7.out.size))
    clear BW
    go_wp2_with fail
    go_roundw
    case rel => exact ⟨j + 1, by have := HJ1.out; omega, rfl, B7.out⟩
    case measure => simp [intOf]; have := HJ1.out; omega
   ·have hge : ¬ ((j : Int) < (m : Int)) := by omega
    clear hjm
    go_wp2_with fail
    go_ret
    exact ⟨rfl, KG.out⟩
 ·subst hra
  have HRA := Lib.hid (show RS w3 (some ad) ps from HRS.out.below KG.out)
  go_wp2_with (first | (at_builtin; refine wpList_append_own _ rfl _ _ 25 rfl w3.heap.size 24 i1 _ 1 24 Tryz.underlying25 hi hz0 hz1 hz2 rfl (by decide) _ _ _ rfl (World.ownsRow_nil _ _ _ _) ad n c (ps.map PV.v) rfl (by rw [List.length_map, HPL.out, Nat.mul_one]) HRA.out.news (fun u hu => by obtain ⟨p, _, rfl⟩ := List.mem_map.1 hu; rfl) (by have := H2.out; have := HPL.out; unfold maxLen; omega) (by have := H2.out; have := HPL.out; omega) (Nat.le_refl _) ?_) | fail)
  intro v' w5 hown hgrow _
  have hb5 : Below w3.heap.size w3 w5 := (Below.refl _ _).grown hgrow (Nat.le_refl _) fun k hk => ((OQ.none w3 w3.heap.size (Nat.le_refl _)).own hk.symm).1
  have HOW := Lib.hid (show w5.ownsRow w3.heap.size 24 1 v' ps.length (ps.map PV.v) by rw [HPL.out]; exact hown)
  have HB5 := Lib.hid hb5
  have HRA5 := Lib.hid (HRA.out.below hb5)
  clear hown hgrow hb5
  go_wp2_with (first | (at_builtin; refine wpList_append_own _ rfl _ _ 25 rfl w3.heap.size 24 i1 _ 1 24 Tryz.underlying25 hi hz0 hz1 hz2 rfl (by decide) _ _ _ rfl HOW.out ad n c (ps.map PV.v) rfl (by rw [List.length_map, HPL.out, Nat.mul_one]) HRA5.out.news (fun u hu => by obtain ⟨p, _, rfl⟩ := List.mem_map.1 hu; rfl) (by have := H2.out; have := HPL.out; unfold maxLen; omega) (by have := H2.out; have := HPL.out; omega) HB5.out.size ?_) | fail)
  intro v'' w6 hown hgrow _
  have hb6 : Below w3.heap.size w3 w6 := HB5.out.grown hgrow HB5.out.size fun k hk => ((show OQ w5 w3.heap.size v' ps from HOW.out).own hk.symm).1
  have hoq : OQ w6 w3.heap.size v'' (ps ++ ps) := by
   show w6.ownsRow _ _ _ _ _ _
   rw [List.length_append, List.map_append]
   rw [← HPL.out] at hown
   exact hown
  obtain ⟨a2, c2, hv, hrs, _⟩ := hoq.row
  rw [List.length_append, HPL.out] at hv
  subst hv
  have HRX := Lib.hid hrs
  have B3X := Lib.hid hb6
  have KGX := Lib.hid (KG.out.trans (hb6.mono KG.out.size))
  clear hown hgrow hb6 hoq hrs HB5 HRA5 HOW hi hz0 hz1 hz2
  have CT := Lib.hid (HTW.out.second w6 a2 c2 os R KGX.out HRX.out HT.out)
  go_wp2_with fail
  with_reducible refine CT.out.mono ?_
  rintro e w7 ⟨v2, zs2, os2, ⟨sa, sn, sc⟩, R2, he, hoq2, hlen2, hdp2, hs2, ⟨hR2, hos2⟩, hb⟩
  obtain rfl : e = .returned (.tuple #[v2, .slice sa sn sc, .int .i64 k]) := he
  subst hR2
  obtain ⟨ta, tc, hv2, _, hrow2⟩ := hoq2.row
  obtain ⟨l2, hl2⟩ : ∃ l, l = zs2.length := ⟨_, rfl⟩
  rw [← hl2] at hv2
  subst hv2
  have HL2 := Lib.hid (show l2 = m + m by rw [hl2, hlen2, hos2, List.length_append, List.length_replicate, HM.out])
  have h37 : Below w3.heap.size w3 w7 := B3X.out.trans (hb.mono B3X.out.size)
  have HB37 := Lib.hid h37
  have KG := Lib.hid (KGX.out.trans (hb.mono KGX.out.size))
  have K7 := Lib.hid KG.out
  have HROW1 := Lib.hid (fun i z hi => by obtain ⟨g, e, h⟩ := HROW.out i z hi; exact ⟨g, e, cell_below h HB37.out⟩ : ∀ (i : Nat) (z : PV), zs1[i]? = some z → ∃ g, qa = some ⟨g, 0, none⟩ ∧ w7.cell? ⟨g, i, none⟩ = some z.v)
  have HROW2 := Lib.hid hrow2
  have HD1 := Lib.hid (fun i z q h1 h2 => (HDP.out i z q h1 h2).k.below HB37.out : ∀ (i : Nat) (z : PV) (q : List Tm), zs1[i]? = some z → os[i]? = some q → KP w7 z q)
  have HD2 := Lib.hid (fun i z q h1 h2 => (hdp2 i z q h1 h2).k : ∀ (i : Nat) (z : PV) (q : List Tm), zs2[i]? = some z → os2[i]? = some q → KP w7 z q)
  have HOS2 := Lib.hid hos2
  have HZL1 := Lib.hid (show zs1.length = m by rw [HLEN.out, HM.out])
  have HZL2 := Lib.hid (show zs2.length = l2 from hl2.symm)
  have hl2' : (l2 : Int) = 2 * (m : Int) := by have := HL2.out; omega
  have ew : IntKind.i64.wrap (2 * (m : Int)) = 2 * (m : Int) := IntWalk.i64_in _ (by have := HM4.out; omega)
  have CT := Lib.hid (show Calls Tryz.prog 17 #[.slice ra rn rc, .slice sa sn sc] w7 _ from psame5 (x := ⟨ra, rn, rc⟩) (y := ⟨sa, sn, sc⟩) (HR.out.k.below HB37.out) hs2.k rfl (HTW.out.pc os R2 HT.out).2.1 (by decide) (by decide))
  clear hoq2 hlen2 hdp2 hs2 hos2 hb hrow2 hl2 h37
  go_wp2_with fail
  with_reducible refine CT.out.mono ?_
  rintro e w8 ⟨rfl, hb⟩
  have KG := Lib.hid (KG.out.trans (hb.mono KG.out.size))
  have B78 := Lib.hid hb
  clear hb CT
  go_wp2_with fail
  clear hl2' ew
  go_loopw [13] (fun i wr => ∃ j : Nat, j ≤ m ∧ i = .int .i64 j ∧ Below w7.heap.size w7 wr) (fun i _ => m - (intOf i).toNat)
  case atStart => exact ⟨0, Nat.zero_le _, rfl, B78.out⟩
  case round =>
   obtain ⟨j, hj, rfl, hb0⟩ := hrel
   have HJ := Lib.hid hj; have B7 := Lib.hid hb0
   clear hj hb0 KG
   have KG := Lib.hid (show Below w.heap.size w wr from K7.out.trans (B7.out.mono K7.out.size))
   by_cases hjm : j < m
   ·have HJ1 := Lib.hid hjm
    have HJ2 := Lib.hid (show j < l2 by have := HL2.out; omega)
    obtain ⟨l3, hl3⟩ : ∃ l, l = m + j := ⟨_, rfl⟩
    have HJ3 := Lib.hid (show l3 < l2 by have := HL2.out; omega)
    have EW := Lib.hid (show IntKind.i64.wrap ((m : Int) + (j : Int)) = (l3 : Int) by rw [IntWalk.i64_in _ (by have := HM4.out; omega)]; omega)
    obtain ⟨z1, hz1⟩ : ∃ z, zs1[j]? = some z := ⟨_, List.getElem?_eq_getElem (by rw [HZL1.out]; exact hjm)⟩
    obtain ⟨z2, hz2⟩ : ∃ z, zs2[j]? = some z := ⟨_, List.getElem?_eq_getElem (by rw [HZL2.out]; exact HJ2.out)⟩
    obtain ⟨z3, hz3⟩ : ∃ z, zs2[l3]? = some z := ⟨_, List.getElem?_eq_getElem (by rw [HZL2.out]; exact HJ3.out)⟩
    obtain ⟨q, hq⟩ : ∃ q, os[j]? = some q := ⟨_, List.getElem?_eq_getElem (by rw [← HM.out]; exact hjm)⟩
    have hq2 : os2[j]? = some q := by rw [HOS2.out, List.getElem?_append_left (by rw [← HM.out]; exact hjm)]; exact hq
    have hq3 : os2[l3]? = some [] := by
     rw [HOS2.out, List.getElem?_append_right (by rw [← HM.out]; omega), List.getElem?_replicate, if_pos (by rw [← HM.out]; omega)]
    have k3 := (HD2.out l3 z3 [] hz3 hq3).len
    have HZ3 := Lib.hid (show ((z3.n : Nat) : Int) = 0 by rw [k3]; rfl)
    have D1 := Lib.hid ((HD1.out j z1 q hz1 hq).below B7.out)
    have D2 := Lib.hid ((HD2.out j z2 q hz2 hq2).below B7.out)
    have PCQ := Lib.hid ((HTW.out.pc os R2 HT.out).2.2 q (List.mem_of_getElem? hq))
    obtain ⟨g, e1, c1⟩ := HROW1.out j z1 hz1
    obtain ⟨h, e2, c2⟩ := HROW2.out j z2 hz2
    obtain ⟨h', e3, c3⟩ := HROW2.out l3 z3 hz3
    subst e1 e2
    obtain rfl : h = h' := by injection e3 with e3; injection e3
    have C1 := Lib.hid (show wr.cell? ⟨g, j, none⟩ = some (.slice z1.a z1.n z1.c) from cell_below c1 B7.out)
    have C2 := Lib.hid (show wr.cell? ⟨h, j, none⟩ = some (.slice z2.a z2.n z2.c) from cell_below c2 B7.out)
    have C3 := Lib.hid (show wr.cell? ⟨h, l3, none⟩ = some (.slice z3.a z3.n z3.c) from cell_below c3 B7.out)
    have ek : IntKind.i64.wrap ((j : Int) + 1) = (j : Int) + 1 := IntWalk.i64_in _ (by have := HM4.out; omega)
    clear hz1 hz2 hz3 hq hq2 hq3 k3 c1 c2 c3 e3 hl3
    go_upto_region 10 with (fail)
    refine Go.FreshS.wp_region_fresh 20 [] (Go.FreshS.spOf [(8, Go.FreshS.Sp.know (.bool true))])
     (fun w' => Below wr.heap.size wr w') (by kernel_rfl) (by kernel_rfl) (by kernel_rfl)
     (Go.FreshS.spOf_cons (Go.FreshS.Sp.know_keeps _ _) (Go.FreshS.spOf_nil)) (fun _ _ h hb => h.trans (hb.mono h.size)) ((Below.refl _ _).drew) ?_
    simp only [List.append_eq, List.cons_append, List.nil_append, List.take_succ_cons, List.take_zero, List.drop_succ_cons, List.drop_zero]
    refine Go.FreshS.wpF_reads rfl rfl rfl ?_ (fun w' hw' => ?_) ?_
    rotate_left
    ·have hb' := hw'.world
     skip
     clear hw'
     go_simp
     try rfl
    conv => arg 10; simp only [Act.put, List.setIfInBounds_toArray, List.set_cons_succ, List.set_cons_zero]
    refine Go.FreshS.wpF_reads rfl rfl rfl ?_ (fun w' hw' => ?_) ?_
    rotate_left
    ·have hb' := hw'.world
     skip
     clear hw'
     go_simp
     try rfl
    conv => arg 10; simp only [Act.put, List.setIfInBounds_toArray, List.set_cons_succ, List.set_cons_zero]
    refine Go.FreshS.wpF_reads rfl rfl rfl ?_ (fun w' hw' => ?_) ?_
    rotate_left
    ·have hb' := hw'.world
     have hn := HJ2.out
     clear hw'
     go_simp
     try rfl
    conv => arg 10; simp only [Act.put, List.setIfInBounds_toArray, List.set_cons_succ, List.set_cons_zero]
    refine Go.FreshS.wpF_reads rfl rfl rfl ?_ (fun w' hw' => ?_) ?_
    rotate_left
    ·have hb' := hw'.world
     have hl := cell_below C2.out hb'
     clear hw'
     go_simp
     try rfl
    conv => arg 10; simp only [Act.put, List.setIfInBounds_toArray, List.set_cons_succ, List.set_cons_zero]
    refine Go.FreshS.wpF_reads rfl rfl rfl ?_ (fun w' hw' => ?_) ?_
    rotate_left
    ·have hb' := hw'.world
     skip
     clear hw'
     go_simp
     try rfl
    conv => arg 10; simp only [Act.put, List.setIfInBounds_toArray, List.set_cons_succ, List.set_cons_zero]
    refine Go.FreshS.wpF_reads rfl rfl rfl ?_ (fun w' hw' => ?_) ?_
    rotate_left
    ·have hb' := hw'.world
     skip
     clear hw'
     go_simp
     try rfl
    conv => arg 10; simp only [Act.put, List.setIfInBounds_toArray, List.set_cons_succ, List.set_cons_zero]
    refine Go.FreshS.wpF_reads rfl rfl rfl ?_ (fun w' hw' => ?_) ?_
    rotate_left
    ·have hb' := hw'.world
     have hn := HJ1.out
     clear hw'
     go_simp
     try rfl
    conv => arg 10; simp only [Act.put, List.setIfInBounds_toArray, List.set_cons_succ, List.set_cons_zero]
    refine Go.FreshS.wpF_reads rfl rfl rfl ?_ (fun w' hw' => ?_) ?_
    rotate_left
    ·have hb' := hw'.world
     have hl := cell_below C1.out hb'
     clear hw'
     go_simp
     try rfl
    conv => arg 10; simp only [Act.put, List.setIfInBounds_toArray, List.set_cons_succ, List.set_cons_zero]
    refine Go.FreshS.wpF_spec rfl rfl rfl (fun w' hw' => ?_) ?_
    ·have hb' := hw'.world
     refine Go.FreshS.gives_of (Go.FreshS.PK (.bool true)) ?_ (fun _ _ h => h.post)
     go_simp
     have CT := (show Calls Tryz.prog 17 #[.slice z2.a z2.n z2.c, .slice z1.a z1.n z1.c] w' _ from psame5 (x := z2) (y := z1) (D2.out.below hb') (D1.out.below hb') rfl PCQ.out (by decide) (by decide))
     refine CT.mono ?_
     rintro e w'' ⟨rfl, hb⟩
     exact ⟨_, rfl, rfl, hb⟩
    rintro _ rfl
    conv => arg 10; simp only [Act.put, List.setIfInBounds_toArray, List.set_cons_succ, List.set_cons_zero]
    refine Go.FreshS.wpF_reads rfl rfl rfl ?_ (fun w' hw' => ?_) ?_
    rotate_left
    ·have hb' := hw'.world
     skip
     clear hw'
     go_simp
     try rfl
    conv => arg 10; simp only [Act.put, List.setIfInBounds_toArray, List.set_cons_succ, List.set_cons_zero]
    refine Go.FreshS.wpF_reads rfl rfl rfl ?_ (fun w' hw' => ?_) ?_
    rotate_left
    ·have hb' := hw'.world
     skip
     clear hw'
     go_simp
     try rfl
    conv => arg 10; simp only [Act.put, List.setIfInBounds_toArray, List.set_cons_succ, List.set_cons_zero]
    refine Go.FreshS.wpF_readsG (by rfl) rfl rfl ?_ (fun w' hw' => ?_) ?_
    rotate_left
    ·have hb' := hw'.world
     skip
     clear hw'
     go_simp
     try rfl
    conv => arg 10; simp only [Act.put, List.setIfInBounds_toArray, List.set_cons_succ, List.set_cons_zero]
    refine Go.FreshS.wpF_readsG (by rfl) rfl rfl ?_ (fun w' hw' => ?_) ?_
    rotate_left
    ·have hb' := hw'.world
     skip
     clear hw'
     go_simp
     try rfl
    conv => arg 10; simp only [Act.put, List.setIfInBounds_toArray, List.set_cons_succ, List.set_cons_zero]
    refine Go.FreshS.wpF_readsG (by rfl) rfl rfl ?_ (fun w' hw' => ?_) ?_
    rotate_left
    ·have hb' := hw'.world
     skip
     clear hw'
     go_simp
     try rfl
    conv => arg 10; simp only [Act.put, List.setIfInBounds_toArray, List.set_cons_succ, List.set_cons_zero]
    refine Go.FreshS.wpF_readsG (by rfl) rfl rfl ?_ (fun w' hw' => ?_) ?_
    rotate_left
    ·have hb' := hw'.world
     skip
     clear hw'
     go_simp
     try rfl
    conv => arg 10; simp only [Act.put, List.setIfInBounds_toArray, List.set_cons_succ, List.set_cons_zero]
    refine Go.FreshS.wpF_readsG (by rfl) rfl rfl ?_ (fun w' hw' => ?_) ?_
    rotate_left
    ·have hb' := hw'.world
     have hn := EW.out
     clear hw'
     go_simp
     try rfl
    conv => arg 10; simp only [Act.put, List.setIfInBounds_toArray, List.set_cons_succ, List.set_cons_zero]
    refine Go.FreshS.wpF_readsG (by rfl) rfl rfl ?_ (fun w' hw' => ?_) ?_
    rotate_left
    ·have hb' := hw'.world
     have hn := HJ3.out
     clear hw'
     go_simp
     try rfl
    conv => arg 10; simp only [Act.put, List.setIfInBounds_toArray, List.set_cons_succ, List.set_cons_zero]
    refine Go.FreshS.wpF_readsG (by rfl) rfl rfl ?_ (fun w' hw' => ?_) ?_
    rotate_left
    ·have hb' := hw'.world
     have hl := cell_below C3.out hb'
     clear hw'
     go_simp
     try rfl
    conv => arg 10; simp only [Act.put, List.setIfInBounds_toArray, List.set_cons_succ, List.set_cons_zero]
    refine Go.FreshS.wpF_readsG (by rfl) rfl rfl ?_ (fun w' hw' => ?_) ?_
    rotate_left
    ·have hb' := hw'.world
     have hn := HZ3.out
     clear hw'
     go_simp
     try rfl
    conv => arg 10; simp only [Act.put, List.setIfInBounds_toArray, List.set_cons_succ, List.set_cons_zero]
    refine Go.FreshS.wpF_readsG (by rfl) rfl rfl ?_ (fun w' hw' => ?_) ?_
    rotate_left
    ·have hb' := hw'.world
     skip
     clear hw'
     go_simp
     try rfl
    conv => arg 10; simp only [Act.put, List.setIfInBounds_toArray, List.set_cons_succ, List.set_cons_zero]
    refine Go.FreshS.wpF_nil (fun w101 hb hF => ?_)
    clear hF
    have KG := Lib.hid (KG.out.trans (hb.mono KG.out.size))
    have BW := Lib.hid hb
    clear hb
    have B7 := Lib.hid (B7.out.trans (BW.out.mono B7.out.size))
    clear BW
    go_wp2_with fail
    go_roundw
    case rel => exact ⟨j + 1, by have := HJ1.out; omega, rfl, B7.out⟩
    case measure => simp [intOf]; have := HJ1.out; omega
   ·have hge : ¬ ((j : Int) < (m : Int)) := by omega
    clear hjm
    go_wp2_with fail
    go_ret
    exact ⟨rfl, KG.out⟩
end Go.Proofs.YthcccdjfedbnfaaGreat.Pol
namespace Go.Proofs.YthcccdjfedbnfaaGreat.Pol
open Go.RowKit Go.Sort Go.Proofs.YthcccdjfedbnfaaGreat.Limb Go.ChangeShapes Go.WideShapes Go.ChangeAt
namespace DividesTwiceS
theorem own : ownKnob Tryz.prog.godebug = none := by kernel_rfl
theorem laidOut : laidOutB Tryz.prog = true := by kernel_rfl
theorem order_pos {o : Int} (h : (Lit.int .u8 o).wf = true) : 0 ≤ o := by
 have h1 : (decide (IntKind.min .u8 ≤ o) && decide (o ≤ IntKind.max .u8)) = true := h
 rw [Bool.and_eq_true] at h1
 have h2 := of_decide_eq_true h1.1
 have h3 : IntKind.min .u8 = 0 := by decide
 omega
set_option maxRecDepth 100000 in
theorem open_polysN {H : Type} {enc : TypeId × Value → H} {W : World} {base : Nat} {r : Reach} {sp : Nat → Bool} {hd : Bool} {v : Value} {d : DataW H} {p : List MemPlace}
  (hok : Value.okWide Tryz.prog W r base 25 v) (h : DataW.Trod enc Tryz.prog W 0 sp hd 25 v d p) : ∃ (a : Option Addr) (n c : Nat) (Xs : List (PV × List TO)), v = .slice a n c ∧ RawR W a n Xs ∧ (a = none → c = 0) := by
 obtain ⟨a, n, c, Xs, e, hr⟩ := open_polysV hok h
 refine ⟨a, n, c, Xs, e, hr, fun ha => ?_⟩
 subst e ha
 obtain ⟨fuel, hf⟩ := h
 have hf : DataW.trod enc Tryz.prog W 0 sp hd fuel 25 [.slice none n c] = some (d, p) := hf
 rcases DataW.trod_slice Tryz.underlying25 hf with ⟨e2, _⟩ | ⟨a, len, cap, elems, rest, m, _, e2, _⟩
 ·simp only [List.cons.injEq, Value.slice.injEq, and_true] at e2
  exact e2.2.2
 ·simp only [List.cons.injEq, Value.slice.injEq, and_true] at e2
  cases e2.1
noncomputable def laidWorld (os : Os) : World := World.laidAll Tryz.prog os Rows.dividesTwiceRow.laid
noncomputable def witArgs : Array Value := #[.int .u8 0, .slice none 0 0, .slice none 0 0]
theorem laid_met (os : Os) : laidMet Tryz.prog Rows.dividesTwiceRow.laid ((laidWorld os).forCall (fun _ _ => 0) ⟨#[], witArgs, []⟩).memory :=
 laidMet_laidAll _ (by kernel_rfl) (by kernel_rfl)
theorem reads (os : Os) {H : Type} (enc : TypeId × Value → H) : ∃ places, DataW.whole enc Tryz.prog ((laidWorld os).forCall (fun _ _ => 0) ⟨#[], witArgs, []⟩).memory Tryz.f7.params.toList Rows.dividesTwiceSpec.vars false witArgs.toList 8 = some ([.lit (.int .u8 0), .nil, .nil], [], places) :=
 ⟨[], by kernel_rfl⟩
set_option maxRecDepth 100000 in
theorem lifted (os : Os) (started : os.Started) (H : Type) (enc : TypeId × Value → H) (F : Stop.Interp) :
  ReturnsInHanded {} Tryz.checked os 7 .any ((OpenSpec.ofChange Rows.dividesTwiceSpec).preRow enc Tryz.prog Tryz.f7 Rows.dividesTwiceRow.domain false Rows.dividesTwiceRow.laid) (((OpenSpec.ofChange Rows.dividesTwiceSpec).at F).post enc Tryz.prog Tryz.f7 false true false false) := by
 obtain ⟨places, hx⟩ := reads os enc
 refine returnsInHanded_of_row (C := Tryz.checked) (s := OpenSpec.ofChange Rows.dividesTwiceSpec) own started (by kernel_rfl) Tryz.func7
  (witness_row_atRef (enc := enc) (C := Tryz.checked) false (laidWorld os) witArgs (World.laidAll_os _ _ _) (by kernel_rfl) (by kernel_rfl) (by kernel_rfl)
   (OpenSpec.preRow_of_cond 8 hx (by kernel_rfl) (fun k hk => by cases hk) (by kernel_rfl) (laid_met os))) ?_
 intro W base args ds gs before hval0 hW _ _ hwt _ _ _
 have hval : ∀ (j : Nat) t v, Tryz.f7.params[j]? = some t → args[j]? = some v → Value.okWide Tryz.prog W .any base t v := hval0
 have hW' := hW
 obtain ⟨p, q, hA0, hV, rfl, hfz, hnd⟩ := hW
 have hA : DataW.TrodAll enc Tryz.prog W 0 (fun _ => true) true Tryz.f7.params.toList args.toList ds p := hA0
 rw [Tryz.params7] at hA hval
 obtain ⟨v0, v1, v2, d0, d1, d2, p0, p1, p2, rfl, rfl, rfl, h0, h1, h2⟩ := trodAll_three hA
 obtain ⟨rfl, rfl⟩ := trodVars_none hV
 obtain ⟨o, rfl, -, -, wo⟩ := open_int Tryz.underlying22 (hval 0 22 v0 rfl rfl) h0
 have ho : 0 ≤ o := order_pos wo
 obtain ⟨x1, L1, rfl, r1⟩ := open_polyV (hval 1 24 v1 rfl rfl) h1
 obtain ⟨a2, n2, c2, Xs2, rfl, r2, s2⟩ := open_polysN (hval 2 25 v2 rfl rfl) h2
 refine (dividesTwice_law o x1 L1 a2 n2 c2 Xs2 W ho r1 r2 s2).mono fun e W' ⟨he, hg⟩ => ?_
 subst he
 exact ⟨_, rfl, LawPost.law_post laidOut (by kernel_rfl) (by kernel_rfl) Tryz.underlying4 hW' rfl rfl hg⟩
theorem said : Rows.DividesTwiceSaid :=
 OpenClaim.holds_of_cond 7 Tryz.f7 rfl rfl rfl rfl rfl rfl rfl ⟨rfl, rfl, rfl, rfl, rfl⟩ rfl rfl rfl rfl rfl (by kernel_rfl) Tryz.func7 (by kernel_rfl)
  (of_decide_eq_true (by kernel_rfl)) (by unfold Func.isWrapper; first | (rw [if_pos (by decide +kernel)]; kernel_rfl) | (rw [if_neg (by decide +kernel)]; exact ⟨rfl, rfl⟩))
  (fun os started H enc _ F => by rw [OpenClaim.pre_eq_preRow]; exact lifted os started H enc F)
#print axioms said
end DividesTwiceS
end Go.Proofs.YthcccdjfedbnfaaGreat.Pol
