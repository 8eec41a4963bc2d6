/-
  The walks of Exact; the rows of sums that a call hands back, or that are written down.
-/
import Derived.Test.YthcccdjfedbnfaaGreatDbK
import Derived.WalkMore
import Derived.OwnWalk
set_option linter.unusedSimpArgs false
set_option linter.unusedVariables false
namespace Go.Proofs.YthcccdjfedbnfaaGreat.Pol
open Go.RowKit Go.Sort Go.Proofs.YthcccdjfedbnfaaGreat.Limb
open Classical in
noncomputable def leastM {α : Type} (R : α → Prop) (μ : α → Nat) : Nat := if h : ∃ m, (∃ s, R s ∧ μ s = m) ∧ ∀ s, R s → m ≤ μ s then Classical.choose h else 0
theorem least_ex {α : Type} (R : α → Prop) (μ : α → Nat) : ∀ n s, R s → μ s = n → ∃ m, (∃ s, R s ∧ μ s = m) ∧ ∀ s, R s → m ≤ μ s := by
 intro n
 induction n using Nat.strongRecOn with
 | ind n ih =>
  intro s hs h
  by_cases hl : ∃ s', R s' ∧ μ s' < n
  ·obtain ⟨s', h1, h2⟩ := hl
   exact ih _ h2 s' h1 rfl
  ·exact ⟨n, ⟨s, hs, h⟩, fun s' h' => Nat.le_of_not_lt fun hlt => hl ⟨s', h', hlt⟩⟩
theorem least_at {α : Type} {R : α → Prop} {μ : α → Nat} (h : ∃ s, R s) : ∃ s, R s ∧ μ s = leastM R μ := by
 obtain ⟨s, hs⟩ := h
 have hx := least_ex R μ _ s hs rfl
 have h2 : leastM R μ = Classical.choose hx := dif_pos hx
 rw [h2]
 exact (Classical.choose_spec hx).1
theorem least_le {α : Type} {R : α → Prop} {μ : α → Nat} {s : α} (h : R s) : leastM R μ ≤ μ s := by
 have hx := least_ex R μ _ s h rfl
 have h2 : leastM R μ = Classical.choose hx := dif_pos hx
 rw [h2]
 exact (Classical.choose_spec hx).2 s h
def PP (w0 w : World) (lo : Nat) (x : PV) (P : List Tm) : Prop := KP w0 x P ∨ DP w lo x P
theorem PP.k {w0 w : World} {lo : Nat} {x : PV} {P : List Tm} (h : PP w0 w lo x P) (hb : Below w0.heap.size w0 w) : KP w x P := h.elim (fun h => h.below hb) (fun h => h.k)
theorem PP.below {w0 w w' : World} {lo : Nat} {x : PV} {P : List Tm} (h : PP w0 w lo x P) (hb : Below w.heap.size w w') : PP w0 w' lo x P := h.imp id fun h => h.below hb
theorem PP.canon {w0 w : World} {lo : Nat} {x : PV} {P : List Tm} (h : PP w0 w lo x P) : Canon P := h.elim (fun h => h.canon) (fun h => h.canon)
theorem PP.small {w0 w : World} {lo : Nat} {x : PV} {P : List Tm} (h : PP w0 w lo x P) : ∀ t ∈ P, t.1.Small := h.elim (fun h => h.small) (fun h => h.small)
theorem PP.rows {w0 w w' : World} {lo : Nat} {x : PV} {P : List Tm} (h : PP w0 w lo x P) (hs : ∀ (b : Nat) (c : Array Value) (T : TypeId), w.heap[b]? = some (.cells c T (0, 0)) → rowT T = true → w'.heap[b]? = w.heap[b]?) : PP w0 w' lo x P := h.imp id fun h => h.rows hs
theorem OD.slice {w : World} {lo : Nat} {v : Value} {bs : List Nat} (h : OD w lo v bs) : ∃ a c, v = .slice a bs.length c ∧ ∀ i b, bs[i]? = some b → ∃ g, a = some ⟨g, 0, none⟩ ∧ w.cell? ⟨g, i, none⟩ = some (ptr b) := by
 rcases h.2 with ⟨hv, h0⟩ | ⟨g, cap, cur, hv, hnc, _, hg, _, hcs, htake⟩
 ·have hz : bs = [] := List.length_eq_zero_iff.1 h0
  subst hz
  exact ⟨none, 0, hv, fun i b hi => by simp at hi⟩
 ·refine ⟨some ⟨g, 0, none⟩, cap, hv, fun i b hi => ⟨g, rfl, ?_⟩⟩
  have hil := (List.getElem?_eq_some_iff.1 hi).1
  rw [cell_of_row _ _ _ _ _ _ ‹_›]
  have h1 : (bs.map ptr)[i]? = some (ptr b) := by rw [List.getElem?_map, hi]; rfl
  rw [← htake, List.getElem?_take, if_pos (by omega), Array.getElem?_toList] at h1
  exact h1
theorem OD.mono {w : World} {lo lo' : Nat} {v : Value} {bs : List Nat} (h : OD w lo v bs) (hl : lo' ≤ lo) : OD w lo' v bs := by
 refine ⟨h.1, h.2.imp id ?_⟩
 rintro ⟨g, cap, cur, hv, hlo, h3⟩
 exact ⟨g, cap, cur, hv, by omega, h3⟩
theorem set_rows {w : World} {b : Nat} {l : List Value} (hb : Bxs w b 75 l) (i : Nat) (v : Value) : ∀ (g : Nat) (c : Array Value) (T : TypeId), w.heap[g]? = some (.cells c T (0, 0)) → rowT T = true → (w.setCell ⟨b, i, none⟩ v).heap[g]? = w.heap[g]? := fun g c T hg hT =>
 Below.heap_setCell _ _ _ _ fun e => by
  have e : g = b := e
  subst e
  have h2 : w.heap[g]? = some (.cells l.toArray 75 (0, 0)) := hb
  rw [hg] at h2
  have : T = 75 := by injection h2 with h2; injection h2
  subst this
  exact absurd hT (by decide)
theorem DVS.store {w0 w : World} {lo : Nat} {v : Value} {es : List DvE} (h : DVS w0 w lo v es) {i : Nat} {e : DvE} (hi : es[i]? = some e) {z : PV} {O : List Tm} (hz : DP w lo z O) :
  DVS w0 (w.setCell ⟨e.1.b, 9, none⟩ z.v) lo v (es.set i (⟨e.1.b, e.1.y, e.1.x, z⟩, e.2.1, O)) := by
 have he := h.ok e (List.mem_of_getElem? hi)
 have hs := set_rows he.bx 9 z.v
 have hil := (List.getElem?_eq_some_iff.1 hi).1
 have hbs : (es.set i ((⟨e.1.b, e.1.y, e.1.x, z⟩ : DvR), e.2.1, O)).map (fun e => e.1.b) = es.map fun e => e.1.b := by
  rw [List.map_set]
  refine List.ext_getElem? fun j => ?_
  rw [List.getElem?_set]
  split
  ·rename_i hij
   subst hij
   rw [if_pos (by rw [List.length_map]; exact hil), List.getElem?_map, hi]
   rfl
  ·rfl
 refine ⟨?_, fun d hd => ?_, by rw [hbs]; exact h.ap⟩
 ·rw [hbs]
  refine ⟨h.row.1, h.row.2.imp id ?_⟩
  rintro ⟨g, cap, cur, hv, hlo, hg, h3⟩
  refine ⟨g, cap, cur, hv, hlo, (Below.heap_setCell _ _ _ _ fun e1 => ?_).trans hg, h3⟩
  have e1 : g = e.1.b := e1
  have h2 : w.heap[e.1.b]? = some (.cells _ 75 (0, 0)) := he.bx
  rw [← e1, hg] at h2
  injection h2 with h2
  injection h2 with _ h2
  exact absurd h2 (by decide)
 ·obtain ⟨j, hj⟩ := List.mem_iff_getElem?.1 hd
  rw [List.getElem?_set] at hj
  split at hj
  ·try rw [if_pos hil] at hj
   obtain rfl : _ = d := Option.some.inj hj
   exact ⟨he.ge, he.bx.put 9 _, he.le.kept fun b hb => let ⟨_, h5⟩ := DF.blkc he.le hb; hs b _ _ h5 rfl, he.all, hz.rows hs⟩
  ·rename_i hij
   have hdm := List.mem_of_getElem? hj
   have hdo := h.ok d hdm
   have hne : d.1.b ≠ e.1.b := fun e1 => hij (by
    have h1 : (es.map fun e => e.1.b)[j]? = some d.1.b := by rw [List.getElem?_map, hj]; rfl
    have h2 : (es.map fun e => e.1.b)[i]? = some d.1.b := by rw [List.getElem?_map, hi, e1]; rfl
    have hjl := (List.getElem?_eq_some_iff.1 h1).1
    have hil' := (List.getElem?_eq_some_iff.1 h2).1
    rw [List.getElem?_eq_getElem hjl] at h1
    rw [List.getElem?_eq_getElem hil'] at h2
    exact (List.nodup_iff_pairwise_ne.1 h.ap |> fun hp => by
     refine Classical.byContradiction fun hne => ?_
     rcases Nat.lt_or_gt_of_ne hne with hlt | hlt
     ·exact (List.pairwise_iff_getElem.1 hp _ _ hil' hjl hlt) ((Option.some.inj h2).trans (Option.some.inj h1).symm)
     ·exact (List.pairwise_iff_getElem.1 hp _ _ hjl hil' hlt) ((Option.some.inj h1).trans (Option.some.inj h2).symm)))
   exact ⟨hdo.ge, hdo.bx.other hne _, hdo.le.kept fun b hb => let ⟨_, h5⟩ := DF.blkc hdo.le hb; hs b _ _ h5 rfl, hdo.all, hdo.of.rows hs⟩
theorem ds_eq {o : Int} : ∀ {l1 l2 : List Dv}, l1.map Prod.snd = l2.map Prod.snd → (∀ d ∈ l1, Lead (keyO o) d.2 d.1) → (∀ d ∈ l2, Lead (keyO o) d.2 d.1) → (∀ d ∈ l1, Canon d.2 ∧ ∀ t ∈ d.2, t.1.Small) → l1 = l2
 | [], [], _, _, _, _ => rfl
 | [], _ :: _, h, _, _, _ => by simp at h
 | _ :: _, [], h, _, _, _ => by simp at h
 | (a, A) :: l1, (b, B) :: l2, h, h1, h2, h3 => by
  rw [List.map_cons, List.map_cons, List.cons.injEq] at h
  obtain ⟨e, h⟩ := h
  have e : A = B := e
  subst e
  obtain ⟨hc, hs⟩ := h3 _ (List.mem_cons_self ..)
  have := lead_uniq (keyO_key o) hc (fun t ht => ⟨(hs t ht).1, (hs t ht).2.1, (hs t ht).2.2.1, (hs t ht).2.2.2⟩) (h1 (a, A) (List.mem_cons_self ..)) (h2 (b, A) (List.mem_cons_self ..))
  have this : a = b := this
  subst this
  rw [ds_eq h (fun d hd => h1 d (List.mem_cons_of_mem _ hd)) (fun d hd => h2 d (List.mem_cons_of_mem _ hd)) fun d hd => h3 d (List.mem_cons_of_mem _ hd)]
theorem map_set_same {α β : Type} (f : α → β) {l : List α} {j : Nat} {a b : α} (h : l[j]? = some a) (hf : f b = f a) : (l.set j b).map f = l.map f := by
 refine List.ext_getElem? fun i => ?_
 rw [List.getElem?_map, List.getElem?_map, List.getElem?_set]
 by_cases hij : j = i
 ·subst hij
  rw [if_pos rfl, if_pos (List.getElem?_eq_some_iff.1 h).1, h, Option.map_some, Option.map_some, hf]
 ·rw [if_neg hij]
theorem map_set_mod {α β : Type} (f : α → β) (g : β → β) {l : List α} {j : Nat} {a b : α} (h : l[j]? = some a) (hf : f b = g (f a)) : (l.set j b).map f = (l.map f).modify j g := by
 refine List.ext_getElem? fun i => ?_
 rw [List.getElem?_map, List.getElem?_set, List.getElem?_modify, List.getElem?_map]
 by_cases hij : j = i
 ·subst hij
  rw [if_pos rfl, if_pos (List.getElem?_eq_some_iff.1 h).1, h, Option.map_some, Option.map_some, hf]
  simp
 ·rw [if_neg hij]
  simp [hij]
structure DivP (o : Int) (ds : List Dv) (Inv : DS → Prop) (μ : DS → Nat) (k kd nd n : Nat) : Prop where
 lq : ∀ s, Inv s → (∀ t ∈ s.p, LQ t.2 k) ∧ (∀ t ∈ s.r, LQ t.2 k) ∧ ∀ q ∈ s.os, ∀ t ∈ q, LQ t.2 k
 len : ∀ s, Inv s → s.p.length ≤ n ∧ s.r.length ≤ n ∧ ∀ q ∈ s.os, q.length ≤ n
 step : ∀ s s', Inv s → Canon s.p → Canon s.r → (∀ q ∈ s.os, Canon q) → (∀ t ∈ s'.p, t.1.Small) → Step (keyO o) ds s s' → Inv s' ∧ μ s' < μ s
 dl : ∀ d ∈ ds, (∀ t ∈ d.2, LQ t.2 kd) ∧ d.2.length ≤ nd ∧ Lead (keyO o) d.2 d.1
 hk : 2 * (k + 2 * kd + 1) + 8 ≤ 800000
 hkk : nd * (k + 2 * kd + 5) ≤ 900000
 hn : n ≤ 400000
 hnd : nd ≤ 100000
structure DivI (w0 : World) (va : Value) (ds : List Dv) (Inv : DS → Prop) (pv rv : Value) (wr : World) (s : DS) : Prop where
 ex : ∃ (p r : PV) (es : List DvE), pv = p.v ∧ rv = r.v ∧ PP w0 wr w0.heap.size p s.p ∧ DP wr w0.heap.size r s.r ∧ DVS w0 wr w0.heap.size va es ∧ es.map (fun e => e.2.1) = ds ∧ es.map (fun e => e.2.2) = s.os
 inv : Inv s
 bel : Below w0.heap.size w0 wr
abbrev OQ (w : World) (lo : Nat) (v : Value) (Zs : List PV) : Prop := w.ownsRow lo 24 1 v Zs.length (Zs.map PV.v)
def DivR (w : World) (o : Int) (ds : List Dv) (Inv : DS → Prop) (e : Ending) (w' : World) : Prop :=
 (∃ (v : Value) (zs : List PV) (r : PV) (s : DS), e = .returned (.tuple #[v, r.v, .int .i64 0]) ∧ OQ w' w.heap.size v zs ∧ zs.length = s.os.length ∧ (∀ (i : Nat) (z : PV) (q : List Tm), zs[i]? = some z → s.os[i]? = some q → DP w' w.heap.size z q) ∧ DP w' w.heap.size r s.r ∧ Inv s ∧ s.p = [] ∧ Below w.heap.size w w') ∨
 ∃ (s : DS) (t : Tm) (i : Nat) (d : Dv), e = .returned (.tuple #[.slice none 0 0, .slice none 0 0, .int .i64 3]) ∧ Inv s ∧ Lead (keyO o) s.p t ∧ Takes ds t.1 i d ∧ Ovf d.2 [byT t d.1] ∧ Below w.heap.size w w'
theorem infoPq : (Tryz.prog.info? 24).map (fun i => (i.zero, i.size, i.bytes)) = some (some (.slice none 0 0), 1, 24) := by kernel_rfl
theorem OQ.own {w : World} {lo : Nat} {v : Value} {Zs : List PV} (h : OQ w lo v Zs) {k : Nat} (hk : some k = v.ownBlock) : lo ≤ k ∧ ∃ cur, w.heap[k]? = some (.cells cur 24 (0, 0)) := by
 rcases h.2 with ⟨hv, _⟩ | ⟨g, cap, cur, hv, hlo, hg, _⟩
 ·rw [hv] at hk; cases hk
 ·rw [hv] at hk
  have hk : some k = some g := hk
  cases hk
  exact ⟨hlo, cur, hg⟩
theorem OQ.other {w w' : World} {lo : Nat} {v : Value} {Zs : List PV} (h : OQ w lo v Zs) (hg : w.grownBy w' v.ownBlock) : ∀ (b : Nat) (c : Array Value) (T : TypeId), w.heap[b]? = some (.cells c T (0, 0)) → (rowT T || T == 75 || T == 71) = true → w'.heap[b]? = w.heap[b]? := fun b c T hb hT =>
 hg.block b (lt_of_block hb) fun e => by
  obtain ⟨_, c2, h5⟩ := h.own e
  rw [hb] at h5
  have : T = 24 := by injection h5 with h5; injection h5
  subst this
  exact absurd hT (by decide)
theorem DVS.kept {w0 w w' : World} {lo : Nat} {v : Value} {es : List DvE} (h : DVS w0 w lo v es) (hk : ∀ (b : Nat) (c : Array Value) (T : TypeId), w.heap[b]? = some (.cells c T (0, 0)) → (rowT T || T == 75 || T == 71) = true → w'.heap[b]? = w.heap[b]?) : DVS w0 w' lo v es := by
 refine ⟨⟨h.row.1, h.row.2.imp id ?_⟩, fun e he => (h.ok e he).kept fun b c T hg hT => hk b c T hg (by rw [hT]; rfl), h.ap⟩
 rintro ⟨g, cap, cur, hv, hlo, hg, h3⟩
 exact ⟨g, cap, cur, hv, hlo, (hk g cur _ hg rfl).trans hg, h3⟩
theorem single_dp {V : World} {lo : Nat} {y : FV} {m : Mo} {q : Rat} (h : DF V lo y q) (hlo : lo ≤ V.heap.size) (hm : m.Small) (h0 : q ≠ 0) : DP (V.alloc (.cells (TV.cells ⟨y, m⟩).toArray 41)) lo ⟨some ⟨V.heap.size, 0, none⟩, 1, 1⟩ [(m, q)] := by
 have hal : Below V.heap.size V (V.alloc (.cells (TV.cells ⟨y, m⟩).toArray 41)) := (Below.refl _ _).alloc (Nat.le_refl _) _
 refine ⟨⟨[(⟨y, m⟩, q)], ?_, fun e he => ?_, List.pairwise_singleton _ _, rfl⟩, canon_single h0, fun t ht => ?_⟩
 ·show World.ownsRow _ _ _ _ _ _ _
  exact World.ownsRow_lit (base := lo) (e := 41) (size := 8) V (TV.cells ⟨y, m⟩).toArray 1 hlo (by decide) rfl
 ·rw [List.mem_singleton.1 he]
  exact h.below hal
 ·rw [List.mem_singleton.1 ht]
  exact hm
theorem off_pb {D : List Tm} {u : Tm} {kd ku nd : Nat} (hD : Canon D) (hu : u.2 ≠ 0) (h1 : ∀ t ∈ D, LQ t.2 kd) (hl : D.length ≤ nd) (h2 : LQ u.2 ku) (hs : ∀ t ∈ mulP D [u], t.1.Small) : PB (mulP D [u]) nd (kd + ku + 1) 65535 := by
 have hb1 : PB [u] 1 ku 65535 ∨ True := Or.inr trivial
 refine ⟨?_, fun t ht => ?_, fun t ht => hs t ht⟩
 ·unfold mulP
  refine Nat.le_trans (nf_length _) ?_
  rw [mulL_length, List.length_singleton, Nat.mul_one]
  exact hl
 ·have hc := (mulP_canon D [u]).cf_mem ht
  obtain ⟨s, hs', e⟩ := mulP_mo ht
  rw [cf_mulP1 D u e, hD.cf_mem hs'] at hc
  rw [← hc]
  exact ((h1 s hs').ls.mul h2.ls).lq (by omega) (by omega)
set_option maxRecDepth 100000 in
set_option maxHeartbeats 16000000 in
theorem divide_k (o : Int) (p : PV) (P : List Tm) (a : Option Addr) (c : Nat) (qs : List (PV × List Tm)) (ds : List Dv) (Inv : DS → Prop) (μ : DS → Nat) (k kd nd n : Nat) (w : World) (ho : o ≤ 2) (hp : KP w p P) (hr : RS w a (qs.map Prod.fst)) (hq : ∀ q ∈ qs, KP w q.1 q.2)
  (hds : ds.map Prod.snd = qs.map Prod.snd) (hP : DivP o ds Inv μ k kd nd n) (h0 : Inv ⟨P, [], List.replicate ds.length []⟩) (hn : qs.length ≤ 1000) :
  Calls Tryz.prog 10 #[.int .u8 o, p.v, .slice a qs.length c] w (DivR w o ds Inv) := by
 have hk := hP.hk; have hkk := hP.hkk; have hn4 := hP.hn; have hnd := hP.hnd
 have hdq : ∀ q ∈ qs, (∀ t ∈ q.2, LQ t.2 kd) ∧ q.2.length ≤ nd ∧ q.2 ≠ [] := fun q hqm => by
  have h1 : q.2 ∈ ds.map Prod.snd := by rw [hds]; exact List.mem_map_of_mem hqm
  obtain ⟨d, hd, e⟩ := List.mem_map.1 h1
  obtain ⟨g1, g2, g3⟩ := hP.dl d hd
  rw [← e]
  exact ⟨g1, g2, fun e => by have := g3.1; rw [e] at this; cases this⟩
 have hlen := hP.len _ h0
 have hlq := hP.lq _ h0
 have HP0 := Lib.hid hp
 have CK := Lib.hid (check_k hp (fun t ht => (hlq.1 t ht).up (by omega)) (by rw [hp.len]; have := hlen.1; show P.length ≤ _; change P.length ≤ n at this; omega))
 have CN := Lib.hid (fun (w1 : World) (hb : Below w.heap.size w w1) => con_l a c (qs.map Prod.fst) qs.length w1 (hr.below hb) (by rw [List.length_map]; exact hn) (by rw [List.length_map]; exact Nat.le_refl _)
  (fun i x hi hx w2 hb2 => by
   rw [List.getElem?_map] at hx
   obtain ⟨q, hq1, rfl⟩ := Option.map_eq_some_iff.1 hx
   have hm := List.mem_of_getElem? hq1
   obtain ⟨g1, g2, _⟩ := hdq q hm
   have hkq := ((hq q hm).below hb).below hb2
   exact check_k hkq (fun t ht => (g1 t ht).up (by omega)) (by rw [hkq.len]; omega))
  (fun x hx => by
   have := (List.getElem?_eq_some_iff.1 hx).1
   rw [List.length_map] at this
   omega))
 have DS0 := Lib.hid (fun (w1 : World) (hb : Below w.heap.size w w1) => divisors_ok o a c qs w1 (hr.below hb) hn fun q hm => by
  obtain ⟨g1, g2, g3⟩ := hdq q hm
  have hkq := (hq q hm).below hb
  exact ⟨hkq, fun t ht => (g1 t ht).up (by omega), by rw [hkq.len]; omega, g3⟩)
 have HDP := Lib.hid hP; have HDS := Lib.hid hds; have HI0 := Lib.hid h0; have HQ := Lib.hid hq; have HNQ := Lib.hid hn
 have HK := Lib.hid hk; have HKK := Lib.hid hkk; have HN4 := Lib.hid hn4; have HND := Lib.hid hnd
 have hog : ¬ (2 < o) := by omega
 obtain ⟨nq, hnq⟩ : ∃ m, m = qs.length := ⟨_, rfl⟩
 have HNL := Lib.hid hnq
 rw [← hnq]
 simp only [List.length_map, ← hnq] at CN DS0
 obtain ⟨pa, pn, pc⟩ := p
 change Calls Tryz.prog 10 #[.int .u8 o, .slice pa pn pc, .slice a nq c] w _
 clear hk hkk hn4 hnd hdq hlen hlq hp hr hq hds hP h0 hn hnq ho
 go_enter Tryz.func10, Tryz.ntmps10
 go_wp2_with fail
 go_step3
 go_wp2_with fail
 with_reducible refine CK.out.mono ?_
 rintro e w1 ⟨rfl, hb⟩
 have KG := Lib.hid hb
 have C1 := Lib.hid (CN.out w1 hb)
 clear hb CK CN
 go_wp2_with fail
 with_reducible refine C1.out.mono ?_
 rintro e w2 ⟨rfl, hb⟩
 have KG := Lib.hid (KG.out.trans (hb.mono KG.out.size))
 have hnn : ¬ (nq < nq) := Nat.lt_irrefl _
 have D1 := Lib.hid (DS0.out w2 KG.out)
 clear hb C1 DS0
 go_wp2_with fail
 with_reducible refine D1.out.mono ?_
 rintro e w3 ⟨va, es0, rfl, hdv, hqm, hle, hb⟩
 have KG0 := Lib.hid KG.out
 have KG := Lib.hid (KG.out.trans (hb.mono KG.out.size))
 have hdv' : DVS w w3 w.heap.size va es0 := ⟨OD.mono hdv.row KG0.out.size, fun e he => by
  have h1 := hdv.ok e he
  have hm : (e.1.x, e.2.1.2) ∈ qs := by rw [← hqm]; exact List.mem_map_of_mem he
  exact ⟨Nat.le_trans KG0.out.size h1.ge, h1.bx, h1.le.mono KG0.out.size, HQ.out _ hm, h1.of.mono KG0.out.size⟩, hdv.ap⟩
 have hde : es0.map (fun e => e.2.1) = ds := by
  refine ds_eq ?_ (fun d hd => ?_) (fun d hd => (HDP.out.dl d hd).2.2) fun d hd => ?_
  ·rw [HDS.out, ← hqm, List.map_map, List.map_map]
   rfl
  ·obtain ⟨e, he, rfl⟩ := List.mem_map.1 hd
   exact (hle e he).1
  ·obtain ⟨e, he, rfl⟩ := List.mem_map.1 hd
   exact ⟨(hdv.ok e he).all.canon, (hdv.ok e he).all.small⟩
 have hoe : es0.map (fun e => e.2.2) = List.replicate ds.length [] := by
  rw [← hde, List.length_map]
  refine List.eq_replicate_iff.2 ⟨List.length_map .., fun x hx => ?_⟩
  obtain ⟨e, he, rfl⟩ := List.mem_map.1 hx
  exact (hle e he).2
 have hel : es0.length = nq := by rw [← List.length_map (f := fun e : DvE => (e.1.x, e.2.1.2)), hqm, HNL.out]
 have HDV := Lib.hid hdv'; have HDE := Lib.hid hde; have HOE := Lib.hid hoe
 obtain ⟨aa, ca, hva, _⟩ := hdv'.row.slice
 rw [List.length_map, hel] at hva
 subst hva
 have HDL := Lib.hid (show ds.length = nq by rw [← hde, List.length_map, hel])
 have HKG3 := Lib.hid KG.out
 clear hdv hdv' hqm hle hb D1 hde hoe hel hnn
 go_wp2_with fail
 go_step3
 go_wp2_with fail
 go_loopw [1, 6, 7] (fun pv qv rv wr => qv = .slice none 0 0 ∧ ∃ s, DivI w (.slice aa nq ca) ds Inv pv rv wr s) (fun pv _ rv wr => leastM (DivI w (.slice aa nq ca) ds Inv pv rv wr) μ)
 case atStart => exact ⟨rfl, ⟨P, [], List.replicate ds.length []⟩, ⟨⟨⟨pa, pn, pc⟩, ⟨none, 0, 0⟩, es0, rfl, rfl, Or.inl HP0.out, DP.void _ _, HDV.out, HDE.out, HOE.out⟩, HI0.out, KG.out⟩⟩
 case round =>
  clear HDV HDE HOE HP0 KG KG0 HKG3
  obtain ⟨rfl, hrel⟩ := hrel
  obtain ⟨s, hs, hmu⟩ := least_at (μ := μ) hrel
  clear hrel
  obtain ⟨⟨p, r, es, rfl, rfl, hpp, hr, hdv, hde, hos⟩, hinv, hb0⟩ := hs
  have HMU := Lib.hid hmu; have HPP := Lib.hid hpp; have HR := Lib.hid hr; have HDV := Lib.hid hdv; have HDE := Lib.hid hde; have HOS := Lib.hid hos; have HIN := Lib.hid hinv; have KG := Lib.hid hb0
  have hlq := HDP.out.lq s hinv
  have hln := HDP.out.len s hinv
  have HLQ := Lib.hid hlq; have HLN := Lib.hid hln
  have hpl := (hpp.k hb0).len
  obtain ⟨pa, pn, pc⟩ := p
  obtain ⟨ra, rn, rc⟩ := r
  have HPL := Lib.hid (show pn = s.p.length from hpl)
  have HEL := Lib.hid (show es.length = nq by rw [← HDL.out, ← HDE.out, List.length_map])
  have HOC := Lib.hid (show ∀ q ∈ s.os, Canon q from fun q hq => by
   rw [← hos] at hq
   obtain ⟨e, he, rfl⟩ := List.mem_map.1 hq
   exact (hdv.ok e he).of.canon)
  clear hmu hpp hr hdv hde hos hinv hb0 hlq hln hpl
  by_cases hz : s.p = []
  ·have HZ := Lib.hid hz
   have hp0 : ¬ ((pn : Int) > 0) := by have h := HPL.out; rw [hz] at h; change pn = 0 at h; omega
   have hp0' : ¬ ((0 : Int) < (pn : Int)) := hp0
   obtain ⟨i1, hi, hz0, hz1, hz2⟩ := info_parts infoPq
   clear hz
   go_wp2_with fail
   go_loopw [6, 98] (fun vq i wq => ∃ (j : Nat) (row : List PV), j ≤ nq ∧ i = .int .i64 j ∧ row = (es.map fun e => e.1.z).take j ∧ OQ wq w.heap.size vq row ∧ DVS w wq w.heap.size (.slice aa nq ca) es ∧ DP wq w.heap.size ⟨ra, rn, rc⟩ s.r ∧ Below w.heap.size w wq) (fun _ i _ => nq - (intOf i).toNat)
   case atStart => exact ⟨0, [], Nat.zero_le _, rfl, rfl, World.ownsRow_nil _ _ _ _, HDV.out, HR.out, KG.out⟩
   case round =>
    clear KG HDV HR
    obtain ⟨j, row, hj, rfl, hre, hrow, hdv, hr, hb0⟩ := hrel
    have HRE := Lib.hid hre
    have HRL := Lib.hid (show row.length = j by rw [hre, List.length_take, List.length_map, HEL.out]; omega)
    clear hre
    have HJ := Lib.hid hj; have HRW := Lib.hid hrow; have HDV := Lib.hid hdv; have HR := Lib.hid hr; have KG := Lib.hid hb0
    clear hj hrow hdv hr hb0
    by_cases hjn : j < nq
    ·have HJN := Lib.hid hjn
     obtain ⟨e, he⟩ : ∃ e, es[j]? = some e := ⟨_, List.getElem?_eq_getElem (by rw [HEL.out]; exact hjn)⟩
     obtain ⟨a2, c2, h2, hcell⟩ := HDV.out.row.slice
     obtain ⟨g, hg, hc⟩ := hcell j e.1.b (by rw [List.getElem?_map, he]; rfl)
     obtain rfl : aa = a2 := by injection h2
     subst hg
     have HOK := Lib.hid (HDV.out.ok e (List.mem_of_getElem? he))
     have HE := Lib.hid he
     obtain ⟨⟨b, yy, ⟨xa, xn, xc⟩, ⟨za, zn, zc⟩⟩, ⟨⟨⟨dm, dq⟩, D⟩, O⟩⟩ := e
     have hlt : (j : Int) < (nq : Int) := by omega
     have ek : IntKind.i64.wrap ((j : Int) + 1) = (j : Int) + 1 := IntWalk.i64_in _ (by have := HNQ.out; have := HNL.out; omega)
     have hc9 : wr.cell? ⟨b, 9, none⟩ = some (.slice za zn zc) := HOK.out.bx.cell (i := 9) rfl
     have hbl : b < wr.heap.size := HOK.out.bx.lt
     have hbf := HOK.out.bx.fz
     change wr.cell? ⟨g, j, none⟩ = some (.pointer (some ⟨b, 0, none⟩)) at hc
     clear he h2 hcell hjn
     go_wp2_with (first | (at_builtin; refine wpList_append_own _ rfl _ _ 25 rfl w.heap.size 24 i1 _ 1 24 Tryz.underlying25 hi hz0 hz1 hz2 rfl (by decide) _ _ _ rfl (HRW.out.alloc _) ⟨wr.heap.size, 0, none⟩ 1 1 [.slice za zn zc] rfl rfl (fun j u hj => by match j, hj with | 0, hj => simp at hj; subst hj; simp [Addr.add]) (fun u hu => by rw [List.mem_singleton.1 hu]; rfl) (by rw [HRL.out]; have := HJN.out; have := HNL.out; have := HNQ.out; unfold maxLen; omega) (by rw [HRL.out]; have := HJN.out; have := HNL.out; have := HNQ.out; omega) (by have := KG.out.size; simp; omega) ?_))
     intro v' w5 hown hgrow _
     have hal : Below wr.heap.size wr (wr.alloc (.cells #[.slice za zn zc] 24)) := (Below.refl _ _).alloc (Nat.le_refl _) _
     have HRA : OQ (wr.alloc (.cells #[.slice za zn zc] 24)) w.heap.size _ row := HRW.out.alloc _
     have hoth := HRA.other hgrow
     have HRW5 := Lib.hid (show OQ w5 w.heap.size v' (row ++ [⟨za, zn, zc⟩]) by
      show w5.ownsRow _ _ _ _ _ _
      rw [List.length_append, List.map_append]
      exact hown)
     have HRE5 := Lib.hid (show row ++ [⟨za, zn, zc⟩] = (es.map fun e => e.1.z).take (j + 1) by
      rw [List.take_add_one, List.getElem?_map, HE.out, HRE.out]
      rfl)
     have HDV5 := Lib.hid ((HDV.out.below hal).kept hoth)
     have HR5 := Lib.hid ((HR.out.below hal).rows fun b c T h1 h2 => hoth b c T h1 (by rw [h2]; rfl))
     have KG5 := Lib.hid (show Below w.heap.size w w5 from (KG.out.alloc KG.out.size _).grown hgrow (by have := KG.out.size; simp; omega) fun k hk => (HRW.out.own hk.symm).1)
     clear hown hgrow hal HRA hoth
     go_wp2_with fail
     go_roundw
     case rel => exact ⟨j + 1, _, by have := HJN.out; omega, rfl, HRE5.out, HRW5.out, HDV5.out, HR5.out, KG5.out⟩
     case measure => simp [intOf]; have := HJN.out; omega
    ·have hge : ¬ ((j : Int) < (nq : Int)) := by omega
     have HRW := Lib.hid (show OQ wr w.heap.size _ (es.map fun e => e.1.z) by
      have h := HRW.out
      rw [HRE.out] at h
      rwa [List.take_of_length_le (by rw [List.length_map, HEL.out]; omega)] at h)
     clear hjn
     go_wp2_with fail
     try rw [Exit.noGoto_ret]
     go_ret3
     refine Or.inl ⟨_, _, ⟨ra, rn, rc⟩, s, rfl, HRW.out, ?_, fun i z q h1 h2 => ?_, HR.out, HIN.out, HZ.out, KG.out⟩
     ·rw [← HOS.out, List.length_map, List.length_map]
     ·rw [← HOS.out, List.getElem?_map] at h2
      rw [List.getElem?_map] at h1
      obtain ⟨e, he, rfl⟩ := Option.map_eq_some_iff.1 h1
      rw [he] at h2
      obtain rfl : e.2.2 = q := Option.some.inj h2
      exact (HDV.out.ok e (List.mem_of_getElem? he)).of
  ·have hpos : (pn : Int) > 0 := by have h := HPL.out; have := List.length_pos_iff.2 hz; omega
   have hpos' : (0 : Int) < (pn : Int) := hpos
   have LD := Lib.hid (lead_k o ⟨pa, pn, pc⟩ s.p wr (HPP.out.k KG.out).any (fun t ht => (HLQ.out.1 t ht).up (by have := HK.out; omega)) (by have := HPL.out; have := HLN.out.1; have := HN4.out; show pn ≤ _; omega) hz)
   clear hz
   go_wp2_with fail
   with_reducible refine LD.out.mono ?_
   rintro e w4 ⟨yy, ⟨tm, tq⟩, rfl, hy, hld, hb⟩
   have HLD := Lib.hid hld
   have HY := Lib.hid (hy.mono KG.out.size)
   have HPP := Lib.hid (HPP.out.below hb); have HR := Lib.hid (HR.out.below hb); have HDV := Lib.hid (HDV.out.below hb)
   have KG := Lib.hid (KG.out.trans (hb.mono KG.out.size))
   have HTS := Lib.hid (show tm.Small from HPP.out.small _ hld.1)
   have HTZ := Lib.hid (show tq ≠ 0 from HPP.out.canon.non _ hld.1)
   have HTQ := Lib.hid (show LQ tq k from HLQ.out.1 _ hld.1)
   clear hy hld hb LD
   go_upto_region 8 with (fail)
   obtain ⟨V, hV⟩ : ∃ V, V = w4.alloc (.cells #[.bool yy.t.s, .slice yy.t.a yy.t.n yy.t.c, .bool yy.l.s, .slice yy.l.a yy.l.n yy.l.c, .int .u16 tm.x, .int .u16 tm.y, .int .u16 tm.z, .int .u16 tm.t] 41) := ⟨_, rfl⟩
   have hbV : Below w4.heap.size w4 V := by rw [hV]; exact (Below.refl _ _).alloc (Nat.le_refl _) _
   have B10 := Lib.hid (show Bxs V w4.heap.size 41 [.bool yy.t.s, .slice yy.t.a yy.t.n yy.t.c, .bool yy.l.s, .slice yy.l.a yy.l.n yy.l.c, .int .u16 tm.x, .int .u16 tm.y, .int .u16 tm.z, .int .u16 tm.t] by rw [hV]; exact Bxs.new w4 41 [.bool yy.t.s, .slice yy.t.a yy.t.n yy.t.c, .bool yy.l.s, .slice yy.l.a yy.l.n yy.l.c, .int .u16 tm.x, .int .u16 tm.y, .int .u16 tm.z, .int .u16 tm.t])
   obtain ⟨A10, hA10⟩ : ∃ A, A = w4.heap.size := ⟨_, rfl⟩
   rw [← hV, ← hA10]
   rw [← hA10] at B10
   have HPP := Lib.hid (HPP.out.below hbV); have HR := Lib.hid (HR.out.below hbV); have HDV := Lib.hid (HDV.out.below hbV); have HY := Lib.hid (HY.out.below hbV)
   have KG := Lib.hid (KG.out.trans (hbV.mono KG.out.size))
   clear hV hbV hA10
   go_wp2_with fail
   go_loopw [1, 6, 7, 51] (fun pv qv rv i wi => pv = .slice pa pn pc ∧ qv = .slice none 0 0 ∧ rv = .slice ra rn rc ∧ ∃ j : Nat, j ≤ nq ∧ i = .int .i64 j ∧ PP w wi w.heap.size ⟨pa, pn, pc⟩ s.p ∧ DP wi w.heap.size ⟨ra, rn, rc⟩ s.r ∧ DVS w wi w.heap.size (.slice aa nq ca) es ∧ Bxs wi A10 41 [.bool yy.t.s, .slice yy.t.a yy.t.n yy.t.c, .bool yy.l.s, .slice yy.l.a yy.l.n yy.l.c, .int .u16 tm.x, .int .u16 tm.y, .int .u16 tm.z, .int .u16 tm.t] ∧ DF wi w.heap.size yy tq ∧ (∀ (i : Nat) (d : Dv), i < j → ds[i]? = some d → ¬ d.1.1.stands tm) ∧ Below w.heap.size w wi) (fun _ _ _ i _ => nq - (intOf i).toNat)
   case atStart => exact ⟨rfl, rfl, rfl, 0, Nat.zero_le _, rfl, HPP.out, HR.out, HDV.out, B10.out, HY.out, fun i d h => absurd h (Nat.not_lt_zero _), KG.out⟩
   case round =>
    clear HPP HR HDV B10 HY KG
    obtain ⟨rfl, rfl, rfl, j, hj, rfl, hpp, hr, hdv, hb10, hy, hno, hb0⟩ := hrel
    have HJ := Lib.hid hj; have HPP := Lib.hid hpp; have HR := Lib.hid hr; have HDV := Lib.hid hdv; have B10 := Lib.hid hb10; have HY := Lib.hid hy; have HNO := Lib.hid hno; have KG := Lib.hid hb0
    clear hj hpp hr hdv hb10 hy hno hb0
    by_cases hjn : j < nq
    ·have HJN := Lib.hid hjn
     obtain ⟨e, he⟩ : ∃ e, es[j]? = some e := ⟨_, List.getElem?_eq_getElem (by rw [HEL.out]; exact hjn)⟩
     obtain ⟨a2, c2, h2, hcell⟩ := HDV.out.row.slice
     obtain ⟨g, hg, hc⟩ := hcell j e.1.b (by rw [List.getElem?_map, he]; rfl)
     obtain rfl : aa = a2 := by injection h2
     subst hg
     have HOK := Lib.hid (HDV.out.ok e (List.mem_of_getElem? he))
     have HE := Lib.hid he
     obtain ⟨⟨b, dy, ⟨xa, xn, xc⟩, ⟨za, zn, zc⟩⟩, ⟨⟨⟨dm, dq⟩, D⟩, O⟩⟩ := e
     have HDJ := Lib.hid (show ds[j]? = some ((dm, dq), D) by rw [← HDE.out, List.getElem?_map, HE.out]; rfl)
     have HOJ := Lib.hid (show s.os[j]? = some O by rw [← HOS.out, List.getElem?_map, HE.out]; rfl)
     obtain ⟨g1, g2, g3⟩ := HDP.out.dl _ (List.mem_of_getElem? HDJ.out)
     have HD1 := Lib.hid (show ∀ t ∈ D, LQ t.2 kd from g1); have HD2 := Lib.hid (show D.length ≤ nd from g2); have HD3 := Lib.hid (show Lead (keyO o) D (dm, dq) from g3)
     have HXK := Lib.hid (show KP w ⟨xa, xn, xc⟩ D from HOK.out.all)
     have HDZ := Lib.hid (show dq ≠ 0 from HXK.out.canon.non _ g3.1)
     have HDS1 := Lib.hid (show dm.Small from HXK.out.small _ g3.1)
     have HDQ := Lib.hid (show LQ dq kd from g1 _ g3.1)
     have hlt : (j : Int) < (nq : Int) := by omega
     have ek : IntKind.i64.wrap ((j : Int) + 1) = (j : Int) + 1 := IntWalk.i64_in _ (by have := HNQ.out; have := HNL.out; omega)
     have HEK := Lib.hid ek
     change wr.cell? ⟨g, j, none⟩ = some (.pointer (some ⟨b, 0, none⟩)) at hc
     clear he h2 hcell hjn g1 g2 g3
     by_cases hst : dm.stands tm
     ·have HST := Lib.hid hst
      have IN := Lib.hid (into_y b dy dq dm ⟨xa, xn, xc⟩ ⟨za, zn, zc⟩ yy tq tm wr HOK.out.bx HTS.out HDS1.out hst HOK.out.le.k HY.out.k (HDQ.out.up (by have := HK.out; omega)) (HTQ.out.up (by have := HK.out; omega)) HDZ.out HTZ.out)
      clear hst
      have d00 := B10.out.cell (i := 0) rfl
      have d01 := B10.out.cell (i := 1) rfl
      have d02 := B10.out.cell (i := 2) rfl
      have d03 := B10.out.cell (i := 3) rfl
      have d04 := B10.out.cell (i := 4) rfl
      have d05 := B10.out.cell (i := 5) rfl
      have d06 := B10.out.cell (i := 6) rfl
      have d07 := B10.out.cell (i := 7) rfl
      have d0f := B10.out.fz
      have d0l := B10.out.lt
      go_wp2_with fail
      with_reducible refine IN.out.mono ?_
      rintro e w5 ⟨⟨ua, un, uc⟩, he, hu, hb⟩
      obtain rfl : e = .returned (.tuple #[.slice ua un uc, .bool true]) := he
      have HU := Lib.hid (hu.mono KG.out.size)
      have HPP := Lib.hid (HPP.out.below hb); have HR := Lib.hid (HR.out.below hb); have HDV := Lib.hid (HDV.out.below hb)
      have KG := Lib.hid (KG.out.trans (hb.mono KG.out.size))
      clear hu hb IN hc d00 d01 d02 d03 d04 d05 d06 d07 d0f d0l
      have HOK := Lib.hid (HDV.out.ok _ (List.mem_of_getElem? HE.out))
      have hlqu : LQ (byT (tm, tq) (dm, dq)).2 (k + kd) := lq_by HDZ.out HTQ.out HDQ.out
      have HLU := Lib.hid hlqu
      have HUZ := Lib.hid (show (byT (tm, tq) (dm, dq)).2 ≠ 0 from byT_ne HTZ.out HDZ.out)
      have MU := Lib.hid (mul_oB ⟨xa, xn, xc⟩ ⟨ua, un, uc⟩ D [byT (tm, tq) (dm, dq)] kd (k + kd) w5 (HXK.out.below KG.out) HU.out.k HD1.out (fun t ht => by rw [List.mem_singleton.1 ht]; exact HLU.out)
       (by rw [List.length_singleton]; have := HK.out; omega) (by rw [List.length_singleton, Nat.mul_one]; have := HD2.out; have := HND.out; omega) (by have := HD2.out; have := HND.out; omega) (by rw [List.length_singleton]; decide))
      have c8 : w5.cell? ⟨b, 8, none⟩ = some (.slice xa xn xc) := HOK.out.bx.cell (i := 8) rfl
      have cf := HOK.out.bx.fz
      have cl := HOK.out.bx.lt
      clear hlqu
      go_wp2_with fail
      with_reducible refine MU.out.mono ?_
      rintro e w6 (⟨⟨oa, on, oc⟩, he, hnov, hoff, hb⟩ | ⟨rfl, hov, hb⟩)
      ·obtain rfl : e = .returned (.tuple #[.slice oa on oc, .int .i64 0]) := he
       have HOF := Lib.hid (hoff.mono KG.out.size)
       have HPP := Lib.hid (HPP.out.below hb); have HR := Lib.hid (HR.out.below hb); have HDV := Lib.hid (HDV.out.below hb); have HU := Lib.hid (HU.out.below hb)
       have KG := Lib.hid (KG.out.trans (hb.mono KG.out.size))
       clear hnov hoff hb MU c8 cf cl
       have HOK := Lib.hid (HDV.out.ok _ (List.mem_of_getElem? HE.out))
       have HOL := Lib.hid (show (∀ t ∈ O, LQ t.2 k) ∧ O.length ≤ n from ⟨HLQ.out.2.2 O (List.mem_of_getElem? HOJ.out), HLN.out.2.2 O (List.mem_of_getElem? HOJ.out)⟩)
       have AD := Lib.hid (add_any ⟨za, zn, zc⟩ ⟨ua, un, uc⟩ O [byT (tm, tq) (dm, dq)] (k + kd) w6 HOK.out.of.k.any HU.out.k.any (show zn ≤ 1000000 by have h : zn = O.length := HOK.out.of.k.len; have := HOL.out.2; have := HN4.out; omega) (show un ≤ 1000000 by have h : un = 1 := HU.out.k.len; omega) (fun t ht => (HOL.out.1 t ht).up (by omega)) (fun t ht => by rw [List.mem_singleton.1 ht]; exact HLU.out)
        (by have := HK.out; omega) (by rw [List.length_singleton]; have := HOL.out.2; have := HN4.out; omega))
       have c9 : w6.cell? ⟨b, 9, none⟩ = some (.slice za zn zc) := HOK.out.bx.cell (i := 9) rfl
       have cf := HOK.out.bx.fz
       have cl := HOK.out.bx.lt
       go_wp2_with fail
       with_reducible refine AD.out.mono ?_
       rintro e w7 ⟨⟨qa, qn, qc⟩, he, hq, hb⟩
       obtain rfl : e = .returned (.slice qa qn qc) := he
       have HQQ := Lib.hid (hq.mono KG.out.size)
       have HPP := Lib.hid (HPP.out.below hb); have HR := Lib.hid (HR.out.below hb); have HDV := Lib.hid (HDV.out.below hb); have HOF := Lib.hid (HOF.out.below hb)
       have KG := Lib.hid (KG.out.trans (hb.mono KG.out.size))
       clear hq hb AD c9 cf cl
       have HOK := Lib.hid (HDV.out.ok _ (List.mem_of_getElem? HE.out))
       have c9 : w7.cell? ⟨b, 9, none⟩ = some (.slice za zn zc) := HOK.out.bx.cell (i := 9) rfl
       have cf := HOK.out.bx.fz
       have cl := HOK.out.bx.lt
       go_upto_region 17 with (fail)
       clear c9 cf cl
       obtain ⟨U, hU⟩ : ∃ U, U = w7.setCell ⟨b, 9, none⟩ (.slice qa qn qc) := ⟨_, rfl⟩
       have hrows := set_rows HOK.out.bx 9 (.slice qa qn qc)
       have HPP := Lib.hid (show PP w U w.heap.size ⟨pa, pn, pc⟩ s.p by rw [hU]; exact HPP.out.rows hrows)
       have HR := Lib.hid (show DP U w.heap.size ⟨ra, rn, rc⟩ s.r by rw [hU]; exact HR.out.rows hrows)
       have HOF := Lib.hid (show DP U w.heap.size ⟨oa, on, oc⟩ (mulP D [byT (tm, tq) (dm, dq)]) by rw [hU]; exact HOF.out.rows hrows)
       have HDV := Lib.hid (show DVS w U w.heap.size (.slice (some ⟨g, 0, none⟩) nq ca) (es.set j (⟨b, dy, ⟨xa, xn, xc⟩, ⟨qa, qn, qc⟩⟩, ((dm, dq), D), addP O [byT (tm, tq) (dm, dq)])) by rw [hU]; exact HDV.out.store HE.out HQQ.out)
       have KG := Lib.hid (show Below w.heap.size w U by rw [hU]; exact KG.out.setCell HOK.out.ge _)
       rw [← hU]
       clear hU hrows
       have hpb := off_pb (nd := nd) HXK.out.canon HUZ.out HD1.out HD2.out HLU.out HOF.out.small
       have SB := Lib.hid (psub_any ⟨pa, pn, pc⟩ ⟨oa, on, oc⟩ s.p (mulP D [byT (tm, tq) (dm, dq)]) (k + 2 * kd + 1) nd U (HPP.out.k KG.out).any HOF.out.k.any (by have := HPL.out; have := HLN.out.1; have := HN4.out; show pn ≤ _; omega) (show on ≤ 1000000 by have h : on = (mulP D [byT (tm, tq) (dm, dq)]).length := HOF.out.k.len; have := hpb.len; have := HND.out; omega)
        (fun t ht => (HLQ.out.1 t ht).up (by omega)) (hpb.up (Nat.le_refl _) (by omega) (Nat.le_refl _)) (Nat.le_trans HK.out (by decide)) HKK.out (by have := HLN.out.1; have := HN4.out; have := HND.out; omega))
       clear hpb
       go_wp2_with fail
       with_reducible refine SB.out.mono ?_
       rintro e w8 ⟨⟨na, nn, nc⟩, he, hnp, hb⟩
       obtain rfl : e = .returned (.slice na nn nc) := he
       have HNP := Lib.hid (hnp.mono KG.out.size)
       have HR := Lib.hid (HR.out.below hb); have HDV := Lib.hid (HDV.out.below hb)
       have KG := Lib.hid (KG.out.trans (hb.mono KG.out.size))
       clear hnp hb SB
       have HSI := Lib.hid (HDP.out.step s (hitS s (tm, tq) j ((dm, dq), D)) HIN.out HPP.out.canon HR.out.canon HOC.out HNP.out.small (Step.hit HLD.out ⟨HDJ.out, HST.out, HNO.out⟩))
       have HNEW := Lib.hid (show DivI w (.slice (some ⟨g, 0, none⟩) nq ca) ds Inv (.slice na nn nc) (.slice ra rn rc) w8 (hitS s (tm, tq) j ((dm, dq), D)) from
        ⟨⟨⟨na, nn, nc⟩, ⟨ra, rn, rc⟩, _, rfl, rfl, Or.inr HNP.out, HR.out, HDV.out, (by refine (map_set_same (fun e : DvE => e.2.1) HE.out ?_).trans HDE.out; rfl), (by refine (map_set_mod (fun e : DvE => e.2.2) (fun q => addP q [byT (tm, tq) (dm, dq)]) HE.out ?_).trans ?_; all_goals first | (rw [HOS.out]; rfl) | rfl)⟩, HSI.out.1, KG.out⟩)
       go_wp2_with fail
       go_roundw
       case rel => exact ⟨rfl, _, HNEW.out⟩
       case measure => exact Nat.lt_of_le_of_lt (least_le (μ := μ) HNEW.out) (HMU.out ▸ HSI.out.2)
      ·have KG := Lib.hid (KG.out.trans (hb.mono KG.out.size))
       have HOV := Lib.hid hov
       clear hov hb MU c8 cf cl
       go_wp2_with fail
       try rw [Exit.noGoto_ret]
       go_ret3
       exact Or.inr ⟨s, (tm, tq), j, ((dm, dq), D), rfl, HIN.out, HLD.out, ⟨HDJ.out, HST.out, HNO.out⟩, HOV.out, KG.out⟩
     ·have HST := Lib.hid hst
      have IN := Lib.hid (into_n b dy dq dm ⟨xa, xn, xc⟩ ⟨za, zn, zc⟩ yy tq tm wr HOK.out.bx HTS.out HDS1.out hst HOK.out.le.k HY.out.k (HDQ.out.up (by have := HK.out; omega)) (HTQ.out.up (by have := HK.out; omega)) HDZ.out)
      clear hst
      have d00 := B10.out.cell (i := 0) rfl
      have d01 := B10.out.cell (i := 1) rfl
      have d02 := B10.out.cell (i := 2) rfl
      have d03 := B10.out.cell (i := 3) rfl
      have d04 := B10.out.cell (i := 4) rfl
      have d05 := B10.out.cell (i := 5) rfl
      have d06 := B10.out.cell (i := 6) rfl
      have d07 := B10.out.cell (i := 7) rfl
      have d0f := B10.out.fz
      have d0l := B10.out.lt
      go_wp2_with fail
      with_reducible refine IN.out.mono ?_
      rintro e w5 ⟨rfl, hb⟩
      have HPP := Lib.hid (HPP.out.below hb); have HR := Lib.hid (HR.out.below hb); have HDV := Lib.hid (HDV.out.below hb); have B10 := Lib.hid (B10.out.below hb B10.out.lt); have HY := Lib.hid (HY.out.below hb)
      have KG := Lib.hid (KG.out.trans (hb.mono KG.out.size))
      clear hb IN hc d00 d01 d02 d03 d04 d05 d06 d07 d0f d0l
      go_wp2_with fail
      go_roundw
      case rel =>
       refine ⟨rfl, rfl, rfl, j + 1, by have := HJN.out; omega, rfl, HPP.out, HR.out, HDV.out, B10.out, HY.out, fun i d hi hd => ?_, KG.out⟩
       by_cases hij : i < j
       ·exact HNO.out i d hij hd
       ·obtain rfl : i = j := by omega
        rw [HDJ.out] at hd
        obtain rfl : ((dm, dq), D) = d := Option.some.inj hd
        exact HST.out
      case measure => simp [intOf]; have := HJN.out; omega
    ·have hge : ¬ ((j : Int) < (nq : Int)) := by omega
     have HNN := Lib.hid (show ∀ d ∈ ds, ¬ d.1.1.stands tm from fun d hd => by
      obtain ⟨i, hi⟩ := List.mem_iff_getElem?.1 hd
      exact HNO.out i d (by have h1 := (List.getElem?_eq_some_iff.1 hi).1; have := HDL.out; omega) hi)
     clear hjn
     obtain ⟨V1, hV1⟩ : ∃ V, V = wr.alloc (.cells #[.bool yy.t.s, .slice yy.t.a yy.t.n yy.t.c, .bool yy.l.s, .slice yy.l.a yy.l.n yy.l.c, .int .u16 tm.x, .int .u16 tm.y, .int .u16 tm.z, .int .u16 tm.t] 41) := ⟨_, rfl⟩
     have hb1 : Below wr.heap.size wr V1 := by rw [hV1]; exact (Below.refl _ _).alloc (Nat.le_refl _) _
     have HS1 := Lib.hid (show DP V1 w.heap.size ⟨some ⟨wr.heap.size, 0, none⟩, 1, 1⟩ [(tm, tq)] by rw [hV1]; exact single_dp HY.out KG.out.size HTS.out HTZ.out)
     have HR1 := Lib.hid (HR.out.below hb1)
     have AD := Lib.hid (add_any ⟨ra, rn, rc⟩ ⟨some ⟨wr.heap.size, 0, none⟩, 1, 1⟩ s.r [(tm, tq)] k V1 HR1.out.k.any HS1.out.k.any (show rn ≤ 1000000 by have h : rn = s.r.length := HR1.out.k.len; have := HLN.out.2.1; have := HN4.out; omega) (by show 1 ≤ 1000000; decide) HLQ.out.2.1 (fun t ht => by rw [List.mem_singleton.1 ht]; exact HTQ.out)
      (by have := HK.out; omega) (by rw [List.length_singleton]; have := HLN.out.2.1; have := HN4.out; omega))
     have HV1 := Lib.hid hV1
     have HPP := Lib.hid (HPP.out.below hb1); have HDV := Lib.hid (HDV.out.below hb1); have HY := Lib.hid (HY.out.below hb1)
     have HB1 := Lib.hid hb1
     clear hV1 hb1
     have d00 := B10.out.cell (i := 0) rfl
     have d01 := B10.out.cell (i := 1) rfl
     have d02 := B10.out.cell (i := 2) rfl
     have d03 := B10.out.cell (i := 3) rfl
     have d04 := B10.out.cell (i := 4) rfl
     have d05 := B10.out.cell (i := 5) rfl
     have d06 := B10.out.cell (i := 6) rfl
     have d07 := B10.out.cell (i := 7) rfl
     have d0f := B10.out.fz
     have d0l := B10.out.lt
     go_wp2_with fail
     rw [show wr.alloc (.cells #[.bool yy.t.s, .slice yy.t.a yy.t.n yy.t.c, .bool yy.l.s, .slice yy.l.a yy.l.n yy.l.c, .int .u16 tm.x, .int .u16 tm.y, .int .u16 tm.z, .int .u16 tm.t] 41) = V1 from HV1.out.symm]
     with_reducible refine AD.out.mono ?_
     rintro e w5 ⟨⟨qa, qn, qc⟩, he, hq, hb⟩
     obtain rfl : e = .returned (.slice qa qn qc) := he
     have B10 := Lib.hid ((B10.out.below HB1.out B10.out.lt).below hb (Nat.lt_of_lt_of_le B10.out.lt HB1.out.size))
     have KG := Lib.hid (KG.out.trans (HB1.out.mono KG.out.size))
     have HNR := Lib.hid (hq.mono KG.out.size)
     have HPP := Lib.hid (HPP.out.below hb); have HDV := Lib.hid (HDV.out.below hb); have HY := Lib.hid (HY.out.below hb)
     have KG := Lib.hid (KG.out.trans (hb.mono KG.out.size))
     clear hq hb AD d00 d01 d02 d03 d04 d05 d06 d07 d0f d0l
     obtain ⟨V2, hV2⟩ : ∃ V, V = w5.alloc (.cells #[.bool yy.t.s, .slice yy.t.a yy.t.n yy.t.c, .bool yy.l.s, .slice yy.l.a yy.l.n yy.l.c, .int .u16 tm.x, .int .u16 tm.y, .int .u16 tm.z, .int .u16 tm.t] 41) := ⟨_, rfl⟩
     have hb2 : Below w5.heap.size w5 V2 := by rw [hV2]; exact (Below.refl _ _).alloc (Nat.le_refl _) _
     have HS2 := Lib.hid (show DP V2 w.heap.size ⟨some ⟨w5.heap.size, 0, none⟩, 1, 1⟩ [(tm, tq)] by rw [hV2]; exact single_dp HY.out KG.out.size HTS.out HTZ.out)
     have KG2 := Lib.hid (KG.out.trans (hb2.mono KG.out.size))
     have HPP2 := Lib.hid (HPP.out.below hb2); have HDV2 := Lib.hid (HDV.out.below hb2); have HNR2 := Lib.hid (HNR.out.below hb2)
     have SB := Lib.hid (psub_any ⟨pa, pn, pc⟩ ⟨some ⟨w5.heap.size, 0, none⟩, 1, 1⟩ s.p [(tm, tq)] k 1 V2 (HPP2.out.k KG2.out).any HS2.out.k.any (by have := HPL.out; have := HLN.out.1; have := HN4.out; show pn ≤ _; omega) (by show 1 ≤ 1000000; decide)
      HLQ.out.1 ⟨Nat.le_refl _, fun t ht => by rw [List.mem_singleton.1 ht]; exact HTQ.out, fun t ht => by rw [List.mem_singleton.1 ht]; exact HTS.out⟩ (by have := HK.out; omega) (by have := HK.out; omega) (by have := HLN.out.1; have := HN4.out; omega))
     have HV2 := Lib.hid hV2
     clear hV2 hb2
     have d00 := B10.out.cell (i := 0) rfl
     have d01 := B10.out.cell (i := 1) rfl
     have d02 := B10.out.cell (i := 2) rfl
     have d03 := B10.out.cell (i := 3) rfl
     have d04 := B10.out.cell (i := 4) rfl
     have d05 := B10.out.cell (i := 5) rfl
     have d06 := B10.out.cell (i := 6) rfl
     have d07 := B10.out.cell (i := 7) rfl
     have d0f := B10.out.fz
     have d0l := B10.out.lt
     go_wp2_with fail
     rw [show w5.alloc (.cells #[.bool yy.t.s, .slice yy.t.a yy.t.n yy.t.c, .bool yy.l.s, .slice yy.l.a yy.l.n yy.l.c, .int .u16 tm.x, .int .u16 tm.y, .int .u16 tm.z, .int .u16 tm.t] 41) = V2 from HV2.out.symm]
     with_reducible refine SB.out.mono ?_
     rintro e w8 ⟨⟨na, nn, nc⟩, he, hnp, hb⟩
     obtain rfl : e = .returned (.slice na nn nc) := he
     have HNP := Lib.hid (hnp.mono KG2.out.size)
     have HNR := Lib.hid (HNR2.out.below hb); have HDV := Lib.hid (HDV2.out.below hb)
     have KG := Lib.hid (KG2.out.trans (hb.mono KG2.out.size))
     clear hnp hb SB d00 d01 d02 d03 d04 d05 d06 d07 d0f d0l
     have HSI := Lib.hid (HDP.out.step s (restS s (tm, tq)) HIN.out HPP.out.canon HR1.out.canon HOC.out HNP.out.small (Step.rest HLD.out HNN.out))
     go_wp2_with fail
     go_roundw
     case rel =>
      exact ⟨rfl, restS s (tm, tq), ⟨⟨⟨na, nn, nc⟩, ⟨qa, qn, qc⟩, es, rfl, rfl, Or.inr HNP.out, HNR.out, HDV.out, HDE.out, HOS.out⟩, HSI.out.1, KG.out⟩⟩
     case measure =>
      have h1 := least_le (μ := μ) (show DivI w (.slice aa nq ca) ds Inv _ _ _ (restS s (tm, tq)) from ⟨⟨⟨na, nn, nc⟩, ⟨qa, qn, qc⟩, es, rfl, rfl, Or.inr HNP.out, HNR.out, HDV.out, HDE.out, HOS.out⟩, HSI.out.1, KG.out⟩)
      have h2 := HMU.out
      have h3 := HSI.out.2
      exact Nat.lt_of_le_of_lt h1 (h2 ▸ h3)
def Mo.many (m : Mo) : Nat := m.x + m.y + m.z + m.t
set_option maxRecDepth 100000 in
set_option maxHeartbeats 4000000 in
theorem many_k (t : TV) (w : World) (hs : t.m.Small) : Calls Tryz.prog 57 #[TV.v t] w fun e w' => e = .returned (.int .i64 (t.m.many : Int)) ∧ Below w.heap.size w w' := by
 obtain ⟨s1, s2, s3, s4⟩ := hs
 obtain ⟨V, hV⟩ : ∃ V, V = w.alloc (.cells #[.bool t.c.t.s, .slice t.c.t.a t.c.t.n t.c.t.c, .bool t.c.l.s, .slice t.c.l.a t.c.l.n t.c.l.c, .int .u16 t.m.x, .int .u16 t.m.y, .int .u16 t.m.z, .int .u16 t.m.t] 41) := ⟨_, rfl⟩
 have hbV : Below w.heap.size w V := by rw [hV]; exact (Below.refl _ _).alloc (Nat.le_refl _) _
 have B1 := Lib.hid (show Bxs V w.heap.size 41 [.bool t.c.t.s, .slice t.c.t.a t.c.t.n t.c.t.c, .bool t.c.l.s, .slice t.c.l.a t.c.l.n t.c.l.c, .int .u16 t.m.x, .int .u16 t.m.y, .int .u16 t.m.z, .int .u16 t.m.t] by rw [hV]; exact Bxs.new w 41 [.bool t.c.t.s, .slice t.c.t.a t.c.t.n t.c.t.c, .bool t.c.l.s, .slice t.c.l.a t.c.l.n t.c.l.c, .int .u16 t.m.x, .int .u16 t.m.y, .int .u16 t.m.z, .int .u16 t.m.t])
 have KG := Lib.hid hbV
 have HV := Lib.hid hV
 have e1 : IntKind.i64.wrap ((t.m.x : Int) + (t.m.y : Int)) = (t.m.x : Int) + (t.m.y : Int) := IntWalk.i64_in _ (by omega)
 have e2 : IntKind.i64.wrap ((t.m.x : Int) + (t.m.y : Int) + (t.m.z : Int)) = (t.m.x : Int) + (t.m.y : Int) + (t.m.z : Int) := IntWalk.i64_in _ (by omega)
 have e3 : IntKind.i64.wrap ((t.m.x : Int) + (t.m.y : Int) + (t.m.z : Int) + (t.m.t : Int)) = (t.m.x : Int) + (t.m.y : Int) + (t.m.z : Int) + (t.m.t : Int) := IntWalk.i64_in _ (by omega)
 have f1 : IntKind.i64.wrap (t.m.x : Int) = (t.m.x : Int) := IntWalk.i64_in _ (by omega)
 have f2 : IntKind.i64.wrap (t.m.y : Int) = (t.m.y : Int) := IntWalk.i64_in _ (by omega)
 have f3 : IntKind.i64.wrap (t.m.z : Int) = (t.m.z : Int) := IntWalk.i64_in _ (by omega)
 have f4 : IntKind.i64.wrap (t.m.t : Int) = (t.m.t : Int) := IntWalk.i64_in _ (by omega)
 change Calls Tryz.prog 57 #[.agg #[.bool t.c.t.s, .slice t.c.t.a t.c.t.n t.c.t.c, .bool t.c.l.s, .slice t.c.l.a t.c.l.n t.c.l.c, .int .u16 t.m.x, .int .u16 t.m.y, .int .u16 t.m.z, .int .u16 t.m.t]] w _
 clear hV hbV s1 s2 s3 s4
 go_enter Tryz.func57, Tryz.ntmps57
 go_upto_region 1 with (fail)
 rw [show w.alloc (.cells #[.bool t.c.t.s, .slice t.c.t.a t.c.t.n t.c.t.c, .bool t.c.l.s, .slice t.c.l.a t.c.l.n t.c.l.c, .int .u16 t.m.x, .int .u16 t.m.y, .int .u16 t.m.z, .int .u16 t.m.t] 41) = V from HV.out.symm]
 have d10 := B1.out.cell (i := 0) rfl
 have d11 := B1.out.cell (i := 1) rfl
 have d12 := B1.out.cell (i := 2) rfl
 have d13 := B1.out.cell (i := 3) rfl
 have d14 := B1.out.cell (i := 4) rfl
 have d15 := B1.out.cell (i := 5) rfl
 have d16 := B1.out.cell (i := 6) rfl
 have d17 := B1.out.cell (i := 7) rfl
 have d1f := B1.out.fz
 have d1l := B1.out.lt
 go_wp2_with fail
 go_ret
 refine ⟨?_, KG.out⟩
 show Ending.returned (.int .i64 _) = .returned (.int .i64 ((t.m.x + t.m.y + t.m.z + t.m.t : Nat) : Int))
 rw [Int.natCast_add, Int.natCast_add, Int.natCast_add]
def tallB (d : Nat) (ts : List TV) : Bool := ts.any fun t => decide (d < t.m.many)
set_option maxRecDepth 100000 in
set_option maxHeartbeats 4000000 in
theorem tall5 (d : Nat) (x : PV) (ts : List TV) (w : World) (hr : RT w x.a ts) (hl : ts.length = x.n) (hn : x.n ≤ 9223372036854775807) (hs : ∀ t ∈ ts, t.m.Small) :
  Calls Tryz.prog 27 #[.int .i64 (d : Int), x.v] w fun e w' => e = .returned (.bool (tallB d ts)) ∧ Below w.heap.size w w' := by
 obtain ⟨xa, xn, xc⟩ := x
 have RX := Lib.hid hr; have LX := Lib.hid (show ts.length = xn from hl); have NX := Lib.hid (show xn ≤ 9223372036854775807 from hn); have HS := Lib.hid hs
 change Calls Tryz.prog 27 #[.int .i64 (d : Int), .slice xa xn xc] w _
 clear hr hl hn hs
 go_enter Tryz.func27, Tryz.ntmps27
 go_wp2_with fail
 go_loopw [5] (fun i wr => ∃ j : Nat, j ≤ xn ∧ i = .int .i64 j ∧ (∀ i t, ts[i]? = some t → i < j → ¬ d < t.m.many) ∧ Below w.heap.size w wr) (fun i _ => xn - (intOf i).toNat)
 case atStart => exact ⟨0, Nat.zero_le _, rfl, fun i e _ h => absurd h (Nat.not_lt_zero _), Below.refl _ _⟩
 case round =>
  obtain ⟨j, hj, rfl, hg, hb0⟩ := hrel
  have HJ := Lib.hid hj; have HG := Lib.hid hg; have KG := Lib.hid hb0
  clear hj hg hb0
  by_cases hjn : j < xn
  ·have HJN := Lib.hid hjn
   have hll : j < ts.length := by rw [LX.out]; exact hjn
   obtain ⟨pb, po, rfl, hpb, hcs⟩ := (RX.out.below KG.out).off (i := j) hll
   obtain ⟨t, ht⟩ : ∃ t, ts[j]? = some t := ⟨_, List.getElem?_eq_getElem hll⟩
   obtain ⟨c0, c1, c2, c3, c4, c5, c6, c7⟩ := RT.eight hcs (i := j) (t := t) ht
   have HT := Lib.hid ht
   have MN := Lib.hid (many_k t wr (HS.out t (List.mem_of_getElem? ht)))
   have hlt : (j : Int) < (xn : Int) := by omega
   have ek : IntKind.i64.wrap ((j : Int) + 1) = (j : Int) + 1 := IntWalk.i64_in _ (by have := HJN.out; have := NX.out; omega)
   obtain ⟨mt, hmt⟩ : ∃ m, m = t.m.many := ⟨_, rfl⟩
   rw [← hmt] at MN
   have HMT := Lib.hid hmt
   clear hcs ht hll hpb hjn hmt
   go_wp2_with fail
   with_reducible refine MN.out.mono ?_
   rintro e w1 ⟨rfl, hb⟩
   have KG := Lib.hid (KG.out.trans (hb.mono KG.out.size))
   clear hb MN c0 c1 c2 c3 c4 c5 c6 c7
   by_cases hd : d < mt
   ·have hd' : (d : Int) < (mt : Int) := by omega
    have HD := Lib.hid hd
    clear hd
    go_wp2_with fail
    go_ret
    refine ⟨?_, KG.out⟩
    rw [show tallB d ts = true from List.any_eq_true.2 ⟨t, List.mem_of_getElem? HT.out, decide_eq_true (by rw [← HMT.out]; exact HD.out)⟩]
    rfl
   ·have hd' : ¬ ((d : Int) < (mt : Int)) := by omega
    have HD := Lib.hid hd
    clear hd
    go_wp2_with fail
    go_roundw
    case rel =>
     refine ⟨j + 1, by have := HJN.out; omega, rfl, fun i u hu hi => ?_, KG.out⟩
     by_cases hij : i < j
     ·exact HG.out i u hu hij
     ·obtain rfl : i = j := by omega
      rw [HT.out] at hu
      obtain rfl : t = u := Option.some.inj hu
      rw [← HMT.out]
      exact HD.out
    case measure => simp [intOf]; have := HJN.out; omega
  ·have hge : ¬ ((j : Int) < (xn : Int)) := by omega
   have HJE := Lib.hid (show j = xn by have := HJ.out; omega)
   clear hjn
   go_wp2_with fail
   go_ret
   refine ⟨?_, KG.out⟩
   rw [show tallB d ts = false from Bool.eq_false_iff.2 fun h => by
    obtain ⟨t, ht, h1⟩ := List.any_eq_true.1 h
    obtain ⟨i, hi⟩ := List.mem_iff_getElem?.1 ht
    exact HG.out i t hi (by have := (List.getElem?_eq_some_iff.1 hi).1; have := LX.out; have := HJE.out; omega) (of_decide_eq_true h1)]
   rfl
def growsB (o : Int) (Ls : List (List TV)) : Bool := !(decide (o = 1) || decide (o = 2)) && Ls.any fun ts => match ts with
 | [] => false
 | t :: r => r.any fun u => decide (t.m.many < u.m.many)
structure T8 (w : World) (b o : Nat) (t : TV) : Prop where
 eight : w.cell? ⟨b, o, none⟩ = some (.bool t.c.t.s) ∧ w.cell? ⟨b, o + 1, none⟩ = some (.slice t.c.t.a t.c.t.n t.c.t.c) ∧ w.cell? ⟨b, o + 2, none⟩ = some (.bool t.c.l.s) ∧ w.cell? ⟨b, o + 3, none⟩ = some (.slice t.c.l.a t.c.l.n t.c.l.c) ∧
  w.cell? ⟨b, o + 4, none⟩ = some (.int .u16 t.m.x) ∧ w.cell? ⟨b, o + 5, none⟩ = some (.int .u16 t.m.y) ∧ w.cell? ⟨b, o + 6, none⟩ = some (.int .u16 t.m.z) ∧ w.cell? ⟨b, o + 7, none⟩ = some (.int .u16 t.m.t)
theorem T8.below {w w' : World} {b o : Nat} {t : TV} (h : T8 w b o t) (hb : Below w.heap.size w w') : T8 w' b o t := by
 obtain ⟨h0, h1, h2, h3, h4, h5, h6, h7⟩ := h.eight
 have f : ∀ {i : Nat} {v : Value}, w.cell? ⟨b, i, none⟩ = some v → w'.cell? ⟨b, i, none⟩ = some v := fun {i v} h => (hb.cell (p := ⟨b, i, none⟩) (block_lt_of_cell h)).trans h
 exact ⟨f h0, f h1, f h2, f h3, f h4, f h5, f h6, f h7⟩
set_option maxRecDepth 100000 in
set_option maxHeartbeats 16000000 in
theorem grows5 (o : Int) (a : Option Addr) (c : Nat) (Xs : List (PV × List TV)) (w : World) (hr : RS w a (Xs.map Prod.fst)) (hx : ∀ e ∈ Xs, RT w e.1.a e.2 ∧ e.2.length = e.1.n ∧ e.1.n ≤ 9223372036854775807 ∧ ∀ t ∈ e.2, t.m.Small) (hn : Xs.length ≤ 9223372036854775807) :
  Calls Tryz.prog 28 #[.int .u8 o, .slice a Xs.length c] w fun e w' => e = .returned (.bool (growsB o (Xs.map Prod.snd))) ∧ Below w.heap.size w w' := by
 have HR := Lib.hid hr; have HX := Lib.hid hx; have HN := Lib.hid hn
 obtain ⟨n, hnn⟩ : ∃ n, n = Xs.length := ⟨_, rfl⟩
 rw [← hnn]
 have HNN := Lib.hid hnn
 clear hr hx hn hnn
 by_cases ho : o = 1 ∨ o = 2
 ·have HF := Lib.hid (show growsB o (Xs.map Prod.snd) = false by rcases ho with rfl | rfl <;> rfl)
  rcases ho with rfl | rfl
  ·go_enter Tryz.func28, Tryz.ntmps28
   go_wp2_with fail
   go_ret
   exact ⟨by rw [HF.out]; rfl, Below.refl _ _⟩
  ·go_enter Tryz.func28, Tryz.ntmps28
   go_wp2_with fail
   go_ret
   exact ⟨by rw [HF.out]; rfl, Below.refl _ _⟩
 have ho1 : (o == 1) = false := beq_eq_false_iff_ne.2 fun h => ho (Or.inl h)
 have ho2 : (o == 2) = false := beq_eq_false_iff_ne.2 fun h => ho (Or.inr h)
 have HGB := Lib.hid (show growsB o (Xs.map Prod.snd) = (Xs.map Prod.snd).any fun ts => match ts with | [] => false | t :: r => r.any fun u => decide (t.m.many < u.m.many) by
  unfold growsB
  rw [decide_eq_false (fun h => ho (Or.inl h)), decide_eq_false (fun h => ho (Or.inr h))]
  rfl)
 clear ho
 go_enter Tryz.func28, Tryz.ntmps28
 go_wp2_with fail
 go_loopw [5] (fun i wr => ∃ j : Nat, j ≤ n ∧ i = .int .i64 j ∧ (∀ (i : Nat) (e : PV × List TV), Xs[i]? = some e → i < j → ∀ t0 r, e.2 = t0 :: r → ∀ u ∈ r, ¬ t0.m.many < u.m.many) ∧ Below w.heap.size w wr) (fun i _ => n - (intOf i).toNat)
 case atStart => exact ⟨0, Nat.zero_le _, rfl, fun i e _ h => absurd h (Nat.not_lt_zero _), Below.refl _ _⟩
 case round =>
  obtain ⟨j, hj, rfl, hg, hb0⟩ := hrel
  have HJ := Lib.hid hj; have HG := Lib.hid hg; have KG := Lib.hid hb0
  clear hj hg hb0
  by_cases hjn : j < n
  ·have HJN := Lib.hid hjn
   have hjl : j < Xs.length := by rw [← HNN.out]; exact hjn
   obtain ⟨pb, po, rfl, hcs⟩ := HR.out.ex (fun e => by rw [List.map_eq_nil_iff] at e; rw [e] at hjl; simp at hjl)
   obtain ⟨⟨p, ts⟩, hp⟩ : ∃ p, Xs[j]? = some p := ⟨_, List.getElem?_eq_getElem hjl⟩
   have hc := hcs j p (by rw [List.getElem?_map, hp]; rfl)
   have HPJ := Lib.hid hp
   obtain ⟨k1, k2, k3, k4⟩ := HX.out _ (List.mem_of_getElem? hp)
   obtain ⟨xa, xn, xc⟩ := p
   have HLC := Lib.hid (show ∀ w', Below w.heap.size w w' → w'.cell? ⟨pb, po + j, none⟩ = some (.slice xa xn xc) from fun w' hb => (hb.cell (p := ⟨pb, po + j, none⟩) (block_lt_of_cell hc)).trans hc)
   have HRT := Lib.hid (show RT w xa ts from k1); have HTL := Lib.hid (show ts.length = xn from k2); have HXN := Lib.hid (show xn ≤ 9223372036854775807 from k3); have HSM := Lib.hid (show ∀ t ∈ ts, t.m.Small from k4)
   have hlt : (j : Int) < (n : Int) := by omega
   have ek : IntKind.i64.wrap ((j : Int) + 1) = (j : Int) + 1 := IntWalk.i64_in _ (by have := HN.out; have := HNN.out; omega)
   have HEK := Lib.hid ek
   clear hjl hp hcs hc k1 k2 k3 k4 hjn ek
   go_wp2_with fail
   go_loopw [6] (fun i wi => ∃ l : Nat, 1 ≤ l ∧ (l ≤ xn ∨ l = 1) ∧ i = .int .i64 l ∧ (∀ t0 r, ts = t0 :: r → ∀ (k : Nat) (u : TV), r[k]? = some u → k + 1 < l → ¬ t0.m.many < u.m.many) ∧ Below w.heap.size w wi) (fun i _ => xn - (intOf i).toNat)
   case atStart => exact ⟨1, Nat.le_refl _, Or.inr rfl, rfl, fun t0 r _ k u _ h => by omega, KG.out⟩
   case round =>
    clear KG
    obtain ⟨l, hl1, hl, rfl, hg2, hb0⟩ := hrel
    have HL1 := Lib.hid hl1; have HL := Lib.hid hl; have HG2 := Lib.hid hg2; have KG := Lib.hid hb0
    obtain ⟨wi, hwi⟩ : ∃ W, W = wr := ⟨_, rfl⟩
    rw [← hwi] at KG ⊢
    clear hl1 hl hg2 hb0 hwi
    have hl := HLC.out wi KG.out
    have hjn := HJN.out
    by_cases hln : l < xn
    ·have HLN := Lib.hid hln
     have HX0 := Lib.hid (show 0 < xn by omega)
     have hll : l < ts.length := by rw [HTL.out]; exact hln
     obtain ⟨xb, xo, rfl, hxb, hcs⟩ := HRT.out.off (i := l) hll
     obtain ⟨tl, htl⟩ : ∃ t, ts[l]? = some t := ⟨_, List.getElem?_eq_getElem hll⟩
     obtain ⟨t0, ht0⟩ : ∃ t, ts[0]? = some t := ⟨_, List.getElem?_eq_getElem (by omega)⟩
     have R8L := Lib.hid (show T8 w xb (xo + l * 8) tl from ⟨RT.eight hcs htl⟩)
     have R80 := Lib.hid (show T8 w xb xo t0 from ⟨RT.eight hcs ht0⟩)
     have HSL := Lib.hid (HSM.out tl (List.mem_of_getElem? htl)); have HS0 := Lib.hid (HSM.out t0 (List.mem_of_getElem? ht0))
     have HTL2 := Lib.hid htl; have HT02 := Lib.hid ht0
     obtain ⟨ml, hml⟩ : ∃ m : Int, m = ((tl.m.many : Nat) : Int) := ⟨_, rfl⟩
     obtain ⟨m0, hm0⟩ : ∃ m : Int, m = ((t0.m.many : Nat) : Int) := ⟨_, rfl⟩
     have HML := Lib.hid hml; have HM0 := Lib.hid hm0
     have hlx : (l : Int) < (xn : Int) := by omega
     have el : IntKind.i64.wrap ((l : Int) + 1) = (l : Int) + 1 := IntWalk.i64_in _ (by have := HXN.out; omega)
     have HEL := Lib.hid el
     clear hll hxb hcs htl ht0 hml hm0 hln el
     go_upto_region 9 with (fail)
     refine Go.FreshS.wp_region_fresh 15 [] (Go.FreshS.spOf [(7, Go.FreshS.Sp.know (.int .i64 ml)), (14, Go.FreshS.Sp.know (.int .i64 m0))])
      (fun w' => Below wi.heap.size wi w') (by kernel_rfl) (by kernel_rfl) (by kernel_rfl)
      (Go.FreshS.spOf_cons (Go.FreshS.Sp.know_keeps _ _) (Go.FreshS.spOf_cons (Go.FreshS.Sp.know_keeps _ _) (Go.FreshS.spOf_nil))) (fun _ _ h hb => h.trans (hb.mono h.size)) ((Below.refl _ _).drew) ?_
     simp only [List.append_eq, List.cons_append, List.nil_append, List.take_succ_cons, List.take_zero, List.drop_succ_cons, List.drop_zero]
     refine Go.FreshS.wpF_reads rfl rfl rfl ?_ (fun w' hw' => ?_) ?_
     rotate_left
     ·have hb' := hw'.world
      skip
      clear hw'
      go_simp
      try rfl
     conv => arg 10; simp only [Act.put, List.setIfInBounds_toArray, List.set_cons_succ, List.set_cons_zero]
     refine Go.FreshS.wpF_reads rfl rfl rfl ?_ (fun w' hw' => ?_) ?_
     rotate_left
     ·have hb' := hw'.world
      skip
      clear hw'
      go_simp
      try rfl
     conv => arg 10; simp only [Act.put, List.setIfInBounds_toArray, List.set_cons_succ, List.set_cons_zero]
     refine Go.FreshS.wpF_reads rfl rfl rfl ?_ (fun w' hw' => ?_) ?_
     rotate_left
     ·have hb' := hw'.world
      have hn := HJN.out
      clear hw'
      go_simp
      try rfl
     conv => arg 10; simp only [Act.put, List.setIfInBounds_toArray, List.set_cons_succ, List.set_cons_zero]
     refine Go.FreshS.wpF_reads rfl rfl rfl ?_ (fun w' hw' => ?_) ?_
     rotate_left
     ·have hb' := hw'.world
      have hl := HLC.out w' (KG.out.trans (hb'.mono KG.out.size))
      clear hw'
      go_simp
      try rfl
     conv => arg 10; simp only [Act.put, List.setIfInBounds_toArray, List.set_cons_succ, List.set_cons_zero]
     refine Go.FreshS.wpF_reads rfl rfl rfl ?_ (fun w' hw' => ?_) ?_
     rotate_left
     ·have hb' := hw'.world
      skip
      clear hw'
      go_simp
      try rfl
     conv => arg 10; simp only [Act.put, List.setIfInBounds_toArray, List.set_cons_succ, List.set_cons_zero]
     refine Go.FreshS.wpF_reads rfl rfl rfl ?_ (fun w' hw' => ?_) ?_
     rotate_left
     ·have hb' := hw'.world
      have hn := HLN.out
      clear hw'
      go_simp
      try rfl
     conv => arg 10; simp only [Act.put, List.setIfInBounds_toArray, List.set_cons_succ, List.set_cons_zero]
     refine Go.FreshS.wpF_reads rfl rfl rfl ?_ (fun w' hw' => ?_) ?_
     rotate_left
     ·have hb' := hw'.world
      obtain ⟨e0, e1, e2, e3, e4, e5, e6, e7⟩ := (R8L.out.below (KG.out.trans (hb'.mono KG.out.size))).eight
      clear hw'
      go_simp
      try rfl
     conv => arg 10; simp only [Act.put, List.setIfInBounds_toArray, List.set_cons_succ, List.set_cons_zero]
     refine Go.FreshS.wpF_spec rfl rfl rfl (fun w' hw' => ?_) ?_
     ·have hb' := hw'.world
      refine Go.FreshS.gives_of (Go.FreshS.PK (.int .i64 ml)) ?_ (fun _ _ h => h.post)
      go_simp
      have CT := many_k tl w' HSL.out
      rw [show ((tl.m.many : Nat) : Int) = ml from HML.out.symm] at CT
      refine CT.mono ?_
      rintro e w'' ⟨rfl, hb⟩
      exact ⟨_, rfl, rfl, hb⟩
     rintro _ rfl
     conv => arg 10; simp only [Act.put, List.setIfInBounds_toArray, List.set_cons_succ, List.set_cons_zero]
     refine Go.FreshS.wpF_reads rfl rfl rfl ?_ (fun w' hw' => ?_) ?_
     rotate_left
     ·have hb' := hw'.world
      skip
      clear hw'
      go_simp
      try rfl
     conv => arg 10; simp only [Act.put, List.setIfInBounds_toArray, List.set_cons_succ, List.set_cons_zero]
     refine Go.FreshS.wpF_reads rfl rfl rfl ?_ (fun w' hw' => ?_) ?_
     rotate_left
     ·have hb' := hw'.world
      skip
      clear hw'
      go_simp
      try rfl
     conv => arg 10; simp only [Act.put, List.setIfInBounds_toArray, List.set_cons_succ, List.set_cons_zero]
     refine Go.FreshS.wpF_reads rfl rfl rfl ?_ (fun w' hw' => ?_) ?_
     rotate_left
     ·have hb' := hw'.world
      have hn := HJN.out
      clear hw'
      go_simp
      try rfl
     conv => arg 10; simp only [Act.put, List.setIfInBounds_toArray, List.set_cons_succ, List.set_cons_zero]
     refine Go.FreshS.wpF_reads rfl rfl rfl ?_ (fun w' hw' => ?_) ?_
     rotate_left
     ·have hb' := hw'.world
      have hl := HLC.out w' (KG.out.trans (hb'.mono KG.out.size))
      clear hw'
      go_simp
      try rfl
     conv => arg 10; simp only [Act.put, List.setIfInBounds_toArray, List.set_cons_succ, List.set_cons_zero]
     refine Go.FreshS.wpF_reads rfl rfl rfl ?_ (fun w' hw' => ?_) ?_
     rotate_left
     ·have hb' := hw'.world
      have hn := HX0.out
      clear hw'
      go_simp
      try rfl
     conv => arg 10; simp only [Act.put, List.setIfInBounds_toArray, List.set_cons_succ, List.set_cons_zero]
     refine Go.FreshS.wpF_reads rfl rfl rfl ?_ (fun w' hw' => ?_) ?_
     rotate_left
     ·have hb' := hw'.world
      obtain ⟨e0, e1, e2, e3, e4, e5, e6, e7⟩ := (R80.out.below (KG.out.trans (hb'.mono KG.out.size))).eight
      clear hw'
      go_simp
      try rfl
     conv => arg 10; simp only [Act.put, List.setIfInBounds_toArray, List.set_cons_succ, List.set_cons_zero]
     refine Go.FreshS.wpF_spec rfl rfl rfl (fun w' hw' => ?_) ?_
     ·have hb' := hw'.world
      refine Go.FreshS.gives_of (Go.FreshS.PK (.int .i64 m0)) ?_ (fun _ _ h => h.post)
      go_simp
      have CT := many_k t0 w' HS0.out
      rw [show ((t0.m.many : Nat) : Int) = m0 from HM0.out.symm] at CT
      refine CT.mono ?_
      rintro e w'' ⟨rfl, hb⟩
      exact ⟨_, rfl, rfl, hb⟩
     rintro _ rfl
     conv => arg 10; simp only [Act.put, List.setIfInBounds_toArray, List.set_cons_succ, List.set_cons_zero]
     refine Go.FreshS.wpF_nil (fun w101 hb hF => ?_)
     clear hF
     have KG := Lib.hid (KG.out.trans (hb.mono KG.out.size))
     clear hb
     have el := HEL.out
     by_cases hd : m0 < ml
     ·have HD := Lib.hid hd
      go_wp2_with fail
      go_ret
      refine ⟨?_, KG.out⟩
      rw [show growsB o (Xs.map Prod.snd) = true by
       rw [HGB.out]
       refine List.any_eq_true.2 ⟨ts, List.mem_map.2 ⟨_, List.mem_of_getElem? HPJ.out, rfl⟩, ?_⟩
       match ts, HT02.out, HTL2.out with
       | u :: r, h0, hl =>
        obtain rfl : u = t0 := by simpa using h0
        obtain ⟨k, rfl⟩ : ∃ k, l = k + 1 := ⟨l - 1, by have := HL1.out; omega⟩
        refine List.any_eq_true.2 ⟨tl, List.mem_of_getElem? (i := k) (by simpa using hl), decide_eq_true ?_⟩
        have h := HD.out
        rw [HM0.out, HML.out] at h
        omega]
      rfl
     ·have HD := Lib.hid hd
      go_wp2_with fail
      go_roundw
      case rel =>
       refine ⟨l + 1, by omega, Or.inl (by have := HLN.out; omega), rfl, fun t1 r e k u hk hkl => ?_, KG.out⟩
       by_cases hkk : k + 1 < l
       ·exact HG2.out t1 r e k u hk hkk
       ·obtain rfl : l = k + 1 := by omega
        have h0 := HT02.out
        have h1 := HTL2.out
        rw [e] at h0 h1
        obtain rfl : t1 = t0 := by simpa using h0
        obtain rfl : u = tl := by
         have h1 : r[k]? = some tl := by simpa using h1
         rw [hk] at h1
         exact Option.some.inj h1
        have h := HD.out
        rw [HM0.out, HML.out] at h
        omega
      case measure => simp [intOf]; have := HLN.out; omega
    ·have hge : ¬ ((l : Int) < (xn : Int)) := by omega
     have HLE := Lib.hid (show xn ≤ l by omega)
     have ek := HEK.out
     clear hln
     go_wp2_with fail
     go_roundw
     case rel =>
      refine ⟨j + 1, by have := HJN.out; omega, rfl, fun i e he hi t0 r e1 u hu => ?_, KG.out⟩
      by_cases hij : i < j
      ·exact HG.out i e he hij t0 r e1 u hu
      ·obtain rfl : i = j := by omega
       rw [HPJ.out] at he
       obtain rfl : _ = e := Option.some.inj he
       obtain ⟨k, hk⟩ := List.mem_iff_getElem?.1 hu
       refine HG2.out t0 r e1 k u hk ?_
       have h1 := (List.getElem?_eq_some_iff.1 hk).1
       have h2 := HTL.out
       have e1 : ts = t0 :: r := e1
       rw [e1, List.length_cons] at h2
       have := HLE.out
       omega
     case measure => simp [intOf]; have := HJN.out; omega
  ·have hge : ¬ ((j : Int) < (n : Int)) := by omega
   have HJE := Lib.hid (show j = n by have := HJ.out; omega)
   clear hjn
   go_wp2_with fail
   go_ret
   refine ⟨?_, KG.out⟩
   rw [show growsB o (Xs.map Prod.snd) = false by
    rw [HGB.out]
    refine Bool.eq_false_iff.2 fun h => ?_
    obtain ⟨ts, ht, h1⟩ := List.any_eq_true.1 h
    obtain ⟨e, he, rfl⟩ := List.mem_map.1 ht
    obtain ⟨i, hi⟩ := List.mem_iff_getElem?.1 he
    have hij : i < j := by have := (List.getElem?_eq_some_iff.1 hi).1; have := HNN.out; have := HJE.out; omega
    have hG := HG.out i e hi hij
    match hts : e.2, h1, hG with
    | t0 :: r, h1, hG =>
     obtain ⟨u, hu, h2⟩ := List.any_eq_true.1 h1
     exact hG t0 r rfl u hu (of_decide_eq_true h2)]
   rfl
def Chk (w : World) (p : PV) (b : Bool) : Prop := ∀ w1, Below w.heap.size w w1 → Calls Tryz.prog 11 #[p.v] w1 fun e w' => e = .returned (.bool b) ∧ Below w1.heap.size w1 w'
set_option maxRecDepth 100000 in
set_option maxHeartbeats 4000000 in
theorem div_no1 (o : Int) (p : PV) (v : Value) (w : World) (ho : 2 < o) : Calls Tryz.prog 10 #[.int .u8 o, p.v, v] w fun e w' => e = .returned (.tuple #[.slice none 0 0, .slice none 0 0, .int .i64 1]) ∧ Below w.heap.size w w' := by
 obtain ⟨pa, pn, pc⟩ := p
 change Calls Tryz.prog 10 #[.int .u8 o, .slice pa pn pc, v] w _
 have KG := Lib.hid (Below.refl w.heap.size w)
 go_enter Tryz.func10, Tryz.ntmps10
 go_wp2_with fail
 go_step3
 go_wp2_with fail
 try rw [Exit.noGoto_ret]
 go_ret3
 exact ⟨rfl, KG.out⟩
set_option maxRecDepth 100000 in
set_option maxHeartbeats 4000000 in
theorem div_no2 (o : Int) (p : PV) (v : Value) (w : World) (ho : o ≤ 2) (hp : Chk w p false) : Calls Tryz.prog 10 #[.int .u8 o, p.v, v] w fun e w' => e = .returned (.tuple #[.slice none 0 0, .slice none 0 0, .int .i64 1]) ∧ Below w.heap.size w w' := by
 have CK := Lib.hid (hp w (Below.refl _ _))
 have hog : ¬ (2 < o) := by omega
 obtain ⟨pa, pn, pc⟩ := p
 change Calls Tryz.prog 10 #[.int .u8 o, .slice pa pn pc, v] w _
 clear ho hp
 go_enter Tryz.func10, Tryz.ntmps10
 go_wp2_with fail
 go_step3
 go_wp2_with fail
 with_reducible refine CK.out.mono ?_
 rintro e w1 ⟨rfl, hb⟩
 have KG := Lib.hid hb
 clear hb CK
 go_wp2_with fail
 try rw [Exit.noGoto_ret]
 go_ret3
 exact ⟨rfl, KG.out⟩
set_option maxRecDepth 100000 in
set_option maxHeartbeats 4000000 in
theorem div_no3 (o : Int) (p : PV) (a : Option Addr) (c : Nat) (ps : List PV) (k0 : Nat) (w : World) (ho : o ≤ 2) (hp : Chk w p true) (hr : RS w a ps) (hn : ps.length ≤ 1000) (hk : k0 < ps.length)
  (hok : ∀ i x, i < k0 → ps[i]? = some x → Chk w x true) (hbad : ∀ x, ps[k0]? = some x → Chk w x false) : Calls Tryz.prog 10 #[.int .u8 o, p.v, .slice a ps.length c] w fun e w' => e = .returned (.tuple #[.slice none 0 0, .slice none 0 0, .int .i64 1]) ∧ Below w.heap.size w w' := by
 have CK := Lib.hid (hp w (Below.refl _ _))
 have CN := Lib.hid (fun (w1 : World) (hb : Below w.heap.size w w1) => con_l a c ps k0 w1 (hr.below hb) hn (Nat.le_of_lt hk) (fun i x hi hx w2 hb2 => hok i x hi hx w2 (hb.trans (hb2.mono hb.size))) (fun x hx w2 hb2 => hbad x hx w2 (hb.trans (hb2.mono hb.size))))
 rw [decide_eq_true hk] at CN
 have hog : ¬ (2 < o) := by omega
 obtain ⟨n, hn⟩ : ∃ n, n = ps.length := ⟨_, rfl⟩
 rw [← hn] at CN ⊢
 obtain ⟨pa, pn, pc⟩ := p
 change Calls Tryz.prog 10 #[.int .u8 o, .slice pa pn pc, .slice a n c] w _
 clear ho hp hr hk hok hbad hn
 go_enter Tryz.func10, Tryz.ntmps10
 go_wp2_with fail
 go_step3
 go_wp2_with fail
 with_reducible refine CK.out.mono ?_
 rintro e w1 ⟨rfl, hb⟩
 have KG := Lib.hid hb
 have C1 := Lib.hid (CN.out w1 hb)
 clear hb CK CN
 go_wp2_with fail
 with_reducible refine C1.out.mono ?_
 rintro e w2 ⟨rfl, hb⟩
 have KG := Lib.hid (KG.out.trans (hb.mono KG.out.size))
 clear hb C1
 go_wp2_with fail
 try rw [Exit.noGoto_ret]
 go_ret3
 exact ⟨rfl, KG.out⟩
set_option maxRecDepth 100000 in
set_option maxHeartbeats 4000000 in
theorem div_no6 (o : Int) (p : PV) (a : Option Addr) (c : Nat) (qs : List (PV × List Tm)) (k0 : Nat) (w : World) (ho : o ≤ 2) (hp : Chk w p true) (hr : RS w a (qs.map Prod.fst)) (hn : qs.length ≤ 1000) (h0 : k0 < qs.length)
  (hk : ∀ q ∈ qs, KP w q.1 q.2 ∧ (∀ t ∈ q.2, LQ t.2 900000) ∧ q.1.n ≤ 1000000) (hpre : ∀ i q, i < k0 → qs[i]? = some q → q.2 ≠ []) (hz : ∀ q, qs[k0]? = some q → q.2 = []) : Calls Tryz.prog 10 #[.int .u8 o, p.v, .slice a qs.length c] w fun e w' => e = .returned (.tuple #[.slice none 0 0, .slice none 0 0, .int .i64 6]) ∧ Below w.heap.size w w' := by
 have CK := Lib.hid (hp w (Below.refl _ _))
 have CN := Lib.hid (fun (w1 : World) (hb : Below w.heap.size w w1) => con_l a c (qs.map Prod.fst) qs.length w1 (hr.below hb) (by rw [List.length_map]; exact hn) (by rw [List.length_map]; exact Nat.le_refl _)
  (fun i x hi hx w2 hb2 => by
   rw [List.getElem?_map] at hx
   obtain ⟨q, hq1, rfl⟩ := Option.map_eq_some_iff.1 hx
   obtain ⟨g1, g2, g3⟩ := hk q (List.mem_of_getElem? hq1)
   exact check_k ((g1.below hb).below hb2) g2 (by omega))
  (fun x hx => by
   have := (List.getElem?_eq_some_iff.1 hx).1
   rw [List.length_map] at this
   omega))
 have DS0 := Lib.hid (fun (w1 : World) (hb : Below w.heap.size w w1) => divisors_z o a c qs k0 w1 (hr.below hb) hn h0 (fun q hq => by obtain ⟨g1, g2⟩ := hk q hq; exact ⟨g1.below hb, g2⟩) hpre hz)
 have hog : ¬ (2 < o) := by omega
 obtain ⟨n, hn⟩ : ∃ n, n = qs.length := ⟨_, rfl⟩
 rw [← hn]
 simp only [List.length_map, ← hn] at CN DS0
 have hnn : ¬ (n < n) := Nat.lt_irrefl _
 obtain ⟨pa, pn, pc⟩ := p
 change Calls Tryz.prog 10 #[.int .u8 o, .slice pa pn pc, .slice a n c] w _
 clear ho hp hr hk h0 hpre hz hn
 go_enter Tryz.func10, Tryz.ntmps10
 go_wp2_with fail
 go_step3
 go_wp2_with fail
 with_reducible refine CK.out.mono ?_
 rintro e w1 ⟨rfl, hb⟩
 have KG := Lib.hid hb
 have C1 := Lib.hid (CN.out w1 hb)
 clear hb CK CN
 go_wp2_with fail
 with_reducible refine C1.out.mono ?_
 rintro e w2 ⟨rfl, hb⟩
 have KG := Lib.hid (KG.out.trans (hb.mono KG.out.size))
 have D1 := Lib.hid (DS0.out w2 KG.out)
 clear hb C1 DS0
 go_wp2_with fail
 with_reducible refine D1.out.mono ?_
 rintro e w3 ⟨rfl, hb⟩
 have KG := Lib.hid (KG.out.trans (hb.mono KG.out.size))
 clear hb D1
 go_wp2_with fail
 try rw [Exit.noGoto_ret]
 go_ret3
 exact ⟨rfl, KG.out⟩
theorem left_of (o : Int) (p v : Value) (w : World) (Φ : Value → Int → World → Prop) (h : Calls Tryz.prog 10 #[.int .u8 o, p, v] w fun e w' => ∃ (q r : Value) (c : Int), e = .returned (.tuple #[q, r, .int .i64 c]) ∧ Φ r c w' ∧ Below w.heap.size w w') :
  Calls Tryz.prog 22 #[.int .u8 o, p, v] w fun e w' => ∃ (r : Value) (c : Int), e = .returned (.tuple #[r, .int .i64 c]) ∧ Φ r c w' ∧ Below w.heap.size w w' := by
 have DV := Lib.hid h
 clear h
 go_enter Tryz.func22, Tryz.ntmps22
 go_wp2_with fail
 with_reducible refine DV.out.mono ?_
 rintro e w1 ⟨q, r, c, rfl, hf, hb⟩
 have HF := Lib.hid hf
 have KG := Lib.hid hb
 clear hf hb DV
 go_wp2_with fail
 go_ret2
 exact ⟨r, c, rfl, HF.out, KG.out⟩
set_option maxRecDepth 100000 in
set_option maxHeartbeats 16000000 in
theorem lsame5_k (x y : PV) (P : List Tm) (w : World) (hx : KP w x P) (hy : KP w y P) (hp : ∀ t ∈ P, LQ t.2 900000) (hn : P.length ≤ 1000000) : Calls Tryz.prog 17 #[x.v, y.v] w fun e w' => e = .returned (.bool true) ∧ Below w.heap.size w w' := by
 have SM := Lib.hid (same_k x y P w hx hy hp hn)
 clear hx hy hp hn
 obtain ⟨xa, xn, xc⟩ := x
 obtain ⟨ya, yn, yc⟩ := y
 change Calls Tryz.prog 17 #[.slice xa xn xc, .slice ya yn yc] w _
 go_enter Tryz.func17, Tryz.ntmps17
 go_wp2_with fail
 with_reducible refine SM.out.mono ?_
 rintro e w1 ⟨rfl, hb⟩
 have KG := Lib.hid hb
 clear hb SM
 go_wp2_with fail
 go_ret
 exact ⟨rfl, KG.out⟩
set_option maxRecDepth 100000 in
set_option maxHeartbeats 4000000 in
theorem dmul (x y : PV) (P Q : List Tm) (w : World) (h : Calls Tryz.prog 33 #[x.v, y.v] w (MulR w P Q)) (ho : ¬ Ovf P Q) :
  Calls Tryz.prog 13 #[x.v, y.v] w fun e w' => ∃ z : PV, e = .returned z.v ∧ DP w' w.heap.size z (mulP P Q) ∧ Below w.heap.size w w' := by
 have MU := Lib.hid h
 have HO := Lib.hid ho
 clear h ho
 obtain ⟨xa, xn, xc⟩ := x
 obtain ⟨ya, yn, yc⟩ := y
 change Calls Tryz.prog 13 #[.slice xa xn xc, .slice ya yn yc] w _
 go_enter Tryz.func13, Tryz.ntmps13
 go_wp2_with fail
 with_reducible refine MU.out.mono ?_
 rintro e w1 (⟨⟨za, zn, zc⟩, he, _, hz, hb⟩ | ⟨rfl, hov, hb⟩)
 ·obtain rfl : e = .returned (.tuple #[.slice za zn zc, .int .i64 0]) := he
  have HZ := Lib.hid hz
  have KG := Lib.hid hb
  clear hz hb MU
  go_wp2_with fail
  go_ret
  exact ⟨⟨za, zn, zc⟩, rfl, HZ.out, KG.out⟩
 ·exact absurd hov HO.out
structure DGr (o : Int) (terms degree : Nat) (ts : List TV) (Ls : List (List TV)) : Prop where
 n4 : Ls.length ≤ 4
 p : NotGreat terms ts
 tp : tallB degree ts = false
 gp : growsB o Ls = true → Ls.length ≤ 3 ∧ tallB 3 ts = false
 l : ∀ us ∈ Ls, NotGreat terms us ∧ tallB degree us = false ∧ (growsB o Ls = true → tallB 2 us = false)
set_option maxRecDepth 100000 in
set_option maxHeartbeats 16000000 in
theorem dgreat (o : Int) (terms degree : Nat) (p : PV) (ts : List TV) (a : Option Addr) (c : Nat) (Xs : List (PV × List TV)) (w : World) (hrt : RT w p.a ts) (htl : ts.length = p.n) (hpn : p.n ≤ 9223372036854775807) (hsm : ∀ t ∈ ts, t.m.Small) (hr : RS w a (Xs.map Prod.fst))
  (hx : ∀ e ∈ Xs, RT w e.1.a e.2 ∧ e.2.length = e.1.n ∧ e.1.n ≤ 9223372036854775807 ∧ ∀ t ∈ e.2, t.m.Small) (hn : Xs.length ≤ 9223372036854775807) (htm : terms ≤ 1000) :
  Calls Tryz.prog 9 #[.int .u8 o, .int .i64 (terms : Int), .int .i64 (degree : Int), p.v, .slice a Xs.length c] w (BR w (DGr o terms degree ts (Xs.map Prod.snd))) := by
 have GW := Lib.hid (fun (w1 : World) (hb : Below w.heap.size w w1) => grows5 o a c Xs w1 (hr.below hb) (fun e he => by obtain ⟨h1, h2⟩ := hx e he; exact ⟨h1.below hb, h2⟩) hn)
 obtain ⟨pa, pn, pc⟩ := p
 have HR := Lib.hid hr; have HX := Lib.hid hx; have HN := Lib.hid hn; have HTM := Lib.hid htm
 have HRT := Lib.hid (show RT w pa ts from hrt); have HTL := Lib.hid (show ts.length = pn from htl); have HPN := Lib.hid (show pn ≤ 9223372036854775807 from Nat.le_trans hpn (by decide)); have HSM := Lib.hid hsm
 obtain ⟨n, hnn⟩ : ∃ n, n = Xs.length := ⟨_, rfl⟩
 obtain ⟨gg, hgg⟩ : ∃ g, g = growsB o (Xs.map Prod.snd) := ⟨_, rfl⟩
 rw [← hnn] at GW ⊢
 rw [← hgg] at GW
 have HNN := Lib.hid hnn
 have HGG := Lib.hid hgg
 have KG := Lib.hid (Below.refl w.heap.size w)
 change Calls Tryz.prog 9 #[.int .u8 o, .int .i64 (terms : Int), .int .i64 (degree : Int), .slice pa pn pc, .slice a n c] w _
 clear hr hx hn htm hrt htl hpn hsm hnn hgg
 go_enter Tryz.func9, Tryz.ntmps9
 by_cases h4 : 4 < n
 ·have h4' : (4 : Int) < (n : Int) := by omega
  go_wp2_with fail
  go_ret
  exact BR.yes KG.out
 have h4' : ¬ ((4 : Int) < (n : Int)) := by omega
 have H4 := Lib.hid h4
 clear h4
 obtain ⟨V1, hV1⟩ : ∃ V, V = w.alloc (.cells #[.slice pa pn pc] 24) := ⟨_, rfl⟩
 have hb1 : Below w.heap.size w V1 := by rw [hV1]; exact (Below.refl _ _).alloc (Nat.le_refl _) _
 have BG : Bxs V1 w.heap.size 24 [.slice pa pn pc] := by rw [hV1]; exact Bxs.new w 24 [.slice pa pn pc]
 have CT := Lib.hid (pgreat_any w.heap.size terms 1 [((⟨pa, pn, pc⟩ : PV), ts)] V1 rfl (fun i e h => by match i, h with | 0, h => exact (Option.some.inj h) ▸ BG.cell (i := 0) rfl) (fun e he => by rw [List.mem_singleton.1 he]; exact ⟨(HRT.out.below KG.out).below hb1, HTL.out⟩) (by simp) HTM.out)
 have HV1 := Lib.hid hV1
 have HB1 := Lib.hid hb1
 clear hV1 hb1 BG
 go_wp2_with fail
 rw [show w.alloc (.cells #[.slice pa pn pc] 24) = V1 from HV1.out.symm]
 with_reducible refine CT.out.mono ?_
 rintro e w1 ⟨b1, rfl, hn, hb⟩
 have KG := Lib.hid ((KG.out.trans (HB1.out.mono KG.out.size)).trans (hb.mono (KG.out.trans (HB1.out.mono KG.out.size)).size))
 have HNG := Lib.hid hn
 clear hb hn CT HV1 HB1 V1
 rcases Bool.eq_false_or_eq_true b1 with rfl | rfl
 ·go_wp2_with fail
  go_ret
  exact BR.yes KG.out
 have NGX := Lib.hid (show NotGreat terms ts from HNG.out rfl _ (List.mem_singleton.2 rfl))
 clear HNG
 have HNP := Lib.hid NGX.out
 clear NGX
 have CT := Lib.hid (tall5 degree ⟨pa, pn, pc⟩ ts w1 (HRT.out.below KG.out) HTL.out HPN.out HSM.out)
 obtain ⟨bt, hbt⟩ : ∃ b, b = tallB degree ts := ⟨_, rfl⟩
 rw [← hbt] at CT
 have HTP := Lib.hid hbt
 clear hbt
 go_wp2_with fail
 with_reducible refine CT.out.mono ?_
 rintro e w2 ⟨rfl, hb⟩
 have KG := Lib.hid (KG.out.trans (hb.mono KG.out.size))
 clear hb CT
 rcases Bool.eq_false_or_eq_true bt with rfl | rfl
 ·go_wp2_with fail
  go_ret
  exact BR.yes KG.out
 have CT := Lib.hid (GW.out w2 KG.out)
 go_wp2_with fail
 with_reducible refine CT.out.mono ?_
 rintro e w3 ⟨rfl, hb⟩
 have KG := Lib.hid (KG.out.trans (hb.mono KG.out.size))
 clear hb CT
 rcases Bool.eq_false_or_eq_true gg with rfl | rfl
 ·by_cases h3 : 3 < n
  ·have h3' : (3 : Int) < (n : Int) := by omega
   go_wp2_with fail
   go_ret
   exact BR.yes KG.out
  have h3' : ¬ ((3 : Int) < (n : Int)) := by omega
  have H3 := Lib.hid h3
  clear h3
  have CT := Lib.hid (show Calls Tryz.prog 27 #[.int .i64 3, .slice pa pn pc] w3 _ from tall5 3 ⟨pa, pn, pc⟩ ts w3 (HRT.out.below KG.out) HTL.out HPN.out HSM.out)
  obtain ⟨bt, hbt⟩ : ∃ b, b = tallB 3 ts := ⟨_, rfl⟩
  rw [← hbt] at CT
  have HT3 := Lib.hid hbt
  clear hbt
  go_wp2_with fail
  with_reducible refine CT.out.mono ?_
  rintro e w4 ⟨rfl, hb⟩
  have KG := Lib.hid (KG.out.trans (hb.mono KG.out.size))
  clear hb CT
  rcases Bool.eq_false_or_eq_true bt with rfl | rfl
  ·go_wp2_with fail
   go_ret
   exact BR.yes KG.out
  go_wp2_with fail
  go_loopw [11] (fun i wr => ∃ j : Nat, j ≤ n ∧ i = .int .i64 j ∧ (∀ (i : Nat) (e : PV × List TV), Xs[i]? = some e → i < j → NotGreat terms e.2 ∧ tallB degree e.2 = false ∧ (growsB o (Xs.map Prod.snd) = true → tallB 2 e.2 = false)) ∧ Below w.heap.size w wr) (fun i _ => n - (intOf i).toNat)
  case atStart => exact ⟨0, Nat.zero_le _, rfl, fun i e _ h => absurd h (Nat.not_lt_zero _), KG.out⟩
  case round =>
   clear KG
   obtain ⟨j, hj, rfl, hg, hb0⟩ := hrel
   have HJ := Lib.hid hj; have HG := Lib.hid hg; have KG := Lib.hid hb0
   clear hj hg hb0
   by_cases hjn : j < n
   ·have HJN := Lib.hid hjn
    have hjl : j < Xs.length := by rw [← HNN.out]; exact hjn
    obtain ⟨pb, po, rfl, hcs⟩ := HR.out.ex (fun e => by rw [List.map_eq_nil_iff] at e; rw [e] at hjl; simp at hjl)
    obtain ⟨⟨p, us⟩, hp⟩ : ∃ p, Xs[j]? = some p := ⟨_, List.getElem?_eq_getElem hjl⟩
    have hc := hcs j p (by rw [List.getElem?_map, hp]; rfl)
    have HPJ := Lib.hid hp
    obtain ⟨k1, k2, k3, k4⟩ := HX.out _ (List.mem_of_getElem? hp)
    obtain ⟨xa, xn, xc⟩ := p
    have HLC := Lib.hid (show ∀ w', Below w.heap.size w w' → w'.cell? ⟨pb, po + j, none⟩ = some (.slice xa xn xc) from fun w' hb => (hb.cell (p := ⟨pb, po + j, none⟩) (block_lt_of_cell hc)).trans hc)
    have HRX := Lib.hid (show RT w xa us from k1); have HXL := Lib.hid (show us.length = xn from k2); have HXN := Lib.hid (show xn ≤ 9223372036854775807 from Nat.le_trans k3 (by decide)); have HXS := Lib.hid (show ∀ t ∈ us, t.m.Small from k4)
    have hlt : (j : Int) < (n : Int) := by omega
    have ek : IntKind.i64.wrap ((j : Int) + 1) = (j : Int) + 1 := IntWalk.i64_in _ (by have := HN.out; have := HNN.out; omega)
    clear hjl hp hcs hc k1 k2 k3 k4
    have hl := HLC.out wr KG.out
    obtain ⟨V1, hV1⟩ : ∃ V, V = wr.alloc (.cells #[.slice xa xn xc] 24) := ⟨_, rfl⟩
    have hb1 : Below wr.heap.size wr V1 := by rw [hV1]; exact (Below.refl _ _).alloc (Nat.le_refl _) _
    have BG : Bxs V1 wr.heap.size 24 [.slice xa xn xc] := by rw [hV1]; exact Bxs.new wr 24 [.slice xa xn xc]
    have CT := Lib.hid (pgreat_any wr.heap.size terms 1 [((⟨xa, xn, xc⟩ : PV), us)] V1 rfl (fun i e h => by match i, h with | 0, h => exact (Option.some.inj h) ▸ BG.cell (i := 0) rfl) (fun e he => by rw [List.mem_singleton.1 he]; exact ⟨(HRX.out.below KG.out).below hb1, HXL.out⟩) (by simp) HTM.out)
    have HV1 := Lib.hid hV1
    have HB1 := Lib.hid hb1
    clear hV1 hb1 BG
    go_wp2_with fail
    rw [show wr.alloc (.cells #[.slice xa xn xc] 24) = V1 from HV1.out.symm]
    with_reducible refine CT.out.mono ?_
    rintro e w5 ⟨b5, rfl, hn, hb⟩
    have KG := Lib.hid ((KG.out.trans (HB1.out.mono KG.out.size)).trans (hb.mono (KG.out.trans (HB1.out.mono KG.out.size)).size))
    have HNG := Lib.hid hn
    clear hb hn CT HV1 HB1 V1
    rcases Bool.eq_false_or_eq_true b5 with rfl | rfl
    ·go_wp2_with fail
     go_ret
     exact BR.yes KG.out
    have NGX := Lib.hid (show NotGreat terms us from HNG.out rfl _ (List.mem_singleton.2 rfl))
    clear HNG
    clear hl
    have hl := HLC.out w5 KG.out
    have CT := Lib.hid (tall5 degree ⟨xa, xn, xc⟩ us w5 (HRX.out.below KG.out) HXL.out HXN.out HXS.out)
    obtain ⟨bt, hbt⟩ : ∃ b, b = tallB degree us := ⟨_, rfl⟩
    rw [← hbt] at CT
    have HT5 := Lib.hid hbt
    clear hbt
    go_wp2_with fail
    with_reducible refine CT.out.mono ?_
    rintro e w6 ⟨rfl, hb⟩
    have KG := Lib.hid (KG.out.trans (hb.mono KG.out.size))
    clear hb CT
    rcases Bool.eq_false_or_eq_true bt with rfl | rfl
    ·go_wp2_with fail
     go_ret
     exact BR.yes KG.out
    clear hl
    have CT := Lib.hid (GW.out w6 KG.out)
    go_wp2_with fail
    with_reducible refine CT.out.mono ?_
    rintro e w7 ⟨rfl, hb⟩
    have KG := Lib.hid (KG.out.trans (hb.mono KG.out.size))
    clear hb CT
    have hl := HLC.out w7 KG.out
    have CT := Lib.hid (show Calls Tryz.prog 27 #[.int .i64 2, .slice xa xn xc] w7 _ from tall5 2 ⟨xa, xn, xc⟩ us w7 (HRX.out.below KG.out) HXL.out HXN.out HXS.out)
    obtain ⟨bt, hbt⟩ : ∃ b, b = tallB 2 us := ⟨_, rfl⟩
    rw [← hbt] at CT
    have HT2 := Lib.hid hbt
    clear hbt
    go_wp2_with fail
    with_reducible refine CT.out.mono ?_
    rintro e w8 ⟨rfl, hb⟩
    have KG := Lib.hid (KG.out.trans (hb.mono KG.out.size))
    clear hb CT
    rcases Bool.eq_false_or_eq_true bt with rfl | rfl
    ·go_wp2_with fail
     go_ret
     exact BR.yes KG.out
    clear hl
    go_wp2_with fail
    go_roundw
    case rel =>
     refine ⟨j + 1, by have := HJN.out; omega, rfl, fun i e he hi => ?_, KG.out⟩
     by_cases hij : i < j
     ·exact HG.out i e he hij
     ·obtain rfl : i = j := by omega
      rw [HPJ.out] at he
      obtain rfl : _ = e := Option.some.inj he
      exact ⟨NGX.out, HT5.out.symm, fun hg => HT2.out.symm⟩
    case measure => simp [intOf]; have := HJN.out; omega
   ·have hge : ¬ ((j : Int) < (n : Int)) := by omega
    have HJE := Lib.hid (show j = n by have := HJ.out; omega)
    clear hjn
    go_wp2_with fail
    go_ret
    refine BR.no KG.out ⟨by rw [List.length_map, ← HNN.out]; have := H4.out; omega, HNP.out, HTP.out.symm, fun hg => ⟨by rw [List.length_map, ← HNN.out]; have := H3.out; omega, HT3.out.symm⟩, fun us hu => ?_⟩
    obtain ⟨e, he, rfl⟩ := List.mem_map.1 hu
    obtain ⟨i, hi⟩ := List.mem_iff_getElem?.1 he
    exact HG.out i e hi (by have := (List.getElem?_eq_some_iff.1 hi).1; have := HNN.out; have := HJE.out; omega)
 ·go_wp2_with fail
  go_loopw [11] (fun i wr => ∃ j : Nat, j ≤ n ∧ i = .int .i64 j ∧ (∀ (i : Nat) (e : PV × List TV), Xs[i]? = some e → i < j → NotGreat terms e.2 ∧ tallB degree e.2 = false ∧ (growsB o (Xs.map Prod.snd) = true → tallB 2 e.2 = false)) ∧ Below w.heap.size w wr) (fun i _ => n - (intOf i).toNat)
  case atStart => exact ⟨0, Nat.zero_le _, rfl, fun i e _ h => absurd h (Nat.not_lt_zero _), KG.out⟩
  case round =>
   clear KG
   obtain ⟨j, hj, rfl, hg, hb0⟩ := hrel
   have HJ := Lib.hid hj; have HG := Lib.hid hg; have KG := Lib.hid hb0
   clear hj hg hb0
   by_cases hjn : j < n
   ·have HJN := Lib.hid hjn
    have hjl : j < Xs.length := by rw [← HNN.out]; exact hjn
    obtain ⟨pb, po, rfl, hcs⟩ := HR.out.ex (fun e => by rw [List.map_eq_nil_iff] at e; rw [e] at hjl; simp at hjl)
    obtain ⟨⟨p, us⟩, hp⟩ : ∃ p, Xs[j]? = some p := ⟨_, List.getElem?_eq_getElem hjl⟩
    have hc := hcs j p (by rw [List.getElem?_map, hp]; rfl)
    have HPJ := Lib.hid hp
    obtain ⟨k1, k2, k3, k4⟩ := HX.out _ (List.mem_of_getElem? hp)
    obtain ⟨xa, xn, xc⟩ := p
    have HLC := Lib.hid (show ∀ w', Below w.heap.size w w' → w'.cell? ⟨pb, po + j, none⟩ = some (.slice xa xn xc) from fun w' hb => (hb.cell (p := ⟨pb, po + j, none⟩) (block_lt_of_cell hc)).trans hc)
    have HRX := Lib.hid (show RT w xa us from k1); have HXL := Lib.hid (show us.length = xn from k2); have HXN := Lib.hid (show xn ≤ 9223372036854775807 from Nat.le_trans k3 (by decide)); have HXS := Lib.hid (show ∀ t ∈ us, t.m.Small from k4)
    have hlt : (j : Int) < (n : Int) := by omega
    have ek : IntKind.i64.wrap ((j : Int) + 1) = (j : Int) + 1 := IntWalk.i64_in _ (by have := HN.out; have := HNN.out; omega)
    clear hjl hp hcs hc k1 k2 k3 k4
    have hl := HLC.out wr KG.out
    obtain ⟨V1, hV1⟩ : ∃ V, V = wr.alloc (.cells #[.slice xa xn xc] 24) := ⟨_, rfl⟩
    have hb1 : Below wr.heap.size wr V1 := by rw [hV1]; exact (Below.refl _ _).alloc (Nat.le_refl _) _
    have BG : Bxs V1 wr.heap.size 24 [.slice xa xn xc] := by rw [hV1]; exact Bxs.new wr 24 [.slice xa xn xc]
    have CT := Lib.hid (pgreat_any wr.heap.size terms 1 [((⟨xa, xn, xc⟩ : PV), us)] V1 rfl (fun i e h => by match i, h with | 0, h => exact (Option.some.inj h) ▸ BG.cell (i := 0) rfl) (fun e he => by rw [List.mem_singleton.1 he]; exact ⟨(HRX.out.below KG.out).below hb1, HXL.out⟩) (by simp) HTM.out)
    have HV1 := Lib.hid hV1
    have HB1 := Lib.hid hb1
    clear hV1 hb1 BG
    go_wp2_with fail
    rw [show wr.alloc (.cells #[.slice xa xn xc] 24) = V1 from HV1.out.symm]
    with_reducible refine CT.out.mono ?_
    rintro e w5 ⟨b5, rfl, hn, hb⟩
    have KG := Lib.hid ((KG.out.trans (HB1.out.mono KG.out.size)).trans (hb.mono (KG.out.trans (HB1.out.mono KG.out.size)).size))
    have HNG := Lib.hid hn
    clear hb hn CT HV1 HB1 V1
    rcases Bool.eq_false_or_eq_true b5 with rfl | rfl
    ·go_wp2_with fail
     go_ret
     exact BR.yes KG.out
    have NGX := Lib.hid (show NotGreat terms us from HNG.out rfl _ (List.mem_singleton.2 rfl))
    clear HNG
    clear hl
    have hl := HLC.out w5 KG.out
    have CT := Lib.hid (tall5 degree ⟨xa, xn, xc⟩ us w5 (HRX.out.below KG.out) HXL.out HXN.out HXS.out)
    obtain ⟨bt, hbt⟩ : ∃ b, b = tallB degree us := ⟨_, rfl⟩
    rw [← hbt] at CT
    have HT5 := Lib.hid hbt
    clear hbt
    go_wp2_with fail
    with_reducible refine CT.out.mono ?_
    rintro e w6 ⟨rfl, hb⟩
    have KG := Lib.hid (KG.out.trans (hb.mono KG.out.size))
    clear hb CT
    rcases Bool.eq_false_or_eq_true bt with rfl | rfl
    ·go_wp2_with fail
     go_ret
     exact BR.yes KG.out
    clear hl
    have CT := Lib.hid (GW.out w6 KG.out)
    go_wp2_with fail
    with_reducible refine CT.out.mono ?_
    rintro e w7 ⟨rfl, hb⟩
    have KG := Lib.hid (KG.out.trans (hb.mono KG.out.size))
    clear hb CT
    go_wp2_with fail
    go_roundw
    case rel =>
     refine ⟨j + 1, by have := HJN.out; omega, rfl, fun i e he hi => ?_, KG.out⟩
     by_cases hij : i < j
     ·exact HG.out i e he hij
     ·obtain rfl : i = j := by omega
      rw [HPJ.out] at he
      obtain rfl : _ = e := Option.some.inj he
      exact ⟨NGX.out, HT5.out.symm, fun hg => absurd (HGG.out.trans hg) (by decide)⟩
    case measure => simp [intOf]; have := HJN.out; omega
   ·have hge : ¬ ((j : Int) < (n : Int)) := by omega
    have HJE := Lib.hid (show j = n by have := HJ.out; omega)
    clear hjn
    go_wp2_with fail
    go_ret
    refine BR.no KG.out ⟨by rw [List.length_map, ← HNN.out]; have := H4.out; omega, HNP.out, HTP.out.symm, fun hg => absurd (HGG.out.trans hg) (by decide), fun us hu => ?_⟩
    obtain ⟨e, he, rfl⟩ := List.mem_map.1 hu
    obtain ⟨i, hi⟩ := List.mem_iff_getElem?.1 he
    exact HG.out i e hi (by have := (List.getElem?_eq_some_iff.1 hi).1; have := HNN.out; have := HJE.out; omega)
structure InP (w : World) (x : PV) (ts : List TV) (m : Nat) (P : List Tm) : Prop where
 k : KP w x P
 len : P.length ≤ m
 ls : ∀ t ∈ P, LS t.2 4 1
 mo : P.map Prod.fst = ts.map TV.m
theorem InP.below {w w' : World} {x : PV} {ts : List TV} {m : Nat} {P : List Tm} (h : InP w x ts m P) (hb : Below w.heap.size w w') : InP w' x ts m P := ⟨h.k.below hb, h.len, h.ls, h.mo⟩
theorem InP.lq {w : World} {x : PV} {ts : List TV} {m : Nat} {P : List Tm} (h : InP w x ts m P) : ∀ t ∈ P, LQ t.2 4 := fun t ht => (h.ls t ht).lq (Nat.le_refl _) (by decide)
theorem InP.cd {w : World} {x : PV} {ts : List TV} {m : Nat} {P : List Tm} (h : InP w x ts m P) : CD P (5 + m) := (CD.of h.len h.ls).up (by omega)
theorem raw_in {w : World} {x : PV} {L : List TO} {m : Nat} (h : RawQ w x L) (hg : NotGreat m (L.map Prod.fst)) : (∃ P, InP w x (L.map Prod.fst) m P) ∨ BP w x := by
 have hr := h.rawP hg
 by_cases hk : okP L
 ·obtain ⟨P, hv, hc⟩ := hk
  have hkp := hr.kp hv hc
  obtain ⟨K, hK, hP⟩ := vals_spec hv
  have hin : ∀ e ∈ K, (e.1, some e.2) ∈ L := fun e he => by rw [hK]; exact List.mem_map_of_mem he
  refine Or.inl ⟨P, hkp, ?_, fun t ht => ?_, ?_⟩
  ·have h1 := hg.1
   rw [List.length_map, hK, List.length_map] at h1
   rw [← hP, List.length_map]
   exact h1
  ·rw [← hP] at ht
   obtain ⟨e, he, rfl⟩ := List.mem_map.1 ht
   have h1 : KF w e.1.c e.2 := hr.2.2.2.1 _ (hin e he)
   obtain ⟨h2, h3⟩ := hg.2 e.1 (List.mem_map_of_mem (f := Prod.fst) (hin e he))
   have h4 := (h1.lq (k := 4) ⟨h2, Nat.le_trans h3 (by decide)⟩).t
   exact ⟨h4, by rw [← h1.l.n]; exact h3⟩
  ·rw [← hP, hK, List.map_map, List.map_map, List.map_map]
   rfl
 ·exact Or.inr ⟨L, hr, hk⟩
theorem InP.tall {w : World} {x : PV} {ts : List TV} {m d : Nat} {P : List Tm} (h : InP w x ts m P) (ht : tallB d ts = false) : ∀ t ∈ P, t.1.many ≤ d := fun t hm => by
 have h1 : t.1 ∈ ts.map TV.m := by rw [← h.mo]; exact List.mem_map_of_mem hm
 obtain ⟨u, hu, e⟩ := List.mem_map.1 h1
 refine Nat.le_of_not_lt fun hlt => ?_
 have h2 : tallB d ts = true := List.any_eq_true.2 ⟨u, hu, decide_eq_true (by rw [e]; exact hlt)⟩
 rw [ht] at h2
 cases h2
theorem many_wt (m : Mo) : wt ⟨1, 1, 1, 1⟩ m = m.many := by
 show 1 * m.x + 1 * m.y + 1 * m.z + 1 * m.t = m.x + m.y + m.z + m.t
 omega
theorem deg_moF (m : Mo) : Mono.degM (moF m) = (m.many : Int) := by
 show ((m.x : Nat) : Int) + ((m.y : Nat) : Int) + ((m.z : Nat) : Int) + ((m.t : Nat) : Int) = ((m.x + m.y + m.z + m.t : Nat) : Int)
 omega
theorem graded_many {o : Int} (ho : o = 1 ∨ o = 2) {a b : Mo} (ha : a.Small) (hb : b.Small) (h : keyO o a ≤ keyO o b) : a.many ≤ b.many := by
 have k1 := Mono.key_bd (moF_small ha)
 have k2 := Mono.key_bd (moF_small hb)
 have r1 := Mono.rkey_bd (moF_small ha)
 have r2 := Mono.rkey_bd (moF_small hb)
 unfold keyO Mono.KO at h
 rcases ho with rfl | rfl
 ·rw [if_pos rfl, if_pos rfl, deg_moF, deg_moF] at h
  omega
 ·rw [if_neg (by decide), if_pos rfl, if_neg (by decide), if_pos rfl, deg_moF, deg_moF] at h
  omega
theorem key_mo (m : Mo) : Mono.key (moF m) = (m.x : Int) * 281474976710656 + (m.y : Int) * 4294967296 + (m.z : Int) * 65536 + (m.t : Int) := rfl
theorem lex_key0 {a b : Mo} (h : keyO 0 a ≤ keyO 0 b) : (a.x : Int) * 281474976710656 + (a.y : Int) * 4294967296 + (a.z : Int) * 65536 + (a.t : Int) ≤ (b.x : Int) * 281474976710656 + (b.y : Int) * 4294967296 + (b.z : Int) * 65536 + (b.t : Int) := by
 unfold keyO Mono.KO at h
 rw [if_neg (by decide), if_neg (by decide), if_neg (by decide), if_neg (by decide), key_mo, key_mo] at h
 exact h
theorem lex_wt {a b : Mo} (ha : a.many ≤ 2) (hb : b.many ≤ 2) (h : keyO 0 a ≤ keyO 0 b) : wt ⟨8, 4, 2, 1⟩ a ≤ wt ⟨8, 4, 2, 1⟩ b := by
 have h := lex_key0 h
 unfold Mo.many at ha hb
 show 8 * a.x + 4 * a.y + 2 * a.z + 1 * a.t ≤ 8 * b.x + 4 * b.y + 2 * b.z + 1 * b.t
 rcases Nat.lt_trichotomy a.x b.x with hx | hx | hx
 ·omega
 ·rcases Nat.lt_trichotomy a.y b.y with hy | hy | hy
  ·omega
  ·rcases Nat.lt_trichotomy a.z b.z with hz | hz | hz <;> omega
  ·omega
 ·omega
theorem lex_head {t : Tm} {r : List Tm} (h : Canon (t :: r)) (hs : ∀ u ∈ t :: r, u.1.Small) : Lead (keyO 0) (t :: r) t := by
 refine ⟨List.mem_cons_self .., fun u hu => ?_⟩
 rcases List.mem_cons.1 hu with rfl | hu
 ·exact Int.le_refl _
 ·have h1 := h.head u hu
  obtain ⟨s1, s2, s3, s4⟩ := hs t (List.mem_cons_self ..)
  obtain ⟨q1, q2, q3, q4⟩ := hs u (List.mem_cons_of_mem _ hu)
  unfold keyO Mono.KO
  rw [if_neg (by decide), if_neg (by decide), if_neg (by decide), if_neg (by decide), key_mo, key_mo]
  unfold Mo.lt at h1
  omega
theorem ds_ex (o : Int) : ∀ (qs : List (PV × List Tm)), (∀ q ∈ qs, q.2 ≠ []) → ∃ ds : List Dv, ds.map Prod.snd = qs.map Prod.snd ∧ ∀ d ∈ ds, Lead (keyO o) d.2 d.1
 | [], _ => ⟨[], rfl, fun d hd => by cases hd⟩
 | q :: r, h => by
  obtain ⟨ds, h1, h2⟩ := ds_ex o r fun q hq => h q (List.mem_cons_of_mem _ hq)
  obtain ⟨t, ht⟩ := lead_ex (keyO o) (h q (List.mem_cons_self ..))
  refine ⟨(t, q.2) :: ds, by rw [List.map_cons, List.map_cons, h1], fun d hd => ?_⟩
  rcases List.mem_cons.1 hd with rfl | hd
  ·exact ht
  ·exact h2 d hd
structure Wts (o : Int) (ds : List Dv) (P : List Tm) (c : Mo) (W : Nat) : Prop where
 pos : c.pos
 d : ∀ d ∈ ds, ∀ t ∈ d.2, wt c t.1 ≤ wt c d.1.1
 p : ∀ t ∈ P, wt c t.1 ≤ W
structure InD (w : World) (terms : Nat) (Ls : List (List TV)) (qs : List (PV × List Tm)) : Prop where
 len : qs.length = Ls.length
 i : ∀ (i : Nat) (q : PV × List Tm) (us : List TV), qs[i]? = some q → Ls[i]? = some us → InP w q.1 us terms q.2
theorem InD.all {w : World} {terms : Nat} {Ls : List (List TV)} {qs : List (PV × List Tm)} (h : InD w terms Ls qs) {q : PV × List Tm} (hq : q ∈ qs) : ∃ us ∈ Ls, InP w q.1 us terms q.2 := by
 obtain ⟨i, hi⟩ := List.mem_iff_getElem?.1 hq
 have hil := (List.getElem?_eq_some_iff.1 hi).1
 have h2 := List.getElem?_eq_getElem (l := Ls) (i := i) (by rw [← h.len]; exact hil)
 exact ⟨_, List.mem_of_getElem? h2, h.i i q _ hi h2⟩
theorem wts_ex {w : World} {o : Int} (ho0 : 0 ≤ o) (ho : o ≤ 2) {terms degree : Nat} {p : PV} {ts : List TV} {P : List Tm} {Ls : List (List TV)} {qs : List (PV × List Tm)} {ds : List Dv} (hg : DGr o terms degree ts Ls) (hp : InP w p ts terms P) (hq : InD w terms Ls qs)
  (hds : ds.map Prod.snd = qs.map Prod.snd) (hl : ∀ d ∈ ds, Lead (keyO o) d.2 d.1) : Wts o ds P ⟨1, 1, 1, 1⟩ degree ∨ Wts o ds P ⟨8, 4, 2, 1⟩ 24 := by
 have hdq : ∀ d ∈ ds, ∃ us ∈ Ls, ∃ q ∈ qs, q.2 = d.2 ∧ InP w q.1 us terms q.2 := fun d hd => by
  have h1 : d.2 ∈ qs.map Prod.snd := by rw [← hds]; exact List.mem_map_of_mem hd
  obtain ⟨q, hq1, e⟩ := List.mem_map.1 h1
  obtain ⟨us, hu, hi⟩ := hq.all hq1
  exact ⟨us, hu, q, hq1, e, hi⟩
 by_cases h12 : o = 1 ∨ o = 2
 ·refine Or.inl ⟨⟨by decide, by decide, by decide, by decide⟩, fun d hd t ht => ?_, fun t ht => by rw [many_wt]; exact hp.tall hg.tp t ht⟩
  obtain ⟨us, hu, q, hq1, e, hi⟩ := hdq d hd
  rw [many_wt, many_wt]
  have hk := hi.k
  rw [e] at hk
  exact graded_many h12 (hk.small t ht) (hk.small d.1 (hl d hd).1) ((hl d hd).2 t ht)
 ·obtain rfl : o = 0 := by omega
  by_cases hgr : growsB 0 Ls = true
  ·refine Or.inr ⟨⟨by decide, by decide, by decide, by decide⟩, fun d hd t ht => ?_, fun t ht => ?_⟩
   ·obtain ⟨us, hu, q, hq1, e, hi⟩ := hdq d hd
    have h2 := hi.tall ((hg.l us hu).2.2 hgr)
    rw [e] at h2
    exact lex_wt (h2 t ht) (h2 d.1 (hl d hd).1) ((hl d hd).2 t ht)
   ·have h2 := hp.tall (hg.gp hgr).2 t ht
    unfold Mo.many at h2
    show 8 * t.1.x + 4 * t.1.y + 2 * t.1.z + 1 * t.1.t ≤ 24
    omega
  ·have hgr : growsB 0 Ls = false := by simpa using hgr
   refine Or.inl ⟨⟨by decide, by decide, by decide, by decide⟩, fun d hd t ht => ?_, fun t ht => by rw [many_wt]; exact hp.tall hg.tp t ht⟩
   obtain ⟨us, hu, q, hq1, e, hi⟩ := hdq d hd
   rw [many_wt, many_wt]
   have hk := hi.k
   have hmo := hi.mo
   rw [e] at hk hmo
   have hld := hl d hd
   match hD : d.2, ht, hk, hmo, hld with
   | [], ht, _, _, _ => cases ht
   | t0 :: r, ht, hk, hmo, hld =>
    have hh := lex_head hk.canon hk.small
    have e1 : d.1 = t0 := lead_uniq (keyO_key 0) hk.canon (fun t ht => ⟨(hk.small t ht).1, (hk.small t ht).2.1, (hk.small t ht).2.2.1, (hk.small t ht).2.2.2⟩) hld hh
    rw [e1]
    match us, hu, hmo with
    | [], _, hmo => simp at hmo
    | u0 :: ur, hu, hmo =>
     rw [List.map_cons, List.map_cons, List.cons.injEq] at hmo
     rcases List.mem_cons.1 ht with rfl | ht
     ·exact Nat.le_refl _
     ·have h1 : t.1 ∈ ur.map TV.m := by rw [← hmo.2]; exact List.mem_map_of_mem ht
      obtain ⟨u, hur, e2⟩ := List.mem_map.1 h1
      refine Nat.le_of_not_lt fun hlt => ?_
      have h2 : growsB 0 Ls = true := by
       unfold growsB
       rw [Bool.and_eq_true]
       refine ⟨rfl, List.any_eq_true.2 ⟨u0 :: ur, hu, List.any_eq_true.2 ⟨u, hur, decide_eq_true ?_⟩⟩⟩
       rw [e2, ← hmo.1]
       exact hlt
      rw [hgr] at h2
      cases h2
theorem box_1_6 : (boxM ⟨1, 1, 1, 1⟩ 6).length ≤ 656 := by decide +kernel
theorem box_8_24 : (boxM ⟨8, 4, 2, 1⟩ 24).length ≤ 656 := by decide +kernel
theorem Mo.le.small {m : Mo} {e : Nat} (h : m.le e) (he : e ≤ 65535) : m.Small := ⟨Nat.le_trans h.1 he, Nat.le_trans h.2.1 he, Nat.le_trans h.2.2.1 he, Nat.le_trans h.2.2.2 he⟩
theorem gi_divP {o : Int} {ds : List Dv} {P : List Tm} {c : Mo} {W E nd k0 g kd G k N : Nat} {top : Int} (hd : Dvb (keyO o) ds c W E nd kd g) (hG : g + kd + 1 ≤ G) (hN : (boxM c W).length ≤ N) (hk : k0 + G * N + kd ≤ k)
  (h1 : 2 * (k + 2 * kd + 1) + 8 ≤ 800000) (h2 : nd * (k + 2 * kd + 5) ≤ 900000) (h3 : N ≤ 400000) (h4 : nd ≤ 100000) :
  DivP o ds (GI (keyO o) ds P c W k0 G kd top) (fun s => leftM (keyO o) (boxM c W) s.p) k kd nd N where
 lq := fun s h => by
  have hb : k0 + G * ((boxM c W).length - leftM (keyO o) (boxM c W) s.p) + kd ≤ k := by
   have := Nat.mul_le_mul_left G (Nat.le_trans (Nat.sub_le (boxM c W).length (leftM (keyO o) (boxM c W) s.p)) hN)
   omega
  refine ⟨fun t ht => (h.cd.lq t ht).up (by omega), fun t ht => (h.r t ht).1.up (by omega), fun q hq t ht => ?_⟩
  obtain ⟨i, hi⟩ := List.mem_iff_getElem?.1 hq
  have hil := (List.getElem?_eq_some_iff.1 hi).1
  exact (h.o i _ q (List.getElem?_eq_getElem (l := ds) (i := i) (by rw [← h.al.len]; exact hil)) hi t ht).1.up (by omega)
 len := fun s h => by
  refine ⟨Nat.le_trans (canon_len h.al.cp fun t ht => h.box hd.pos ht) hN, Nat.le_trans (canon_len h.al.cr fun t ht => boxM_mem hd.pos (h.r t ht).2.1) hN, fun q hq => Nat.le_trans (canon_len (h.al.co q hq) fun t ht => ?_) hN⟩
  obtain ⟨i, hi⟩ := List.mem_iff_getElem?.1 hq
  have hil := (List.getElem?_eq_some_iff.1 hi).1
  exact boxM_mem hd.pos (h.o i _ q (List.getElem?_eq_getElem (l := ds) (i := i) (by rw [← h.al.len]; exact hil)) hi t ht).2.1
 step := fun s s' h _ _ _ _ hs => h.step hd hG hs
 dl := fun d hm => ⟨hd.lq d hm, hd.len d hm, hd.d.lead d hm⟩
 hk := h1
 hkk := h2
 hn := h3
 hnd := h4
theorem DivP.also {o : Int} {ds : List Dv} {Inv : DS → Prop} {μ : DS → Nat} {k kd nd n : Nat} (h : DivP o ds Inv μ k kd nd n) (J : DS → Prop) (hJ : ∀ s s', Inv s → J s → Step (keyO o) ds s s' → J s') : DivP o ds (fun s => Inv s ∧ J s) μ k kd nd n where
 lq := fun s hs => h.lq s hs.1
 len := fun s hs => h.len s hs.1
 step := fun s s' hs h1 h2 h3 h4 h5 => ⟨⟨(h.step s s' hs.1 h1 h2 h3 h4 h5).1, hJ s s' hs.1 hs.2 h5⟩, (h.step s s' hs.1 h1 h2 h3 h4 h5).2⟩
 dl := h.dl
 hk := h.hk
 hkk := h.hkk
 hn := h.hn
 hnd := h.hnd
structure DGood (w : World) (o : Int) (terms : Nat) (p : PV) (ts : List TV) (P : List Tm) (Ls : List (List TV)) (qs : List (PV × List Tm)) (ds : List Dv) : Prop where
 o2 : o ≤ 2
 p : InP w p ts terms P
 q : InD w terms Ls qs
 ne : ∀ q ∈ qs, q.2 ≠ []
 e : ds.map Prod.snd = qs.map Prod.snd
 lead : ∀ d ∈ ds, Lead (keyO o) d.2 d.1
theorem DGood.of {w : World} {o : Int} {terms : Nat} {p : PV} {ts : List TV} {P : List Tm} {Ls : List (List TV)} {qs : List (PV × List Tm)} {ds : List Dv} (h : DGood w o terms p ts P Ls qs ds) {d : Dv} (hd : d ∈ ds) : ∃ us ∈ Ls, ∃ q ∈ qs, q.2 = d.2 ∧ InP w q.1 us terms q.2 := by
 have h1 : d.2 ∈ qs.map Prod.snd := by rw [← h.e]; exact List.mem_map_of_mem hd
 obtain ⟨q, hq1, e⟩ := List.mem_map.1 h1
 obtain ⟨us, hu, hi⟩ := h.q.all hq1
 exact ⟨us, hu, q, hq1, e, hi⟩
theorem DGood.len {w : World} {o : Int} {terms : Nat} {p : PV} {ts : List TV} {P : List Tm} {Ls : List (List TV)} {qs : List (PV × List Tm)} {ds : List Dv} (h : DGood w o terms p ts P Ls qs ds) : ds.length = qs.length := by
 have := congrArg List.length h.e
 rw [List.length_map, List.length_map] at this
 exact this
theorem DGood.below {w w' : World} {o : Int} {terms : Nat} {p : PV} {ts : List TV} {P : List Tm} {Ls : List (List TV)} {qs : List (PV × List Tm)} {ds : List Dv} (h : DGood w o terms p ts P Ls qs ds) (hb : Below w.heap.size w w') : DGood w' o terms p ts P Ls qs ds :=
 ⟨h.o2, h.p.below hb, ⟨h.q.len, fun i q us h1 h2 => (h.q.i i q us h1 h2).below hb⟩, h.ne, h.e, h.lead⟩
theorem DGood.dvb {w : World} {o : Int} {terms degree : Nat} {p : PV} {ts : List TV} {P : List Tm} {Ls : List (List TV)} {qs : List (PV × List Tm)} {ds : List Dv} (h : DGood w o terms p ts P Ls qs ds) (hg : DGr o terms degree ts Ls) {c : Mo} {W : Nat} (hw : Wts o ds P c W) (hW : degree + W ≤ 65535) :
  Dvb (keyO o) ds c W degree terms 4 (5 + terms) where
 d := {
  key := keyO_key o
  can := fun d hd => by
   obtain ⟨us, _, q, _, e, hi⟩ := h.of hd
   rw [← e]; exact hi.k.canon
  lead := h.lead
  ex := fun d hd t ht => by
   obtain ⟨us, hu, q, _, e, hi⟩ := h.of hd
   have h1 := hi.tall (hg.l us hu).2.1 t (by rw [e]; exact ht)
   unfold Mo.many at h1
   exact ⟨by omega, by omega, by omega, by omega⟩ }
 wt := hw.d
 cd := fun d hd => by
  obtain ⟨us, _, q, _, e, hi⟩ := h.of hd
  rw [← e]; exact hi.cd
 lq := fun d hd t ht => by
  obtain ⟨us, _, q, _, e, hi⟩ := h.of hd
  exact hi.lq t (by rw [e]; exact ht)
 len := fun d hd => by
  obtain ⟨us, _, q, _, e, hi⟩ := h.of hd
  rw [← e]; exact hi.len
 pos := hw.pos
 small := hW
theorem dno_ovf {o : Int} {ds : List Dv} {P : List Tm} {c : Mo} {W E nd k0 g kd G : Nat} {top : Int} {s : DS} {t : Tm} {d : Dv} (hd : Dvb (keyO o) ds c W E nd kd g) (h : GI (keyO o) ds P c W k0 G kd top s) (ht : t ∈ s.p) (hm : d ∈ ds) : ¬ Ovf d.2 [byT t d.1] := by
 rintro ⟨a, ha, u, hu, hn⟩
 rw [List.mem_singleton.1 hu] at hn
 have h1 := hd.d.ex d hm a ha
 have h2 : (t.1.quo d.1.1).le W := Mo.quo_le (wt_le hd.pos (h.w t ht))
 have h3 := hd.small
 refine hn ?_
 obtain ⟨a1, a2, a3, a4⟩ := h1
 obtain ⟨b1, b2, b3, b4⟩ := h2
 exact ⟨by show a.1.x + (t.1.quo d.1.1).x ≤ 65535; omega, by show a.1.y + (t.1.quo d.1.1).y ≤ 65535; omega, by show a.1.z + (t.1.quo d.1.1).z ≤ 65535; omega, by show a.1.t + (t.1.quo d.1.1).t ≤ 65535; omega⟩
def DivD (w : World) (Inv : DS → Prop) (e : Ending) (w' : World) : Prop :=
 ∃ (v : Value) (zs : List PV) (r : PV) (s : DS), e = .returned (.tuple #[v, r.v, .int .i64 0]) ∧ OQ w' w.heap.size v zs ∧ zs.length = s.os.length ∧ (∀ (i : Nat) (z : PV) (q : List Tm), zs[i]? = some z → s.os[i]? = some q → DP w' w.heap.size z q) ∧ DP w' w.heap.size r s.r ∧ Inv s ∧ s.p = [] ∧ Below w.heap.size w w'
theorem DivR.done {w w' : World} {o : Int} {ds : List Dv} {Inv : DS → Prop} {e : Ending} (h : DivR w o ds Inv e w') (hn : ∀ s t i d, Inv s → Lead (keyO o) s.p t → Takes ds t.1 i d → ¬ Ovf d.2 [byT t d.1]) : DivD w Inv e w' := by
 rcases h with h | ⟨s, t, i, d, _, h1, h2, h3, h4, _⟩
 ·exact h
 ·exact absurd h4 (hn s t i d h1 h2 h3)
def RefD (w : World) (o : Int) (p : PV) (ps : List PV) (code : Int) : Prop :=
 ∀ (w1 : World) (a : Option Addr) (c : Nat) (ps2 : List PV), Below w.heap.size w w1 → (∀ x ∈ ps2, x ∈ ps) → (ps ++ ps2).length ≤ 1000 → RS w1 a (ps ++ ps2) →
  Calls Tryz.prog 10 #[.int .u8 o, p.v, .slice a (ps ++ ps2).length c] w1 fun e w' => e = .returned (.tuple #[.slice none 0 0, .slice none 0 0, .int .i64 code]) ∧ Below w1.heap.size w1 w'
theorem first_or {A B : Nat → Prop} : ∀ {n : Nat}, (∀ i, i < n → A i ∨ B i) → (∀ i, i < n → A i) ∨ ∃ k, k < n ∧ B k ∧ ∀ i, i < k → A i
 | 0, _ => Or.inl fun i hi => absurd hi (Nat.not_lt_zero i)
 | n + 1, h => by
  rcases first_or (n := n) fun i hi => h i (Nat.lt_succ_of_lt hi) with h1 | ⟨k, hk, h1, h2⟩
  ·rcases h n (Nat.lt_succ_self n) with h2 | h2
   ·refine Or.inl fun i hi => ?_
    rcases Nat.lt_or_ge i n with h3 | h3
    ·exact h1 i h3
    ·obtain rfl : i = n := by omega
     exact h2
   ·exact Or.inr ⟨n, Nat.lt_succ_self n, h2, h1⟩
  ·exact Or.inr ⟨k, Nat.lt_succ_of_lt hk, h1, h2⟩
theorem list_in {w : World} {m : Nat} : ∀ {Xs : List (PV × List TO)}, (∀ e ∈ Xs, ∃ P, InP w e.1 (e.2.map Prod.fst) m P) → ∃ qs : List (PV × List Tm), qs.map Prod.fst = Xs.map Prod.fst ∧ InD w m (Xs.map fun e => e.2.map Prod.fst) qs
 | [], _ => ⟨[], rfl, rfl, fun i q us h => by simp at h⟩
 | e :: r, h => by
  obtain ⟨qs, h1, h2⟩ := list_in (Xs := r) fun x hx => h x (List.mem_cons_of_mem _ hx)
  obtain ⟨P, hP⟩ := h e (List.mem_cons_self ..)
  refine ⟨(e.1, P) :: qs, by rw [List.map_cons, List.map_cons, h1], by rw [List.map_cons, List.length_cons, List.length_cons, h2.len], fun i q us hq hu => ?_⟩
  cases i with
  | zero =>
   cases hq; cases hu
   exact hP
  | succ i => exact h2.i i q us hq hu
theorem raw_bad {w : World} {x : PV} {L : List TO} {m : Nat} (h : RawQ w x L) (hg : NotGreat m (L.map Prod.fst)) (hm : m ≤ 1000) (hb : BP w x) : Chk w x false := fun w1 h1 =>
 check_b (hb.below h1) (by
  have h2 := hg.1
  rw [List.length_map, h.2.1] at h2
  omega)
theorem InP.fine {w : World} {x : PV} {ts : List TV} {m : Nat} {P : List Tm} (h : InP w x ts m P) (hm : m ≤ 1000) : Chk w x true := fun w1 h1 =>
 check_k (h.k.below h1) (fun t ht => (h.lq t ht).up (by decide)) (by
  have h2 := h.len
  rw [h.k.len]
  omega)
theorem sort_in (o : Int) (p : PV) (L : List TO) (Xs : List (PV × List TO)) (m : Nat) (w : World) (hp : RawQ w p L) (hX : ∀ e ∈ Xs, RawQ w e.1 e.2) (hgp : NotGreat m (L.map Prod.fst)) (hgl : ∀ e ∈ Xs, NotGreat m (e.2.map Prod.fst)) (hm : m ≤ 1000) :
  (∃ (P : List Tm) (qs : List (PV × List Tm)) (ds : List Dv), DGood w o m p (L.map Prod.fst) P (Xs.map fun e => e.2.map Prod.fst) qs ds ∧ qs.map Prod.fst = Xs.map Prod.fst) ∨ ∃ code : Int, (code = 1 ∨ code = 6) ∧ RefD w o p (Xs.map Prod.fst) code := by
 by_cases ho : o ≤ 2
 ·rcases raw_in hp hgp with ⟨P, hP⟩ | hb
  ·have hc := hP.fine hm
   rcases first_or (n := Xs.length) (A := fun i => ∀ e, Xs[i]? = some e → ∃ Q, InP w e.1 (e.2.map Prod.fst) m Q) (B := fun i => ∀ e, Xs[i]? = some e → BP w e.1) (fun i hi => by
    have he := List.mem_of_getElem? (List.getElem?_eq_getElem hi)
    rcases raw_in (hX _ he) (hgl _ he) with h | h
    ·refine Or.inl fun e h1 => ?_
     rw [List.getElem?_eq_getElem hi] at h1
     injection h1 with h1
     rw [← h1]; exact h
    ·refine Or.inr fun e h1 => ?_
     rw [List.getElem?_eq_getElem hi] at h1
     injection h1 with h1
     rw [← h1]; exact h) with hall | ⟨k, hk, h1, h2⟩
   ·obtain ⟨qs, hq1, hq2⟩ := list_in (w := w) (m := m) (Xs := Xs) fun e he => by
     obtain ⟨i, hi⟩ := List.mem_iff_getElem?.1 he
     exact hall i (List.getElem?_eq_some_iff.1 hi).1 e hi
    rcases first_or (n := qs.length) (A := fun i => ∀ q, qs[i]? = some q → q.2 ≠ []) (B := fun i => ∀ q, qs[i]? = some q → q.2 = []) (fun i hi => by
     rw [List.getElem?_eq_getElem hi]
     by_cases h : (qs[i]).2 = []
     ·exact Or.inr fun q hq => by injection hq with hq; rw [← hq]; exact h
     ·exact Or.inl fun q hq => by injection hq with hq; rw [← hq]; exact h) with hne | ⟨k, hk, h1, h2⟩
    ·have hne' : ∀ q ∈ qs, q.2 ≠ [] := fun q hq => by
      obtain ⟨i, hi⟩ := List.mem_iff_getElem?.1 hq
      exact hne i (List.getElem?_eq_some_iff.1 hi).1 q hi
     obtain ⟨ds, hd1, hd2⟩ := ds_ex o qs hne'
     exact Or.inl ⟨P, qs, ds, ⟨ho, hP, hq2, hne', hd1, hd2⟩, hq1⟩
    ·refine Or.inr ⟨6, Or.inr rfl, fun w1 a c ps2 hb hin hlen hr => ?_⟩
     rw [← hq1] at hin hlen hr ⊢
     have hfa : ∃ qs2 : List (PV × List Tm), qs2.map Prod.fst = ps2 ∧ ∀ q ∈ qs2, q ∈ qs := by
      clear hlen hr
      induction ps2 with
      | nil => exact ⟨[], rfl, fun q hq => by cases hq⟩
      | cons x r ih =>
       obtain ⟨qs2, g1, g2⟩ := ih fun y hy => hin y (List.mem_cons_of_mem _ hy)
       obtain ⟨q, hq, e⟩ := List.mem_map.1 (hin x (List.mem_cons_self ..))
       refine ⟨q :: qs2, by rw [List.map_cons, g1, e], fun z hz => ?_⟩
       rcases List.mem_cons.1 hz with rfl | hz
       ·exact hq
       ·exact g2 z hz
     obtain ⟨qs2, g1, g2⟩ := hfa
     have e1 : qs.map Prod.fst ++ ps2 = (qs ++ qs2).map Prod.fst := by rw [List.map_append, g1]
     rw [e1] at hlen hr ⊢
     rw [List.length_map] at hlen ⊢
     refine div_no6 o p a c (qs ++ qs2) k w1 ho (fun w2 hb2 => hc w2 (hb.trans (hb2.mono hb.size))) hr hlen (by rw [List.length_append]; omega) (fun q hq => ?_) (fun i q hi hq => ?_) (fun q hq => ?_)
     ·have hq' : q ∈ qs := (List.mem_append.1 hq).elim id (g2 q)
      obtain ⟨us, _, hi⟩ := hq2.all hq'
      refine ⟨hi.k.below hb, fun t ht => (hi.lq t ht).up (by decide), ?_⟩
      have := hi.len
      rw [hi.k.len]
      omega
     ·rw [List.getElem?_append_left (by omega)] at hq
      exact h2 i hi q hq
     ·rw [List.getElem?_append_left hk] at hq
      exact h1 q hq
   ·refine Or.inr ⟨1, Or.inl rfl, fun w1 a c ps2 hb hin hlen hr => ?_⟩
    have hkl : k < (Xs.map Prod.fst).length := by rw [List.length_map]; exact hk
    refine div_no3 o p a c _ k w1 ho (fun w2 hb2 => hc w2 (hb.trans (hb2.mono hb.size))) hr hlen (by rw [List.length_append]; omega) (fun i x hi hx => ?_) (fun x hx => ?_)
    ·rw [List.getElem?_append_left (by omega), List.getElem?_map] at hx
     obtain ⟨e, he, rfl⟩ := Option.map_eq_some_iff.1 hx
     obtain ⟨Q, hQ⟩ := h2 i hi e he
     exact fun w2 hb2 => hQ.fine hm w2 (hb.trans (hb2.mono hb.size))
    ·rw [List.getElem?_append_left hkl, List.getElem?_map] at hx
     obtain ⟨e, he, rfl⟩ := Option.map_eq_some_iff.1 hx
     have hem := List.mem_of_getElem? he
     exact fun w2 hb2 => raw_bad (hX e hem) (hgl e hem) hm (h1 e he) w2 (hb.trans (hb2.mono hb.size))
  ·exact Or.inr ⟨1, Or.inl rfl, fun w1 a c ps2 h1 _ _ _ => div_no2 o p _ w1 ho fun w2 hb2 => raw_bad hp hgp hm hb w2 (h1.trans (hb2.mono h1.size))⟩
 ·exact Or.inr ⟨1, Or.inl rfl, fun w1 a c ps2 _ _ _ _ => div_no1 o p _ w1 (by omega)⟩
def leadF (K : Mo → Int) (P : List Tm) : Option Tm := P.find? fun t => P.all fun s => decide (K s.1 ≤ K t.1)
def takesF : List Dv → Mo → Nat → Option (Nat × Dv)
 | [], _, _ => none
 | d :: r, m, i => if d.1.1.stands m then some (i, d) else takesF r m (i + 1)
def stepF (K : Mo → Int) (ds : List Dv) (s : DS) : DS := match leadF K s.p with
 | none => s
 | some t => match takesF ds t.1 0 with
  | some (i, d) => hitS s t i d
  | none => restS s t
theorem takesF_some {m : Mo} : ∀ {ds : List Dv} {k i : Nat} {d : Dv}, takesF ds m k = some (i, d) → ∃ j, i = k + j ∧ Takes ds m j d
 | [], _, _, _, h => by cases h
 | e :: r, k, i, d, h => by
  unfold takesF at h
  by_cases he : e.1.1.stands m
  ·rw [if_pos he] at h
   cases h
   exact ⟨0, rfl, rfl, he, fun j _ hj => absurd hj (Nat.not_lt_zero j)⟩
  ·rw [if_neg he] at h
   obtain ⟨j, h1, h2, h3, h4⟩ := takesF_some h
   refine ⟨j + 1, by omega, h2, h3, fun l f hl hf => ?_⟩
   cases l with
   | zero => cases hf; exact he
   | succ l => exact h4 l f (by omega) hf
theorem takesF_none {m : Mo} : ∀ {ds : List Dv} {k : Nat}, takesF ds m k = none → ∀ d ∈ ds, ¬ d.1.1.stands m
 | [], _, _, d, hd => by cases hd
 | e :: r, k, h, d, hd => by
  unfold takesF at h
  by_cases he : e.1.1.stands m
  ·rw [if_pos he] at h; cases h
  ·rw [if_neg he] at h
   rcases List.mem_cons.1 hd with rfl | hd
   ·exact he
   ·exact takesF_none h d hd
theorem leadF_eq {K : Mo → Int} (hK : Key 65535 K) {P : List Tm} (hP : Canon P) (hs : ∀ t ∈ P, t.1.le 65535) {t : Tm} (h : Lead K P t) : leadF K P = some t := by
 have h1 : (leadF K P).isSome := List.find?_isSome.2 ⟨t, h.1, List.all_eq_true.2 fun s hs => decide_eq_true (h.2 s hs)⟩
 obtain ⟨u, hu⟩ := Option.isSome_iff_exists.1 h1
 have h2 := List.find?_some hu
 have h3 := List.mem_of_find?_eq_some hu
 rw [hu, lead_uniq hK hP hs ⟨h3, fun s hs => of_decide_eq_true (List.all_eq_true.1 h2 s hs)⟩ h]
theorem stepF_eq {K : Mo → Int} (hK : Key 65535 K) {ds : List Dv} {s s' : DS} (hP : Canon s.p) (hs : ∀ t ∈ s.p, t.1.le 65535) (h : Step K ds s s') : s' = stepF K ds s := by
 cases h with
 | @hit t i d hl ht =>
  unfold stepF
  rw [leadF_eq hK hP hs hl]
  show _ = match takesF ds t.1 0 with
   | some (i, d) => hitS s t i d
   | none => restS s t
  match hf : takesF ds t.1 0 with
  | none => exact absurd ht.2.1 (takesF_none hf d (List.mem_of_getElem? ht.1))
  | some (j, e) =>
   obtain ⟨k, h1, h2⟩ := takesF_some hf
   obtain ⟨rfl, rfl⟩ := h2.uniq ht
   obtain rfl : j = k := by omega
   rfl
 | @rest t hl ht =>
  unfold stepF
  rw [leadF_eq hK hP hs hl]
  show _ = match takesF ds t.1 0 with
   | some (i, d) => hitS s t i d
   | none => restS s t
  match hf : takesF ds t.1 0 with
  | none => rfl
  | some (j, e) =>
   obtain ⟨k, h1, h2⟩ := takesF_some hf
   exact absurd h2.2.1 (ht e (List.mem_of_getElem? h2.1))
theorem Step.ne {K : Mo → Int} {ds : List Dv} {s s' : DS} (h : Step K ds s s') : s.p ≠ [] := by
 cases h with
 | hit hl _ => exact fun e => by have := hl.1; rw [e] at this; cases this
 | rest hl _ => exact fun e => by have := hl.1; rw [e] at this; cases this
def dstate (s t : DS) : Bool := decide (s.p = t.p) && decide (s.r = t.r) && decide (s.os = t.os)
theorem dstate_eq {s t : DS} (h : dstate s t = true) : s = t := by
 unfold dstate at h
 rw [Bool.and_eq_true, Bool.and_eq_true] at h
 obtain ⟨p, r, o⟩ := s
 obtain ⟨p', r', o'⟩ := t
 obtain ⟨⟨h1, h2⟩, h3⟩ := h
 have h1 : p = p' := of_decide_eq_true h1
 have h2 : r = r' := of_decide_eq_true h2
 have h3 : o = o' := of_decide_eq_true h3
 rw [h1, h2, h3]
def iterS (K : Mo → Int) (ds : List Dv) : Nat → DS → DS
 | 0, s => s
 | n + 1, s => stepF K ds (iterS K ds n s)
def tinyQ (q : Rat) : Bool := decide (q.num.natAbs < 1000000000) && decide (q.den < 1000000000)
def tinyP (P : List Tm) : Bool := P.all (fun t => tinyQ t.2 && decide (t.1.x ≤ 100) && decide (t.1.y ≤ 100) && decide (t.1.z ≤ 100) && decide (t.1.t ≤ 100)) && decide (P.length ≤ 100)
theorem tinyQ_lq {q : Rat} (h : tinyQ q = true) : LQ q 1 := by
 unfold tinyQ at h
 rw [Bool.and_eq_true] at h
 have h1 := of_decide_eq_true h.1
 have h2 := of_decide_eq_true h.2
 have hl : ∀ m : Nat, m < 1000000000 → lenB m ≤ 1 := fun m hm => by
  by_cases h0 : m = 0
  ·rw [h0, lenB_zero]; omega
  ·rw [lenB_pos h0, Nat.div_eq_of_lt hm, lenB_zero]; omega
 exact ⟨hl _ h1, hl _ (by rw [Int.natAbs_natCast]; exact h2)⟩
theorem tinyP_spec {P : List Tm} (h : tinyP P = true) : (∀ t ∈ P, LQ t.2 1 ∧ t.1.le 100) ∧ P.length ≤ 100 := by
 unfold tinyP at h
 rw [Bool.and_eq_true] at h
 refine ⟨fun t ht => ?_, of_decide_eq_true h.2⟩
 have h1 := List.all_eq_true.1 h.1 t ht
 simp only [Bool.and_eq_true, decide_eq_true_eq] at h1
 obtain ⟨⟨⟨⟨h1, h2⟩, h3⟩, h4⟩, h5⟩ := h1
 exact ⟨tinyQ_lq h1, h2, h3, h4, h5⟩
def ranB (o : Int) (ds : List Dv) (n : Nat) (s0 : DS) : Bool :=
 ((List.range (n + 1)).all fun i => tinyP (iterS (keyO o) ds i s0).p && tinyP (iterS (keyO o) ds i s0).r && (iterS (keyO o) ds i s0).os.all tinyP) && decide ((iterS (keyO o) ds n s0).p = []) &&
  (ds.all fun d => tinyP d.2 && decide (leadF (keyO o) d.2 = some d.1)) &&
  (List.range n).all fun i => decide (leftM (keyO o) (boxM ⟨1, 1, 1, 1⟩ 3) (iterS (keyO o) ds (i + 1) s0).p < leftM (keyO o) (boxM ⟨1, 1, 1, 1⟩ 3) (iterS (keyO o) ds i s0).p)
theorem ran_divP {o : Int} {ds : List Dv} {n : Nat} {s0 : DS} (h : ranB o ds n s0 = true) :
  DivP o ds (fun s => ∃ i, i ≤ n ∧ s = iterS (keyO o) ds i s0) (fun s => leftM (keyO o) (boxM ⟨1, 1, 1, 1⟩ 3) s.p) 1 1 100 100 := by
 unfold ranB at h
 rw [Bool.and_eq_true, Bool.and_eq_true, Bool.and_eq_true] at h
 obtain ⟨⟨⟨h1, h2⟩, h3⟩, h9⟩ := h
 have h2 := of_decide_eq_true h2
 have hs : ∀ i, i ≤ n → tinyP (iterS (keyO o) ds i s0).p = true ∧ tinyP (iterS (keyO o) ds i s0).r = true ∧ ∀ q ∈ (iterS (keyO o) ds i s0).os, tinyP q = true := fun i hi => by
  have h4 := List.all_eq_true.1 h1 i (List.mem_range.2 (by omega))
  rw [Bool.and_eq_true, Bool.and_eq_true] at h4
  exact ⟨h4.1.1, h4.1.2, fun q hq => List.all_eq_true.1 h4.2 q hq⟩
 refine ⟨?_, ?_, ?_, ?_, by decide, by decide, by decide, by decide⟩
 ·rintro s ⟨i, hi, rfl⟩
  obtain ⟨a, b, c⟩ := hs i hi
  exact ⟨fun t ht => ((tinyP_spec a).1 t ht).1, fun t ht => ((tinyP_spec b).1 t ht).1, fun q hq t ht => ((tinyP_spec (c q hq)).1 t ht).1⟩
 ·rintro s ⟨i, hi, rfl⟩
  obtain ⟨a, b, c⟩ := hs i hi
  exact ⟨(tinyP_spec a).2, (tinyP_spec b).2, fun q hq => (tinyP_spec (c q hq)).2⟩
 ·rintro s s' ⟨i, hi, rfl⟩ hc _ _ _ hst
  have e := stepF_eq (keyO_key o) hc (fun t ht => (((tinyP_spec (hs i hi).1).1 t ht).2).up (by decide)) hst
  have hin : i ≠ n := fun e2 => by
   subst e2
   exact hst.ne h2
  have e2 : s' = iterS (keyO o) ds (i + 1) s0 := e
  refine ⟨⟨i + 1, by omega, e2⟩, ?_⟩
  rw [e2]
  exact of_decide_eq_true (List.all_eq_true.1 h9 i (List.mem_range.2 (by omega)))
 ·intro d hd
  have h4 := List.all_eq_true.1 h3 d hd
  rw [Bool.and_eq_true] at h4
  have h5 : d.2.find? (fun t => d.2.all fun s => decide (keyO o s.1 ≤ keyO o t.1)) = some d.1 := of_decide_eq_true h4.2
  refine ⟨fun t ht => ((tinyP_spec h4.1).1 t ht).1, (tinyP_spec h4.1).2, List.mem_of_find?_eq_some h5, fun s hs => ?_⟩
  have h6 := List.find?_some h5
  exact of_decide_eq_true (List.all_eq_true.1 h6 s hs)
theorem ran_end {o : Int} {ds : List Dv} {n : Nat} {s0 s : DS} (h : ranB o ds n s0 = true) (hs : ∃ i, i ≤ n ∧ s = iterS (keyO o) ds i s0) (h0 : s.p = []) : s = iterS (keyO o) ds n s0 := by
 unfold ranB at h
 rw [Bool.and_eq_true, Bool.and_eq_true, Bool.and_eq_true] at h
 have h9 := h.2
 obtain ⟨i, hi, rfl⟩ := hs
 rcases Nat.lt_or_ge i n with hlt | hge
 ·have h1 := of_decide_eq_true (List.all_eq_true.1 h9 i (List.mem_range.2 hlt))
  rw [h0] at h1
  have h2 : leftM (keyO o) (boxM ⟨1, 1, 1, 1⟩ 3) [] = 0 := by
   unfold leftM
   exact List.countP_eq_zero.2 fun m _ hm => by cases hm
  rw [h2] at h1
  exact absurd h1 (Nat.not_lt_zero _)
 ·rw [show i = n from by omega]
abbrev nQ (z : Int) : Rat := (z : Rat)
abbrev pXY : List Tm := [(⟨1, 1, 0, 0⟩, nQ 1), (⟨0, 0, 0, 0⟩, nQ (-1))]
abbrev pYY : List Tm := [(⟨0, 2, 0, 0⟩, nQ 1), (⟨0, 0, 0, 0⟩, nQ (-1))]
abbrev ds1 : List Dv := [((⟨1, 1, 0, 0⟩, nQ 1), pXY), ((⟨0, 2, 0, 0⟩, nQ 1), pYY)]
theorem OQ.row {w : World} {lo : Nat} {v : Value} {zs : List PV} (h : OQ w lo v zs) : ∃ a c, v = .slice a zs.length c ∧ RS w a zs ∧ (∀ i z, zs[i]? = some z → ∃ g, a = some ⟨g, 0, none⟩ ∧ w.cell? ⟨g, i, none⟩ = some z.v) := by
 rcases h.2 with ⟨hv, h0⟩ | ⟨g, cap, cur, hv, hnc, _, hg, _, hcs, htake⟩
 ·have hz : zs = [] := List.length_eq_zero_iff.1 h0
  subst hz
  exact ⟨none, 0, hv, RS.nil _ _, fun i b hi => by simp at hi⟩
 ·have hc : ∀ i z, zs[i]? = some z → w.cell? ⟨g, i, none⟩ = some z.v := fun i z hi => by
   have hil := (List.getElem?_eq_some_iff.1 hi).1
   rw [cell_of_row _ _ _ _ _ _ ‹_›]
   have h1 : (zs.map PV.v)[i]? = some z.v := by rw [List.getElem?_map, hi]; rfl
   rw [← htake, List.getElem?_take, if_pos (by omega), Array.getElem?_toList] at h1
   exact h1
  exact ⟨some ⟨g, 0, none⟩, cap, hv, ⟨fun _ => ⟨g, 0, rfl, fun i z hi => by rw [Nat.zero_add]; exact hc i z hi⟩⟩, fun i z hi => ⟨g, rfl, hc i z hi⟩⟩
theorem RS.new (w : World) (qs : List PV) : RS (w.alloc (.cells (qs.map PV.v).toArray 24)) (some ⟨w.heap.size, 0, none⟩) qs := ⟨fun _ => ⟨w.heap.size, 0, rfl, fun i p hi => by
 have h := (Bxs.new w 24 (qs.map PV.v)).cell (i := i) (v := p.v) (by rw [List.getElem?_map, hi]; rfl)
 rw [Nat.zero_add]
 exact h⟩⟩
def One (w : World) (J : List Tm → List Tm → Prop) (e : Ending) (w' : World) : Prop :=
 ∃ (g c : Nat) (z : PV) (zq : List Tm) (r : PV) (R : List Tm), e = .returned (.tuple #[.slice (some ⟨g, 0, none⟩) 1 c, r.v, .int .i64 0]) ∧ w'.cell? ⟨g, 0, none⟩ = some z.v ∧ DP w' w.heap.size z zq ∧ DP w' w.heap.size r R ∧ J zq R ∧ Below w.heap.size w w'
set_option maxRecDepth 100000 in
set_option maxHeartbeats 4000000 in
theorem exact_t (p q : PV) (w : World) (J : List Tm → List Tm → Prop) (h : ∀ (V : World) (a : Addr), Below w.heap.size w V → RS V (some a) [q] → Calls Tryz.prog 10 #[.int .u8 0, p.v, .slice (some a) 1 1] V (One V J)) (hJ : ∀ Q R, J Q R → R = []) :
  Calls Tryz.prog 18 #[p.v, q.v] w fun e w' => ∃ (z : PV) (Q : List Tm), e = .returned (.tuple #[z.v, .bool true]) ∧ DP w' w.heap.size z Q ∧ J Q [] ∧ Below w.heap.size w w' := by
 obtain ⟨pa, pn, pc⟩ := p
 obtain ⟨qa, qn, qc⟩ := q
 change Calls Tryz.prog 18 #[.slice pa pn pc, .slice qa qn qc] w _
 obtain ⟨V, hV⟩ : ∃ V, V = w.alloc (.cells #[.slice qa qn qc] 24) := ⟨_, rfl⟩
 have hbV : Below w.heap.size w V := by rw [hV]; exact (Below.refl _ _).alloc (Nat.le_refl _) _
 have DV := Lib.hid (h V _ hbV (by rw [hV]; exact RS.new w [⟨qa, qn, qc⟩]))
 have HV := Lib.hid hV
 have KG := Lib.hid hbV
 clear h hV hbV
 go_enter Tryz.func18, Tryz.ntmps18
 go_wp2_with fail
 rw [show w.alloc (.cells #[.slice qa qn qc] 24) = V from HV.out.symm]
 with_reducible refine DV.out.mono ?_
 rintro e w1 ⟨g, c, ⟨za, zn, zc⟩, zq, ⟨ra, rn, rc⟩, R, rfl, hc, hz, hr, hj, hb⟩
 change w1.cell? ⟨g, 0, none⟩ = some (.slice za zn zc) at hc
 have hn : (rn : Int) = (R.length : Int) := by have := hr.k.len; show ((rn : Nat) : Int) = _; rw [show rn = R.length from this]
 have HZ := Lib.hid (hz.mono KG.out.size)
 have HJ := Lib.hid hj
 have HC := Lib.hid hc
 have KG := Lib.hid (KG.out.trans (hb.mono KG.out.size))
 clear hz hj hc hb DV
 have h0 := hJ zq R HJ.out
 subst h0
 have hr0 : rn = 0 := by have : (rn : Int) = 0 := hn; omega
 subst hr0
 clear hn hJ
 go_upto_region 4 with (fail)
 have hc := HC.out
 go_wp2_with fail
 go_ret2
 exact ⟨⟨za, zn, zc⟩, zq, rfl, HZ.out, HJ.out, KG.out⟩
set_option maxRecDepth 100000 in
set_option maxHeartbeats 4000000 in
theorem exact_f (p q : PV) (w : World) (J : List Tm → List Tm → Prop) (h : ∀ (V : World) (a : Addr), Below w.heap.size w V → RS V (some a) [q] → Calls Tryz.prog 10 #[.int .u8 0, p.v, .slice (some a) 1 1] V (One V J)) (hJ : ∀ Q R, J Q R → R ≠ []) :
  Calls Tryz.prog 18 #[p.v, q.v] w fun e w' => e = .returned (.tuple #[.slice none 0 0, .bool false]) ∧ Below w.heap.size w w' := by
 obtain ⟨pa, pn, pc⟩ := p
 obtain ⟨qa, qn, qc⟩ := q
 change Calls Tryz.prog 18 #[.slice pa pn pc, .slice qa qn qc] w _
 obtain ⟨V, hV⟩ : ∃ V, V = w.alloc (.cells #[.slice qa qn qc] 24) := ⟨_, rfl⟩
 have hbV : Below w.heap.size w V := by rw [hV]; exact (Below.refl _ _).alloc (Nat.le_refl _) _
 have DV := Lib.hid (h V _ hbV (by rw [hV]; exact RS.new w [⟨qa, qn, qc⟩]))
 have HV := Lib.hid hV
 have KG := Lib.hid hbV
 clear h hV hbV
 go_enter Tryz.func18, Tryz.ntmps18
 go_wp2_with fail
 rw [show w.alloc (.cells #[.slice qa qn qc] 24) = V from HV.out.symm]
 with_reducible refine DV.out.mono ?_
 rintro e w1 ⟨g, c, ⟨za, zn, zc⟩, zq, ⟨ra, rn, rc⟩, R, rfl, hc, hz, hr, hj, hb⟩
 change w1.cell? ⟨g, 0, none⟩ = some (.slice za zn zc) at hc
 have hn : (rn : Int) = (R.length : Int) := by have := hr.k.len; show ((rn : Nat) : Int) = _; rw [show rn = R.length from this]
 have HZ := Lib.hid (hz.mono KG.out.size)
 have HJ := Lib.hid hj
 have HC := Lib.hid hc
 have KG := Lib.hid (KG.out.trans (hb.mono KG.out.size))
 clear hz hj hc hb DV
 have h0 := List.length_pos_iff.2 (hJ zq R HJ.out)
 have hr0 : (0 : Int) < (rn : Int) := by omega
 clear hn hJ h0
 go_wp2_with fail
 go_ret2
 exact ⟨rfl, KG.out⟩
set_option maxRecDepth 100000 in
set_option maxHeartbeats 4000000 in
theorem exact_no (p q : PV) (w : World) (k : Int) (hk : k ≠ 0) (h : ∀ (V : World) (a : Addr), Below w.heap.size w V → RS V (some a) [q] → Calls Tryz.prog 10 #[.int .u8 0, p.v, .slice (some a) 1 1] V fun e w' => e = .returned (.tuple #[.slice none 0 0, .slice none 0 0, .int .i64 k]) ∧ Below V.heap.size V w') :
  Calls Tryz.prog 18 #[p.v, q.v] w fun e w' => e = .returned (.tuple #[.slice none 0 0, .bool false]) ∧ Below w.heap.size w w' := by
 obtain ⟨pa, pn, pc⟩ := p
 obtain ⟨qa, qn, qc⟩ := q
 change Calls Tryz.prog 18 #[.slice pa pn pc, .slice qa qn qc] w _
 obtain ⟨V, hV⟩ : ∃ V, V = w.alloc (.cells #[.slice qa qn qc] 24) := ⟨_, rfl⟩
 have hbV : Below w.heap.size w V := by rw [hV]; exact (Below.refl _ _).alloc (Nat.le_refl _) _
 have DV := Lib.hid (h V _ hbV (by rw [hV]; exact RS.new w [⟨qa, qn, qc⟩]))
 have HV := Lib.hid hV
 have KG := Lib.hid hbV
 clear h hV hbV
 go_enter Tryz.func18, Tryz.ntmps18
 go_wp2_with fail
 rw [show w.alloc (.cells #[.slice qa qn qc] 24) = V from HV.out.symm]
 with_reducible refine DV.out.mono ?_
 rintro e w1 ⟨rfl, hb⟩
 have KG := Lib.hid (KG.out.trans (hb.mono KG.out.size))
 have hk1 : (k != 0) = true := by simpa using hk
 clear hb DV hk
 go_wp2_with fail
 go_ret2
 exact ⟨rfl, KG.out⟩
end Go.Proofs.YthcccdjfedbnfaaGreat.Pol
