/-
  The walk of slices.SortFunc at a row of terms, by falls: it holds them in falling order.
-/
import Derived.Test.YthcccdjfedbnfaaGreatDoorPkH
import Derived.Lib.IndexMore
set_option linter.unusedSimpArgs false
set_option linter.unusedVariables false
namespace Go.Proofs.YthcccdjfedbnfaaGreatDoor.Pol
open Go.RowKit Go.Sort Go.Proofs.YthcccdjfedbnfaaGreatDoor.Limb
theorem upd_tm (x : FV) (m : Mo) (q : Rat) {L : List TE} {p : Nat × TE} (h : place m L 0 = some p) : (upd x m (p.2.2 + q) L).map tm = putT m q (L.map tm) := by
 unfold upd
 rw [h]
 have go : ∀ (L : List TE) (i : Nat) (p : Nat × TE), place m L i = some p → (L.set (p.1 - i) (⟨x, m⟩, p.2.2 + q)).map tm = putT m q (L.map tm) := by
  intro L
  induction L with
  | nil => intro i p h; cases h
  | cons e r ih =>
   intro i p h
   have h0 := h
   unfold place at h
   split at h
   ·rename_i hm
    simp only [Option.some.injEq] at h
    subst h
    show ((e :: r).set (i - i) _).map tm = _
    rw [Nat.sub_self, List.set_cons_zero, List.map_cons, List.map_cons]
    unfold putT
    rw [if_pos (show (tm e).1 = m from hm.symm)]
   ·rename_i hm
    have hp := place_some h
    rw [show p.1 - i = (p.1 - (i + 1)) + 1 by omega, List.set_cons_succ, List.map_cons, List.map_cons, ih (i + 1) p h]
    conv => rhs; unfold putT
    rw [if_neg (show ¬ (tm e).1 = m from fun e => hm e.symm)]
 exact go L 0 p h
theorem upd_none (x : FV) (m : Mo) (q : Rat) {L : List TE} (h : place m L 0 = none) : upd x m q L = L ++ [(⟨x, m⟩, q)] ∧ (upd x m q L).map tm = putT m q (L.map tm) := by
 unfold upd
 rw [h]
 refine ⟨rfl, ?_⟩
 have hn := place_none h
 clear h
 rw [List.map_append]
 induction L with
 | nil => rfl
 | cons e r ih =>
  rw [List.map_cons, List.cons_append, ih fun e' he => hn e' (List.mem_cons_of_mem _ he)]
  conv => rhs; unfold putT
  rw [if_neg (show ¬ (tm e).1 = m from hn e (List.mem_cons_self ..))]
theorem own_blkc {T : Nat} {w : World} {lo : Nat} {a : Option Addr} {n c : Nat} {o : Nat → Int} (h : Limb.Own T w lo a n c o) {b : Nat} (hb : ∃ p : Addr, a = some p ∧ p.block = b) : ∃ cur, w.heap[b]? = some (.cells cur T (0, 0)) := by
 obtain ⟨p, rfl, rfl⟩ := hb
 rcases h.place with h0 | ⟨g, cur, ha, _, hg, _⟩
 ·cases h0.1
 ·cases ha; exact ⟨cur, hg⟩
theorem DF.blkc {w : World} {lo : Nat} {x : FV} {q : Rat} (h : DF w lo x q) {b : Nat} (hb : FV.blk x b) : ∃ cur, w.heap[b]? = some (.cells cur 110 (0, 0)) := by
 rcases hb with hb | hb
 ·exact own_blkc h.t.own hb
 ·exact own_blkc h.l.own hb
theorem DF.putObj {w : World} {lo : Nat} {x : FV} {q : Rat} (h : DF w lo x q) {b : Nat} {es : Array MapEntry} {k : Nat} (hb : w.heap[b]? = some (.map es k)) (o : Obj) : DF (putObj w b o) lo x q :=
 h.kept fun g hg => putObj_other w o fun e => by
  obtain ⟨cur, hc⟩ := DF.blkc h hg
  rw [e, hb] at hc
  cases hc
theorem MK.setBxs {w : World} {lo b : Nat} {L : List TE} (h : MK w lo b L) {g : Nat} {t : TypeId} {l : List Value} (hb : Bxs w g t l) (ht : 110 ≠ t) (i : Nat) (v : Value) : MK (w.setCell ⟨g, i, none⟩ v) lo b L :=
 ⟨(Below.heap_setCell _ _ _ _ (fun e => by
  have h1 := h.blk
  have h2 : w.heap[g]? = some (.cells l.toArray t (0, 0)) := hb
  rw [show b = g from e, h2] at h1
  cases h1)).trans h.blk, h.ge, fun e he => (h.df e he).setBxs hb ht i v, h.ap, h.keys, h.small⟩
theorem MK.put {w : World} {lo b : Nat} {L : List TE} (h : MK w lo b L) {x : FV} {m : Mo} {q : Rat} (hx : DF w lo x q) (hap : ∀ e ∈ L, FV.apart e.1.c x) (hs : m.Small) :
  MK (putObj w b (.map (ents (upd x m q L)).toArray (upd x m q L).length)) lo b (upd x m q L) := by
 have hmem : ∀ e ∈ upd x m q L, e ∈ L ∨ e = (⟨x, m⟩, q) := by
  intro e he
  unfold Pol.upd at he
  split at he
  ·exact (List.mem_or_eq_of_mem_set he)
  ·rcases List.mem_append.1 he with he | he
   ·exact Or.inl he
   ·exact Or.inr (List.mem_singleton.1 he)
 refine ⟨putObj_same h.blk, h.ge, fun e he => ?_, ?_, ?_, fun e he => ?_⟩
 ·rcases hmem e he with he | rfl
  ·exact DF.putObj (h.df e he) h.blk _
  ·exact DF.putObj hx h.blk _
 ·unfold Pol.upd
  split
  ·rename_i p hp
   rw [List.pairwise_iff_getElem]
   intro i j hi hj hij
   rw [List.length_set] at hi hj
   have h1 := List.pairwise_iff_getElem.1 h.ap i j hi hj hij
   rw [List.getElem_set, List.getElem_set]
   split
   ·split
    ·omega
    ·exact FV.apart.symm (hap _ (List.getElem_mem hj))
   ·split
    ·exact hap _ (List.getElem_mem hi)
    ·exact h1
  ·refine List.pairwise_append.2 ⟨h.ap, List.pairwise_singleton _ _, fun e he f hf => ?_⟩
   rw [List.mem_singleton.1 hf]
   exact hap e he
 ·unfold Pol.upd
  split
  ·rename_i p hp
   obtain ⟨-, h2, h3⟩ := place_some hp
   rw [Nat.sub_zero] at h2
   have e1 : ((L.set p.1 (⟨x, m⟩, q)).map fun e => e.1.m) = L.map fun e => e.1.m := by
    apply List.ext_getElem?
    intro j
    rw [List.getElem?_map, List.getElem?_map, List.getElem?_set]
    split
    ·rename_i hj
     subst hj
     have hl := (List.getElem?_eq_some_iff.1 h2).1
     rw [if_pos hl, h2]
     show some m = some p.2.1.m
     rw [h3]
    ·rfl
   rw [e1]
   exact h.keys
  ·rename_i hp
   rw [List.map_append]
   refine List.nodup_append.2 ⟨h.keys, by simp, fun a ha c hc => ?_⟩
   obtain ⟨e, he, rfl⟩ := List.mem_map.1 ha
   have : c = m := by simpa using hc
   rw [this]
   exact place_none hp e he
 ·rcases hmem e he with he | rfl
  ·exact h.small e he
  ·exact hs
def Only (b : Nat) (w w' : World) : Prop := w'.os = w.os ∧ w'.tape = w.tape ∧ w'.output = w.output ∧ w.heap.size ≤ w'.heap.size ∧ ∀ k, k < w.heap.size → k ≠ b → w'.heap[k]? = w.heap[k]?
theorem Only.of_below {b : Nat} {w w' : World} (h : Below w.heap.size w w') : Only b w w' := ⟨h.os, h.tape, h.output, h.size, fun k hk _ => h.block k hk⟩
theorem Only.put {b : Nat} {u w : World} (h : Only b u w) (o : Obj) : Only b u (putObj w b o) :=
 ⟨h.1, h.2.1, h.2.2.1, by rw [size_putObj]; exact h.2.2.2.1, fun k hk hb => (putObj_other w o hb).trans (h.2.2.2.2 k hk hb)⟩
theorem Only.below {b B : Nat} {u w : World} (h : Only b u w) (hb : B ≤ b) (hB : B ≤ u.heap.size) : Below B u w := ⟨h.1, h.2.1, h.2.2.1, h.2.2.2.1, fun k hk => h.2.2.2.2 k (by omega) (by omega)⟩
set_option maxRecDepth 100000 in
set_option maxHeartbeats 4000000 in
theorem add_likes (b lo : Nat) (L : List TE) (x : FV) (q : Rat) (m : Mo) (w : World) (hM : MK w lo b L) (hx : DF w lo x q) (hap : ∀ e ∈ L, FV.apart e.1.c x) (hs : m.Small) (hq : LQ q 900000) (hL : ∀ e ∈ L, LQ e.2 900000) (hlo : lo ≤ w.heap.size) :
  Calls Tryz.prog 61 #[.map (some b), x.v, Mo.v m] w fun e w' => e = .returned (.tuple #[]) ∧ (∃ L', MK w' lo b L' ∧ L'.map tm = putT m q (L.map tm)) ∧ Only b w w' := by
 have HM := Lib.hid hM; have HX := Lib.hid hx; have HAP := Lib.hid hap; have HS := Lib.hid hs; have HQ := Lib.hid hq; have HL := Lib.hid hL; have HLO := Lib.hid hlo
 obtain ⟨W, hW⟩ : ∃ W, W = (w.alloc (.cells #[.bool x.t.s, .slice x.t.a x.t.n x.t.c, .bool x.l.s, .slice x.l.a x.l.n x.l.c] 28)).alloc (.cells #[.int .u16 m.x, .int .u16 m.y, .int .u16 m.z, .int .u16 m.t] 48) := ⟨_, rfl⟩
 have hbW : Below w.heap.size w W := by rw [hW]; exact ((Below.refl _ _).alloc (Nat.le_refl _) _).alloc (by go_size) _
 have KG := Lib.hid hbW
 have B4 := Lib.hid (show Bxs W w.heap.size 28 [.bool x.t.s, .slice x.t.a x.t.n x.t.c, .bool x.l.s, .slice x.l.a x.l.n x.l.c] by rw [hW]; exact (Bxs.new w 28 [.bool x.t.s, .slice x.t.a x.t.n x.t.c, .bool x.l.s, .slice x.l.a x.l.n x.l.c]).alloc _)
 have B5 := Lib.hid (show Bxs W (w.heap.size + 1) 48 [.int .u16 m.x, .int .u16 m.y, .int .u16 m.z, .int .u16 m.t] by
  have h := Bxs.new (w.alloc (.cells #[.bool x.t.s, .slice x.t.a x.t.n x.t.c, .bool x.l.s, .slice x.l.a x.l.n x.l.c] 28)) 48 [.int .u16 m.x, .int .u16 m.y, .int .u16 m.z, .int .u16 m.t]
  rw [World.size_alloc] at h
  rw [hW]; exact h)
 have HM1 := Lib.hid (HM.out.below hbW)
 have HX1 := Lib.hid (HX.out.below hbW)
 have HW := Lib.hid hW
 have lk := run_look HM1.out m
 clear hM hx hap hs hq hL hlo hW hbW
 obtain ⟨pl, hpl⟩ : ∃ pl, pl = place m L 0 := ⟨_, rfl⟩
 rw [← hpl] at lk
 have HPL := Lib.hid hpl.symm
 clear hpl
 go_enter Tryz.func61, Tryz.ntmps61
 go_upto_region 1 with (fail)
 rw [show (w.alloc (.cells #[.bool x.t.s, .slice x.t.a x.t.n x.t.c, .bool x.l.s, .slice x.l.a x.l.n x.l.c] 28)).alloc (.cells #[.int .u16 m.x, .int .u16 m.y, .int .u16 m.z, .int .u16 m.t] 48) = W from HW.out.symm]
 have c50 := B5.out.cell (i := 0) rfl
 have c51 := B5.out.cell (i := 1) rfl
 have c52 := B5.out.cell (i := 2) rfl
 have c53 := B5.out.cell (i := 3) rfl
 have c5f := B5.out.fz
 have c5l := B5.out.lt
 cases pl with
 | none =>
  simp only at lk
  go_upto_region 2 with (fail)
  obtain ⟨V, hV⟩ : ∃ V, V = W.alloc (.cells #[.bool false, .slice none 0 0, .bool false, .slice none 0 0] 28) := ⟨_, rfl⟩
  have hbV : Below W.heap.size W V := by rw [hV]; exact (Below.refl _ _).alloc (Nat.le_refl _) _
  rw [← hV]
  have B4 := Lib.hid (B4.out.below hbV B4.out.lt)
  have B5 := Lib.hid (B5.out.below hbV B5.out.lt)
  have HM2 := Lib.hid (HM1.out.below hbV)
  have HX2 := Lib.hid (HX1.out.below hbV)
  have KG := Lib.hid (KG.out.trans (hbV.mono KG.out.size))
  have up := run_upd HM2.out m x q
  clear hV hbV lk c50 c51 c52 c53 c5f c5l
  have c50 := B5.out.cell (i := 0) rfl
  have c51 := B5.out.cell (i := 1) rfl
  have c52 := B5.out.cell (i := 2) rfl
  have c53 := B5.out.cell (i := 3) rfl
  have c40 := B4.out.cell (i := 0) rfl
  have c41 := B4.out.cell (i := 1) rfl
  have c42 := B4.out.cell (i := 2) rfl
  have c43 := B4.out.cell (i := 3) rfl
  go_wp2_with fail
  go_end0
  exact ⟨rfl, ⟨_, HM2.out.put HX2.out HAP.out HS.out, (upd_none x m q HPL.out).2⟩, (Only.of_below KG.out).put _⟩
 | some p =>
  simp only at lk
  go_upto_region 2 with (fail)
  obtain ⟨V, hV⟩ : ∃ V, V = W.alloc (.cells #[.bool p.2.1.c.t.s, .slice p.2.1.c.t.a p.2.1.c.t.n p.2.1.c.t.c, .bool p.2.1.c.l.s, .slice p.2.1.c.l.a p.2.1.c.l.n p.2.1.c.l.c] 28) := ⟨_, rfl⟩
  have hbV : Below W.heap.size W V := by rw [hV]; exact (Below.refl _ _).alloc (Nat.le_refl _) _
  have B6 := Lib.hid (show Bxs V W.heap.size 28 [.bool p.2.1.c.t.s, .slice p.2.1.c.t.a p.2.1.c.t.n p.2.1.c.t.c, .bool p.2.1.c.l.s, .slice p.2.1.c.l.a p.2.1.c.l.n p.2.1.c.l.c] by rw [hV]; exact Bxs.new W 28 [.bool p.2.1.c.t.s, .slice p.2.1.c.t.a p.2.1.c.t.n p.2.1.c.t.c, .bool p.2.1.c.l.s, .slice p.2.1.c.l.a p.2.1.c.l.n p.2.1.c.l.c])
  rw [← hV]
  have B4 := Lib.hid (B4.out.below hbV B4.out.lt)
  have B5 := Lib.hid (B5.out.below hbV B5.out.lt)
  have HM2 := Lib.hid (HM1.out.below hbV)
  have HX2 := Lib.hid (HX1.out.below hbV)
  have KG := Lib.hid (KG.out.trans (hbV.mono KG.out.size))
  clear hV hbV lk c50 c51 c52 c53 c5f c5l
  obtain ⟨-, hp2, -⟩ := place_some HPL.out
  have hmem : p.2 ∈ L := List.mem_of_getElem? hp2
  have HP := Lib.hid (HM2.out.df _ hmem)
  have HQ2 := Lib.hid (HL.out _ hmem)
  clear hp2 hmem
  have c40 := B4.out.cell (i := 0) rfl
  have c41 := B4.out.cell (i := 1) rfl
  have c42 := B4.out.cell (i := 2) rfl
  have c43 := B4.out.cell (i := 3) rfl
  have c60 := B6.out.cell (i := 0) rfl
  have c61 := B6.out.cell (i := 1) rfl
  have c62 := B6.out.cell (i := 2) rfl
  have c63 := B6.out.cell (i := 3) rfl
  go_wp2_with fail
  with_reducible refine (qadd HP.out.k.any (HP.out.k.len HQ2.out (Nat.le_refl _)) HX2.out.k.any (HX2.out.k.len HQ.out (Nat.le_refl _))).mono ?_
  rintro e w2 ⟨y, rfl, hy, hb⟩
  clear c40 c41 c42 c43 c60 c61 c62 c63
  have B4 := Lib.hid (B4.out.below hb B4.out.lt)
  have B5 := Lib.hid (B5.out.below hb B5.out.lt)
  have HM3 := Lib.hid (HM2.out.below hb)
  have HVL := Lib.hid (show ∀ e ∈ L, FV.apart e.1.c y from fun e he g hg hy2 => Nat.not_lt_of_le (hy.blks g hy2).1 ((HM2.out.df e he).blks g hg).2)
  have HY := Lib.hid (hy.mono (Nat.le_trans HLO.out KG.out.size) : DF w2 lo y (p.2.2 + q))
  have KG := Lib.hid (KG.out.trans (hb.mono KG.out.size))
  clear hy hb
  have c40 := B4.out.cell (i := 0) rfl
  have c41 := B4.out.cell (i := 1) rfl
  have c42 := B4.out.cell (i := 2) rfl
  have c43 := B4.out.cell (i := 3) rfl
  have c4f := B4.out.fz
  have c4l := B4.out.lt
  go_upto_region 4 with (fail)
  clear c40 c41 c42 c43 c4f c4l
  obtain ⟨U, hU⟩ : ∃ U, U = (((w2.setCell ⟨w.heap.size, 0, none⟩ (.bool y.t.s)).setCell ⟨w.heap.size, 1, none⟩ (.slice y.t.a y.t.n y.t.c)).setCell ⟨w.heap.size, 2, none⟩ (.bool y.l.s)).setCell ⟨w.heap.size, 3, none⟩ (.slice y.l.a y.l.n y.l.c) := ⟨_, rfl⟩
  rw [← hU]
  have hb0 := B4.out
  have b1 := hb0.put 0 (.bool y.t.s)
  have b2 := b1.put 1 (.slice y.t.a y.t.n y.t.c)
  have b3 := b2.put 2 (.bool y.l.s)
  have b4 := b3.put 3 (.slice y.l.a y.l.n y.l.c)
  have B4 := Lib.hid (show Bxs U w.heap.size 28 [.bool y.t.s, .slice y.t.a y.t.n y.t.c, .bool y.l.s, .slice y.l.a y.l.n y.l.c] by rw [hU]; exact b4)
  have HM4 := Lib.hid (show MK U lo b L by rw [hU]; exact (((HM3.out.setBxs hb0 (by decide) 0 _).setBxs b1 (by decide) 1 _).setBxs b2 (by decide) 2 _).setBxs b3 (by decide) 3 _)
  have HY := Lib.hid (show DF U lo y (p.2.2 + q) by rw [hU]; exact (((HY.out.setBxs hb0 (by decide) 0 _).setBxs b1 (by decide) 1 _).setBxs b2 (by decide) 2 _).setBxs b3 (by decide) 3 _)
  have B5 := Lib.hid (show Bxs U (w.heap.size + 1) 48 [.int .u16 m.x, .int .u16 m.y, .int .u16 m.z, .int .u16 m.t] by rw [hU]; exact (((B5.out.other (by dsimp only; omega) _).other (by dsimp only; omega) _).other (by dsimp only; omega) _).other (by dsimp only; omega) _)
  have KG := Lib.hid (show Below w.heap.size w U by rw [hU]; exact (((KG.out.setCell (Nat.le_refl _) _).setCell (Nat.le_refl _) _).setCell (Nat.le_refl _) _).setCell (Nat.le_refl _) _)
  have up := run_upd HM4.out m y (p.2.2 + q)
  clear hU hb0 b1 b2 b3 b4
  have c50 := B5.out.cell (i := 0) rfl
  have c51 := B5.out.cell (i := 1) rfl
  have c52 := B5.out.cell (i := 2) rfl
  have c53 := B5.out.cell (i := 3) rfl
  have c40 := B4.out.cell (i := 0) rfl
  have c41 := B4.out.cell (i := 1) rfl
  have c42 := B4.out.cell (i := 2) rfl
  have c43 := B4.out.cell (i := 3) rfl
  go_wp2_with fail
  go_end0
  exact ⟨rfl, ⟨_, HM4.out.put HY.out HVL.out HS.out, upd_tm y m q HPL.out⟩, (Only.of_below KG.out).put _⟩
end Go.Proofs.YthcccdjfedbnfaaGreatDoor.Pol
namespace Go.Proofs.YthcccdjfedbnfaaGreatDoor.Pol
open Go.RowKit Go.Sort Go.Proofs.YthcccdjfedbnfaaGreatDoor.Limb Go.ChangeShapes Go.WideShapes Go.ChangeAt
def RawQ (w : World) (x : PV) (L : List TO) : Prop := RT w x.a (L.map Prod.fst) ∧ L.length = x.n ∧ x.n ≤ x.c ∧ (∀ e ∈ L, TO.ok w e) ∧ (∀ e ∈ L, e.1.m.Small)
theorem cellsTerm : Tryz.prog.cellsOf 50 = 8 := by kernel_rfl
theorem cellsMono : Tryz.prog.cellsOf 48 = 4 := by kernel_rfl
theorem cellsU16 : Tryz.prog.cellsOf 46 = 1 := by kernel_rfl
theorem list_of {α : Type} {Φ : Nat → α → Prop} : ∀ (n : Nat), (∀ i, i < n → ∃ e, Φ i e) → ∃ L : List α, L.length = n ∧ ∀ i e, L[i]? = some e → Φ i e
 | 0, _ => ⟨[], rfl, fun i e h => by simp at h⟩
 | n + 1, h => by
  obtain ⟨L, h1, h2⟩ := list_of n fun i hi => h i (by omega)
  obtain ⟨e, he⟩ := h n (by omega)
  refine ⟨L ++ [e], by rw [List.length_append, h1]; rfl, fun i e' hi => ?_⟩
  by_cases hl : i < n
  ·rw [List.getElem?_append_left (by omega)] at hi
   exact h2 i e' hi
  ·have : i = n := by
    have := (List.getElem?_eq_some_iff.1 hi).1
    rw [List.length_append, h1] at this
    simp at this
    omega
   subst this
   rw [List.getElem?_append_right (by omega), h1, Nat.sub_self] at hi
   have hi : some e = some e' := hi
   exact (Option.some.inj hi) ▸ he
set_option maxRecDepth 100000 in
theorem open_termT {H : Type} {enc : TypeId × Value → H} {W : World} {sp : Nat → Bool} {hd : Bool} {fuel : Nat} {l : List Value} {x : DataW H × List MemPlace}
  (hf : DataW.trod enc Tryz.prog W 0 sp hd fuel 50 l = some x) : ∃ e : TO, l = e.1.cells ∧ TO.ok W e ∧ e.1.m.Small := by
 obtain ⟨xs, m, _, _, hlen, hxl, hfld⟩ := DataW.trod_struct Tryz.underlying50 hf
 have hlen : l.length = 8 := hlen.trans cellsTerm
 obtain ⟨x0, x1, x2, x3, x4, x5, x6, x7, rfl⟩ : ∃ x0 x1 x2 x3 x4 x5 x6 x7, l = [x0, x1, x2, x3, x4, x5, x6, x7] := by
  match l, hlen with
  | [x0, x1, x2, x3, x4, x5, x6, x7], _ => exact ⟨x0, x1, x2, x3, x4, x5, x6, x7, rfl⟩
 have h0 : DataW.trod enc Tryz.prog W 0 sp hd m 28 (([x0, x1, x2, x3, x4, x5, x6, x7].drop 0).take (Tryz.prog.cellsOf 28)) = xs[0]? := hfld 0 _ rfl
 have h1 : DataW.trod enc Tryz.prog W 0 sp hd m 48 (([x0, x1, x2, x3, x4, x5, x6, x7].drop 4).take (Tryz.prog.cellsOf 48)) = xs[1]? := hfld 1 _ rfl
 have hx : xs.length = 2 := hxl
 rw [List.getElem?_eq_getElem (by omega)] at h0
 rw [List.getElem?_eq_getElem (by omega)] at h1
 rw [cellsFrac] at h0
 rw [cellsMono] at h1
 obtain ⟨s1, a1, n1, c1, o1, s2, a2, n2, c2, o2, e0, r1, l1, r2, l2⟩ := open_fracT h0
 obtain ⟨a, e1, hb⟩ := LawPost.four_u16 Tryz.underlying48 Tryz.underlying46 cellsU16 cellsMono h1
 have e0 : [x0, x1, x2, x3] = [.bool s1, .slice a1 n1 c1, .bool s2, .slice a2 n2 c2] := e0
 have e1 : [x4, x5, x6, x7] = [.int .u16 (a 0), .int .u16 (a 1), .int .u16 (a 2), .int .u16 (a 3)] := e1
 simp only [List.cons.injEq, and_true] at e0 e1
 obtain ⟨rfl, rfl, rfl, rfl⟩ := e0
 obtain ⟨rfl, rfl, rfl, rfl⟩ := e1
 have b0 := hb 0 (by omega)
 have b1 := hb 1 (by omega)
 have b2 := hb 2 (by omega)
 have b3 := hb 3 (by omega)
 refine ⟨(⟨⟨⟨s1, a1, n1, c1⟩, ⟨s2, a2, n2, c2⟩⟩, ⟨(a 0).toNat, (a 1).toNat, (a 2).toNat, (a 3).toNat⟩⟩, open Classical in if okF s1 n1 o1 s2 n2 o2 then some (valF s1 n1 o1 s2 n2 o2) else none), ?_, ?_, ?_⟩
 ·unfold TV.cells
  simp only [Int.toNat_of_nonneg b0.1, Int.toNat_of_nonneg b1.1, Int.toNat_of_nonneg b2.1, Int.toNat_of_nonneg b3.1]
 ·by_cases hk : okF s1 n1 o1 s2 n2 o2
  ·simp only [if_pos hk]
   exact KF.raw r1 l1 r2 l2 hk
  ·simp only [if_neg hk]
   exact BF.raw r1 l1 r2 l2 hk
 ·exact ⟨by show (a 0).toNat ≤ 65535; omega, by show (a 1).toNat ≤ 65535; omega, by show (a 2).toNat ≤ 65535; omega, by show (a 3).toNat ≤ 65535; omega⟩
theorem cells_at {W : World} {a : Addr} {n : Nat} {l : List Value} (h : W.cells? 0 a n = some l) (i : Nat) (hi : i < n) : W.cell? (a.add i) = l[i]? := by
 unfold World.cells? at h
 rw [if_pos (Nat.zero_le _)] at h
 exact mapM_some_get h i i (by rw [List.getElem?_range hi])
set_option maxRecDepth 100000 in
theorem open_polyT {H : Type} {enc : TypeId × Value → H} {W : World} {sp : Nat → Bool} {hd : Bool} {fuel : Nat} {v : Value} {x : DataW H × List MemPlace}
  (hf : DataW.trod enc Tryz.prog W 0 sp hd fuel 23 [v] = some x) : ∃ (y : PV) (L : List TO), v = y.v ∧ RawQ W y L := by
 rcases DataW.trod_slice Tryz.underlying23 hf with ⟨e, _⟩ | ⟨a, len, cap, elems, rest, m, _, e, _, _, hl, _, hel, hcs, _⟩
 ·simp only [List.cons.injEq, and_true] at e
  exact ⟨⟨none, 0, 0⟩, [], e, RT.nil _ _, rfl, Nat.le_refl _, fun e he => (by cases he), fun e he => (by cases he)⟩
 ·simp only [List.cons.injEq, and_true] at e
  obtain ⟨L, hL1, hL2⟩ := list_of (Φ := fun i (e : TO) => W.cells? 0 (a.add (i * 8)) 8 = some e.1.cells ∧ TO.ok W e ∧ e.1.m.Small) len fun i hi => by
   have h1 := hcs i hi
   rw [cellsTerm, List.getElem?_eq_getElem (by omega)] at h1
   obtain ⟨l, h2, h3⟩ := Option.bind_eq_some_iff.1 h1
   obtain ⟨e, h4, h5, h6⟩ := open_termT h3
   exact ⟨e, by rw [h2, h4], h5, h6⟩
  refine ⟨⟨some a, len, cap⟩, L, e, ⟨fun hn => ?_⟩, hL1, hl, fun e he => ?_, fun e he => ?_⟩
  ·have hpos : 0 < L.length := List.length_pos_iff.2 fun h => hn (by rw [h]; rfl)
   obtain ⟨h1, -, -⟩ := hL2 0 _ (List.getElem?_eq_getElem hpos)
   have h2 := cells_at h1 0 (by omega)
   obtain ⟨b, off, spot⟩ := a
   have hspot : spot = none := by
    have h3 := World.cell?_spot (h2.trans rfl)
    simpa [Addr.add] using h3
   subst hspot
   refine ⟨b, off, rfl, fun i t hi j v hj => ?_⟩
   rw [List.getElem?_map] at hi
   obtain ⟨e, he, rfl⟩ := Option.map_eq_some_iff.1 hi
   obtain ⟨h3, -, -⟩ := hL2 i e he
   have hj8 : j < 8 := (List.getElem?_eq_some_iff.1 hj).1
   have h4 := cells_at h3 j hj8
   rw [Go.WideShapes.add_plain, Go.WideShapes.add_plain] at h4
   exact h4.trans hj
  ·obtain ⟨i, hi⟩ := List.mem_iff_getElem?.1 he
   exact (hL2 i e hi).2.1
  ·obtain ⟨i, hi⟩ := List.mem_iff_getElem?.1 he
   exact (hL2 i e hi).2.2
set_option maxRecDepth 100000 in
theorem open_poly {H : Type} {enc : TypeId × Value → H} {W : World} {base : Nat} {r : Reach} {sp : Nat → Bool} {hd : Bool} {v : Value} {d : DataW H} {p : List MemPlace}
  (hok : Value.okWide Tryz.prog W r base 23 v) (h : DataW.Trod enc Tryz.prog W 0 sp hd 23 v d p) : ∃ (y : PV) (L : List TO), v = y.v ∧ RawQ W y L := by
 obtain ⟨fuel, hf⟩ := h
 obtain ⟨a, n, c, rfl⟩ := Go.WideShapes.okWide_slice Tryz.underlying23 hok
 exact open_polyT hf
theorem RawQ.below {w w' : World} {x : PV} {L : List TO} (h : RawQ w x L) (hb : Below w.heap.size w w') : RawQ w' x L := by
 obtain ⟨h1, h2, h3, h4, h5⟩ := h
 refine ⟨h1.below hb, h2, h3, fun e he => ?_, h5⟩
 have h6 := h4 e he
 unfold TO.ok at h6 ⊢
 split at h6
 ·exact h6.below hb
 ·exact h6.below hb
theorem RawQ.raw {w : World} {x : PV} {L : List TO} (h : RawQ w x L) (hl : ∀ e ∈ L, LF e.1.c 900000) : RawP w x L := ⟨h.1, h.2.1, h.2.2.1, h.2.2.2.1, h.2.2.2.2, hl⟩
end Go.Proofs.YthcccdjfedbnfaaGreatDoor.Pol
namespace Go.Proofs.YthcccdjfedbnfaaGreatDoor.Limb
open Go.RowKit Go.Sort
theorem bf_of {w : World} {x y : NV} {p q : Int} (h1 : KN w x p) (h2 : KN w y q) (h : ¬ (0 < q ∧ Int.gcd p q = 1)) : BF w ⟨x, y⟩ := ⟨⟨_, _, h1.rd, h2.rd, fun hk => h ⟨by have h3 := hk.2.2.1; rwa [h2.valv] at h3, by have h3 := hk.2.2.2; rwa [h1.valv, h2.valv] at h3⟩⟩, h1.le, h2.le⟩
theorem lenB_one {m : Nat} (h0 : m ≠ 0) (h : m < 1000000000) : lenB m = 1 := by rw [lenB_pos h0, Nat.div_eq_of_lt h, lenB_zero]
end Go.Proofs.YthcccdjfedbnfaaGreatDoor.Limb
namespace Go.Proofs.YthcccdjfedbnfaaGreatDoor.Mono
open Go.RowKit Go.Sort
theorem orders_lays (w : World) :
  Calls Tryz.prog 102 #[] w fun e w' => e = .returned (.map (some w.heap.size)) ∧ Ords w.heap.size w' ∧ Below w.heap.size w w' ∧ w'.drawn = w.drawn := by
 have hmm := fun (t : TypeId) (w : World) => run_makeMap (P := Tryz.prog) t w
 have u0 := fun (o : Obj) v => upd0 (X := (w.alloc (.map #[] 0)).alloc o) (r := w.heap.size) ((Below.heap_alloc _ o _ (by simp)).trans (Go.heap_alloc_new w _)) 1 v
 have u1 := fun (o1 : Obj) v1 (o2 : Obj) v => upd1 (X := (putObj ((w.alloc (.map #[] 0)).alloc o1) w.heap.size (.map #[⟨.int .u8 1, v1, 0⟩] 1)).alloc o2) (r := w.heap.size) (k1 := 1) (v1 := v1)
  ((Below.heap_alloc _ o2 _ (by rw [size_putObj]; simp; omega)).trans (putObj_same ((Below.heap_alloc _ o1 _ (by simp)).trans (Go.heap_alloc_new w _)))) 2 v rfl
 have hok := Lib.hid (ordW_ok w)
 go_enter Tryz.func102, Tryz.ntmps102
 go_wp2
 go_ret
 exact ⟨rfl, hok.out.1, hok.out.2, rfl⟩
set_option maxHeartbeats 1000000 in
theorem lexical_lays (a b : Nat → Int) (w : World) :
  Calls Tryz.prog 103 #[mvf a, mvf b] w fun e w' => e = .returned (.int .i64 (lexM a b)) ∧ Below w.heap.size w w' ∧ w.drawn ≤ w'.drawn := by
 have HX := Lib.hid (boxes w 48 a b)
 go_enter Tryz.func103, Tryz.ntmps103
 go_wp2
 go_quiet (exact Calls.quiet_of_same (compare_any _ _ _ _ a b _ (HX.out.1.of_block rfl) (HX.out.2.of_block rfl)))
 go_wp2
 go_ret
 exact ⟨rfl, below_drewN (by go_grown) _, Nat.le_add_right _ _⟩
set_option maxHeartbeats 2000000 in
theorem cmp_lays (a b : Nat → Int) (w : World) :
  Calls Tryz.prog 65 #[.int .u8 0, mvf a, mvf b] w fun e w' => e = .returned (.int .i64 (lexM a b)) ∧ Below w.heap.size w w' ∧ w.drawn ≤ w'.drawn := by
 have HX := Lib.hid (boxes w 48 a b)
 go_enter Tryz.func65, Tryz.ntmps65
 go_wp2_with fail
 refine (orders_lays _).mono ?_
 rintro e w1 ⟨rfl, ho, hb1, hd1⟩
 have A1 := rowBelow HX.out.1 hb1 (by simp; omega)
 have B1 := rowBelow HX.out.2 hb1 (by simp)
 have G1 := Lib.hid ((Below.refl _ _).alloc (Nat.le_refl _) _ |>.alloc (by go_size) _ |>.trans (hb1.mono (by go_size)) : Below w.heap.size w w1)
 have D1 := Lib.hid (show w.drawn ≤ w1.drawn by rw [hd1]; exact Nat.le_refl _)
 simp only [World.size_alloc] at ho
 have O1 := Lib.hid ho
 have lk := look2 ho.1 0
 obtain ⟨a10, a11, a12, a13⟩ := rowc A1
 obtain ⟨b10, b11, b12, b13⟩ := rowc B1
 have RA1 := Lib.hid A1
 have RB1 := Lib.hid B1
 have LT1 := Lib.hid (show w.heap.size + 1 + 1 + 1 + 1 < w1.heap.size from block_lt_of_cell ho.2.2.1)
 clear ho hb1 A1 B1 hd1
 simp only [show ((0 : Int) == 1) = false from rfl, show ((0 : Int) == 2) = false from rfl, Bool.false_eq_true, if_false] at lk
 go_wp2_with fail
 refine wp_loop_rounds 1 ?_
 rw [rounds_succ]
 go_wp2_with fail
 refine (lexical_lays a b _).mono ?_
 rintro e w2 ⟨rfl, hb2, hd2⟩
 have RA2 := Lib.hid (rowBelow RA1.out hb2 (by have := LT1.out; omega))
 have RB2 := Lib.hid (rowBelow RB1.out hb2 (by have := LT1.out; omega))
 have G2 := Lib.hid (G1.out.trans (hb2.mono G1.out.size))
 have D2 := Lib.hid (Nat.le_trans D1.out hd2)
 obtain ⟨a20, a21, a22, a23⟩ := rowc RA2.out
 obtain ⟨b20, b21, b22, b23⟩ := rowc RB2.out
 clear hb2 hd2
 go_wp2
 go_ret
 exact ⟨rfl, G2.out, D2.out⟩
end Go.Proofs.YthcccdjfedbnfaaGreatDoor.Mono
namespace Go.Proofs.YthcccdjfedbnfaaGreatDoor.Pol
open Go.RowKit Go.Sort Go.Proofs.YthcccdjfedbnfaaGreatDoor.Limb
def Mo.f (m : Mo) (i : Nat) : Int := match i with
 | 0 => m.x
 | 1 => m.y
 | 2 => m.z
 | _ => m.t
def cmpMo (a b : Mo) : Int := if a.lt b then -1 else if b.lt a then 1 else 0
theorem lex_cmpMo (a b : Mo) : Mono.lexM a.f b.f = cmpMo a b := by
 have e : Mono.lexM a.f b.f = (if (a.x : Int) ≠ b.x then (if (a.x : Int) < b.x then -1 else if (b.x : Int) < a.x then 1 else 0) else if (a.y : Int) ≠ b.y then (if (a.y : Int) < b.y then -1 else if (b.y : Int) < a.y then 1 else 0) else if (a.z : Int) ≠ b.z then (if (a.z : Int) < b.z then -1 else if (b.z : Int) < a.z then 1 else 0) else (if (a.t : Int) < b.t then -1 else if (b.t : Int) < a.t then 1 else 0)) := rfl
 rw [e]
 rcases Mo.lt_or a b with h | h | h
 ·rw [cmpMo, if_pos h]
  unfold Mo.lt at h
  repeat' split
  all_goals omega
 ·subst h
  rw [cmpMo, if_neg (Mo.lt_irrefl a), if_neg (Mo.lt_irrefl a)]
  repeat' split
  all_goals omega
 ·rw [cmpMo, if_neg (Mo.lt_asymm h), if_pos h]
  unfold Mo.lt at h
  repeat' split
  all_goals omega
theorem cmpMo_lt {a b : Mo} : cmpMo a b < 0 ↔ a.lt b := by
 unfold cmpMo
 by_cases h : a.lt b
 ·simp [h]
 ·by_cases k : b.lt a <;> simp [h, k]
def Lays (w w' : World) : Prop := Below w.heap.size w w' ∧ w.drawn ≤ w'.drawn
theorem Lays.grow {w w' : World} (h : Lays w w') : ∃ q os, w' = grow (w.drewN q) os := by
 obtain ⟨⟨h1, h2, h3, h4, h5⟩, h6⟩ := h
 refine ⟨w'.drawn - w.drawn, w'.heap.extract w.heap.size w'.heap.size, ?_⟩
 have e : w'.heap = w.heap ++ w'.heap.extract w.heap.size w'.heap.size := by
  apply Array.ext_getElem?
  intro i
  rw [Array.getElem?_append]
  split
  ·rename_i hi; exact h5 i hi
  ·rename_i hi
   rw [Array.getElem?_extract]
   by_cases hl : i < w'.heap.size
   ·rw [if_pos (by omega), show w.heap.size + (i - w.heap.size) = i by omega]
   ·rw [if_neg (by omega), Array.getElem?_eq_none (by omega)]
 obtain ⟨q, hq⟩ : ∃ q, w'.drawn = w.drawn + q := ⟨w'.drawn - w.drawn, by omega⟩
 rw [hq, Nat.add_sub_cancel_left]
 cases w
 cases w'
 simp only at h1 h2 h3 e hq
 subst h1 h2 h3 hq
 exact (congrArg (fun h => ({ heap := h, tape := _, drawn := _, os := _, output := _ } : World)) e).trans rfl
theorem cmp_lex (a b : Mo) (w : World) : Calls Tryz.prog 65 #[.int .u8 0, Mo.v a, Mo.v b] w fun e w' => e = .returned (.int .i64 (cmpMo a b)) ∧ Lays w w' := by
 rw [← lex_cmpMo]
 exact Mono.cmp_lays a.f b.f w
theorem falls_lays (a b : Mo) (w : World) : Calls Tryz.prog 40 #[Mo.v a, Mo.v b] w fun e w' => e = .returned (.int .i64 (cmpMo b a)) ∧ Lays w w' := by
 have C := Lib.hid (fun w' => cmp_lex b a w')
 go_enter Tryz.func40, Tryz.ntmps40
 go_wp2_with fail
 with_reducible refine (C.out _).mono ?_
 rintro e w1 ⟨rfl, hb, hd⟩
 have HB := Lib.hid (show Below w.heap.size w w1 from ((Below.refl _ _).alloc (Nat.le_refl _) _ |>.alloc (by go_size) _).trans (hb.mono (by go_size)))
 have HD := Lib.hid (show w.drawn ≤ w1.drawn from hd)
 clear hb hd C
 go_wp2_with fail
 go_ret
 exact ⟨rfl, HB.out, HD.out⟩
theorem falls_any (a b : Mo) (w : World) : Calls Tryz.prog 40 #[Mo.v a, Mo.v b] w fun e w' => e = .returned (.int .i64 (cmpMo b a)) ∧ Below w.heap.size w w' := (falls_lays a b w).mono fun _ _ h => ⟨h.1, h.2.1⟩
end Go.Proofs.YthcccdjfedbnfaaGreatDoor.Pol
namespace Go.Proofs.YthcccdjfedbnfaaGreatDoor.Limb
open Go.RowKit Go.Sort
theorem num_den (q : Rat) : (q.num : Rat) / ((q.den : Int) : Rat) = q := by
 rw [← Rat.divInt_eq_div]; exact Rat.num_divInt_den q
end Go.Proofs.YthcccdjfedbnfaaGreatDoor.Limb
namespace Go.Proofs.YthcccdjfedbnfaaGreatDoor.Pol
open Go.RowKit Go.Sort Go.Proofs.YthcccdjfedbnfaaGreatDoor.Limb
def Ok1 (L : List TO) (i : Nat) : Prop := ∃ e q, L[i]? = some e ∧ e.2 = some q ∧ q ≠ 0 ∧ (0 < i → ∃ d, L[i - 1]? = some d ∧ e.1.m.lt d.1.m)
theorem q_num {q : Rat} : cmpZ q.num 0 = 0 ↔ q = 0 := by
 rw [← Rat.num_eq_zero]
 unfold cmpZ
 constructor
 ·intro h
  split at h
  ·exact absurd h (by decide)
  ·split at h
   ·exact absurd h (by decide)
   ·omega
 ·intro h
  rw [h]; rfl
set_option maxRecDepth 100000 in
set_option maxHeartbeats 16000000 in
theorem check_raw (x : PV) (L : List TO) (k0 : Nat) (w : World) (h : RawP w x L) (hn : x.n ≤ 1000000000) (hk : k0 ≤ L.length) (hok : ∀ i, i < k0 → Ok1 L i) (hbad : k0 < L.length → ¬ Ok1 L k0) :
  Calls Tryz.prog 11 #[x.v] w fun e w' => e = .returned (.bool (decide (k0 = L.length))) ∧ Below w.heap.size w w' := by
 obtain ⟨xa, xn, xc⟩ := x
 have HLN := Lib.hid (show L.length = xn from h.2.1)
 have HN := Lib.hid (show xn ≤ 1000000000 from hn)
 have HR := Lib.hid h; have HK0 := Lib.hid hk; have HOK := Lib.hid hok; have HBAD := Lib.hid hbad
 have KG := Lib.hid (Below.refl w.heap.size w)
 obtain ⟨bv, hbv⟩ : ∃ b, b = decide (k0 = L.length) := ⟨_, rfl⟩
 have HBV := Lib.hid hbv
 rw [← hbv]
 clear h hk hok hbad hn hbv
 change Calls Tryz.prog 11 #[.slice xa xn xc] w _
 go_enter Tryz.func11, Tryz.ntmps11
 go_wp2_with fail
 go_loopw [7] (fun i wr => ∃ k : Nat, k ≤ k0 ∧ i = .int .i64 k ∧ Below w.heap.size w wr) (fun i _ => xn - (intOf i).toNat)
 case atStart => exact ⟨0, Nat.zero_le _, rfl, KG.out⟩
 case round =>
  obtain ⟨k, hkk, rfl, hb0⟩ := hrel
  have KG := Lib.hid hb0
  have HKK0 := Lib.hid hkk
  clear hb0 hkk
  by_cases hkl : k < xn
  ·have HKL := Lib.hid hkl
   obtain ⟨pb, po, rfl, hpb, hcs⟩ := (HR.out.below KG.out).1.off (i := k) (by rw [List.length_map, HLN.out]; exact hkl)
   obtain ⟨e, he⟩ : ∃ e, L[k]? = some e := ⟨_, List.getElem?_eq_getElem (by rw [HLN.out]; exact hkl)⟩
   obtain ⟨t, o⟩ := e
   obtain ⟨c0, c1, c2, c3, c4, c5, c6, c7⟩ := RT.eight hcs (i := k) (t := t) (by rw [List.getElem?_map, he]; rfl)
   have HE := Lib.hid he
   have HTO := Lib.hid ((HR.out.below KG.out).2.2.2.1 _ (List.mem_of_getElem? he))
   have HLF := Lib.hid (HR.out.2.2.2.2.2 _ (List.mem_of_getElem? he))
   have HCS := Lib.hid hcs
   have HPB0 := Lib.hid hpb
   obtain ⟨kI, hkI⟩ : ∃ kI : Int, kI = (k : Int) := ⟨_, rfl⟩
   clear hcs he hpb
   go_upto_region 4 with (fail)
   obtain ⟨V, hV⟩ : ∃ V, V = wr.alloc (.cells #[.bool t.c.t.s, .slice t.c.t.a t.c.t.n t.c.t.c, .bool t.c.l.s, .slice t.c.l.a t.c.l.n t.c.l.c, .int .u16 t.m.x, .int .u16 t.m.y, .int .u16 t.m.z, .int .u16 t.m.t] 50) := ⟨_, rfl⟩
   have hbV : Below wr.heap.size wr V := by rw [hV]; exact (Below.refl _ _).alloc (Nat.le_refl _) _
   have B4 := Lib.hid (show Bxs V wr.heap.size 50 [.bool t.c.t.s, .slice t.c.t.a t.c.t.n t.c.t.c, .bool t.c.l.s, .slice t.c.l.a t.c.l.n t.c.l.c, .int .u16 t.m.x, .int .u16 t.m.y, .int .u16 t.m.z, .int .u16 t.m.t] by rw [hV]; exact Bxs.new wr 50 [.bool t.c.t.s, .slice t.c.t.a t.c.t.n t.c.t.c, .bool t.c.l.s, .slice t.c.l.a t.c.l.n t.c.l.c, .int .u16 t.m.x, .int .u16 t.m.y, .int .u16 t.m.z, .int .u16 t.m.t])
   obtain ⟨A4, hA4⟩ : ∃ A, A = wr.heap.size := ⟨_, rfl⟩
   rw [← hV, ← hA4]
   rw [← hA4] at B4
   rw [← hkI]
   have KG := Lib.hid (KG.out.trans (hbV.mono KG.out.size))
   have HTO := Lib.hid (show TO.ok V (t, o) from by
    have h := HTO.out
    unfold TO.ok at h ⊢
    cases o with
    | none => exact BF.below h hbV
    | some q => exact KF.below h hbV)
   have HPB := Lib.hid (Nat.lt_of_lt_of_le HPB0.out hbV.size)
   have HCV := Lib.hid (fun (i : Nat) (t : TV) (hi : (L.map Prod.fst)[i]? = some t) (j : Nat) (v : Value) (hj : t.cells[j]? = some v) => (hbV.cell (p := ⟨pb, po + i * 8 + j, none⟩) HPB0.out).trans (HCS.out i t hi j v hj))
   have HKI := Lib.hid hkI
   clear hV hbV hA4 hkI c0 c1 c2 c3 c4 c5 c6 c7 HCS HPB0 hkl
   cases o with
   | none =>
    have NF := Lib.hid (show BF V t.c from HTO.out)
    have HEND := Lib.hid (show false = bv by
     rw [HBV.out]
     refine (decide_eq_false fun hh => ?_).symm
     obtain ⟨e', q', h1, h2, -⟩ := HOK.out k (by rw [hh, HLN.out]; exact HKL.out)
     rw [HE.out] at h1
     cases h1
     cases h2)
    clear HTO HCV
    go_upto_region 4 with (fail)
    refine Go.FreshS.wp_region_fresh 25 [] (Go.FreshS.spOf [(2, Go.FreshS.Sp.know (.bool false))])
     (fun w' => Below V.heap.size V w') (by kernel_rfl) (by kernel_rfl) (by kernel_rfl)
     (Go.FreshS.spOf_cons (Go.FreshS.Sp.know_keeps _ _) (Go.FreshS.spOf_nil)) (fun _ _ h hb => h.trans (hb.mono h.size)) ((Below.refl _ _).drew) ?_
    simp only [List.append_eq, List.cons_append, List.nil_append, List.take_succ_cons, List.take_zero, List.drop_succ_cons, List.drop_zero]
    refine Go.FreshS.wpF_reads rfl rfl rfl ?_ (fun w' hw' => ?_) ?_
    rotate_left
    ·have hb' := hw'.world
     skip
     clear hw'
     go_simp
     try rfl
    conv => arg 10; simp only [Act.put, List.setIfInBounds_toArray, List.set_cons_succ, List.set_cons_zero]
    refine Go.FreshS.wpF_reads rfl rfl rfl ?_ (fun w' hw' => ?_) ?_
    rotate_left
    ·have hb' := hw'.world
     have hs0 := (B4.out.below hb' B4.out.lt).cell (i := 0) rfl
     have hs1 := (B4.out.below hb' B4.out.lt).cell (i := 1) rfl
     have hs2 := (B4.out.below hb' B4.out.lt).cell (i := 2) rfl
     have hs3 := (B4.out.below hb' B4.out.lt).cell (i := 3) rfl
     have hs4 := (B4.out.below hb' B4.out.lt).cell (i := 4) rfl
     have hs5 := (B4.out.below hb' B4.out.lt).cell (i := 5) rfl
     have hs6 := (B4.out.below hb' B4.out.lt).cell (i := 6) rfl
     have hs7 := (B4.out.below hb' B4.out.lt).cell (i := 7) rfl
     have hsf := (B4.out.below hb' B4.out.lt).fz
     have hsl := (B4.out.below hb' B4.out.lt).lt
     clear hw'
     go_simp
     try rfl
    conv => arg 10; simp only [Act.put, List.setIfInBounds_toArray, List.set_cons_succ, List.set_cons_zero]
    refine Go.FreshS.wpF_spec rfl rfl rfl (fun w' hw' => ?_) ?_
    ·have hb' := hw'.world
     refine Go.FreshS.gives_of (Go.FreshS.PK (.bool false)) ?_ (fun _ _ h => h.post)
     go_simp
     have CT := qcheckB (NF.out.below hb') HLF.out
     refine CT.mono ?_
     rintro e w'' ⟨rfl, hb⟩
     exact ⟨_, rfl, rfl, hb⟩
    rintro _ rfl
    conv => arg 10; simp only [Act.put, List.setIfInBounds_toArray, List.set_cons_succ, List.set_cons_zero]
    refine Go.FreshS.wpF_reads rfl rfl rfl ?_ (fun w' hw' => ?_) ?_
    rotate_left
    ·have hb' := hw'.world
     skip
     clear hw'
     go_simp
     try rfl
    conv => arg 10; simp only [Act.put, List.setIfInBounds_toArray, List.set_cons_succ, List.set_cons_zero]
    refine Go.FreshS.wpF_reads rfl rfl rfl ?_ (fun w' hw' => ?_) ?_
    rotate_left
    ·have hb' := hw'.world
     skip
     clear hw'
     go_simp
     try rfl
    conv => arg 10; simp only [Act.put, List.setIfInBounds_toArray, List.set_cons_succ, List.set_cons_zero]
    refine Go.FreshS.wpF_skip (by rfl) rfl ?_
    conv => arg 10; simp only [Act.put, List.setIfInBounds_toArray, List.set_cons_succ, List.set_cons_zero]
    refine Go.FreshS.wpF_skip (by rfl) rfl ?_
    conv => arg 10; simp only [Act.put, List.setIfInBounds_toArray, List.set_cons_succ, List.set_cons_zero]
    refine Go.FreshS.wpF_skip (by rfl) rfl ?_
    conv => arg 10; simp only [Act.put, List.setIfInBounds_toArray, List.set_cons_succ, List.set_cons_zero]
    refine Go.FreshS.wpF_skip (by rfl) rfl ?_
    conv => arg 10; simp only [Act.put, List.setIfInBounds_toArray, List.set_cons_succ, List.set_cons_zero]
    refine Go.FreshS.wpF_reads rfl rfl rfl ?_ (fun w' hw' => ?_) ?_
    rotate_left
    ·have hb' := hw'.world
     skip
     clear hw'
     go_simp
     try rfl
    conv => arg 10; simp only [Act.put, List.setIfInBounds_toArray, List.set_cons_succ, List.set_cons_zero]
    refine Go.FreshS.wpF_reads rfl rfl rfl ?_ (fun w' hw' => ?_) ?_
    rotate_left
    ·have hb' := hw'.world
     skip
     clear hw'
     go_simp
     try rfl
    conv => arg 10; simp only [Act.put, List.setIfInBounds_toArray, List.set_cons_succ, List.set_cons_zero]
    refine Go.FreshS.wpF_skip (by rfl) rfl ?_
    conv => arg 10; simp only [Act.put, List.setIfInBounds_toArray, List.set_cons_succ, List.set_cons_zero]
    refine Go.FreshS.wpF_skip (by rfl) rfl ?_
    conv => arg 10; simp only [Act.put, List.setIfInBounds_toArray, List.set_cons_succ, List.set_cons_zero]
    refine Go.FreshS.wpF_skip (by rfl) rfl ?_
    conv => arg 10; simp only [Act.put, List.setIfInBounds_toArray, List.set_cons_succ, List.set_cons_zero]
    refine Go.FreshS.wpF_skip (by rfl) rfl ?_
    conv => arg 10; simp only [Act.put, List.setIfInBounds_toArray, List.set_cons_succ, List.set_cons_zero]
    refine Go.FreshS.wpF_skip (by rfl) rfl ?_
    conv => arg 10; simp only [Act.put, List.setIfInBounds_toArray, List.set_cons_succ, List.set_cons_zero]
    refine Go.FreshS.wpF_skip (by rfl) rfl ?_
    conv => arg 10; simp only [Act.put, List.setIfInBounds_toArray, List.set_cons_succ, List.set_cons_zero]
    refine Go.FreshS.wpF_skip (by rfl) rfl ?_
    conv => arg 10; simp only [Act.put, List.setIfInBounds_toArray, List.set_cons_succ, List.set_cons_zero]
    refine Go.FreshS.wpF_skip (by rfl) rfl ?_
    conv => arg 10; simp only [Act.put, List.setIfInBounds_toArray, List.set_cons_succ, List.set_cons_zero]
    refine Go.FreshS.wpF_skip (by rfl) rfl ?_
    conv => arg 10; simp only [Act.put, List.setIfInBounds_toArray, List.set_cons_succ, List.set_cons_zero]
    refine Go.FreshS.wpF_skip (by rfl) rfl ?_
    conv => arg 10; simp only [Act.put, List.setIfInBounds_toArray, List.set_cons_succ, List.set_cons_zero]
    refine Go.FreshS.wpF_skip (by rfl) rfl ?_
    conv => arg 10; simp only [Act.put, List.setIfInBounds_toArray, List.set_cons_succ, List.set_cons_zero]
    refine Go.FreshS.wpF_skip (by rfl) rfl ?_
    conv => arg 10; simp only [Act.put, List.setIfInBounds_toArray, List.set_cons_succ, List.set_cons_zero]
    refine Go.FreshS.wpF_skip (by rfl) rfl ?_
    conv => arg 10; simp only [Act.put, List.setIfInBounds_toArray, List.set_cons_succ, List.set_cons_zero]
    refine Go.FreshS.wpF_skip (by rfl) rfl ?_
    conv => arg 10; simp only [Act.put, List.setIfInBounds_toArray, List.set_cons_succ, List.set_cons_zero]
    refine Go.FreshS.wpF_nil (fun w101 hb hF => ?_)
    clear hF
    have NF := Lib.hid (NF.out.below hb)
    have B4 := Lib.hid (B4.out.below hb B4.out.lt)
    have KG := Lib.hid (KG.out.trans (hb.mono KG.out.size))
    clear hb
    go_wp2_with fail
    go_ret
    exact ⟨by rw [HEND.out] <;> rfl, KG.out⟩
   | some q =>
    have NF := Lib.hid (show KF V t.c q from HTO.out)
    have LQq := Lib.hid (show LQ q 900000 from ⟨by have h1 : t.c.t.n ≤ 900000 := HLF.out.1; have h2 := NF.out.t.n; omega, by have h1 : t.c.l.n ≤ 900000 := HLF.out.2; have h2 := NF.out.l.n; omega⟩)
    by_cases hq : q = 0
    ·have HSG := Lib.hid (q_num.2 hq)
     have HEND := Lib.hid (show false = bv by
      rw [HBV.out]
      refine (decide_eq_false fun hh => ?_).symm
      obtain ⟨e', q', h1, h2, h3, -⟩ := HOK.out k (by rw [hh, HLN.out]; exact HKL.out)
      rw [HE.out] at h1
      cases h1
      cases h2
      exact h3 hq)
     clear HTO HCV hq
     go_upto_region 4 with (fail)
     refine Go.FreshS.wp_region_fresh 25 [] (Go.FreshS.spOf [(2, Go.FreshS.Sp.know (.bool true)), (7, Go.FreshS.Sp.know (.int .i64 0))])
      (fun w' => Below V.heap.size V w') (by kernel_rfl) (by kernel_rfl) (by kernel_rfl)
      (Go.FreshS.spOf_cons (Go.FreshS.Sp.know_keeps _ _) (Go.FreshS.spOf_cons (Go.FreshS.Sp.know_keeps _ _) (Go.FreshS.spOf_nil))) (fun _ _ h hb => h.trans (hb.mono h.size)) ((Below.refl _ _).drew) ?_
     simp only [List.append_eq, List.cons_append, List.nil_append, List.take_succ_cons, List.take_zero, List.drop_succ_cons, List.drop_zero]
     refine Go.FreshS.wpF_reads rfl rfl rfl ?_ (fun w' hw' => ?_) ?_
     rotate_left
     ·have hb' := hw'.world
      skip
      clear hw'
      go_simp
      try rfl
     conv => arg 10; simp only [Act.put, List.setIfInBounds_toArray, List.set_cons_succ, List.set_cons_zero]
     refine Go.FreshS.wpF_reads rfl rfl rfl ?_ (fun w' hw' => ?_) ?_
     rotate_left
     ·have hb' := hw'.world
      have hs0 := (B4.out.below hb' B4.out.lt).cell (i := 0) rfl
      have hs1 := (B4.out.below hb' B4.out.lt).cell (i := 1) rfl
      have hs2 := (B4.out.below hb' B4.out.lt).cell (i := 2) rfl
      have hs3 := (B4.out.below hb' B4.out.lt).cell (i := 3) rfl
      have hs4 := (B4.out.below hb' B4.out.lt).cell (i := 4) rfl
      have hs5 := (B4.out.below hb' B4.out.lt).cell (i := 5) rfl
      have hs6 := (B4.out.below hb' B4.out.lt).cell (i := 6) rfl
      have hs7 := (B4.out.below hb' B4.out.lt).cell (i := 7) rfl
      have hsf := (B4.out.below hb' B4.out.lt).fz
      have hsl := (B4.out.below hb' B4.out.lt).lt
      clear hw'
      go_simp
      try rfl
     conv => arg 10; simp only [Act.put, List.setIfInBounds_toArray, List.set_cons_succ, List.set_cons_zero]
     refine Go.FreshS.wpF_spec rfl rfl rfl (fun w' hw' => ?_) ?_
     ·have hb' := hw'.world
      refine Go.FreshS.gives_of (Go.FreshS.PK (.bool true)) ?_ (fun _ _ h => h.post)
      go_simp
      have CT := qcheck (NF.out.below hb') (((NF.out.below hb')).len LQq.out (by decide : _ ≤ 900000))
      refine CT.mono ?_
      rintro e w'' ⟨rfl, hb⟩
      exact ⟨_, rfl, rfl, hb⟩
     rintro _ rfl
     conv => arg 10; simp only [Act.put, List.setIfInBounds_toArray, List.set_cons_succ, List.set_cons_zero]
     refine Go.FreshS.wpF_reads rfl rfl rfl ?_ (fun w' hw' => ?_) ?_
     rotate_left
     ·have hb' := hw'.world
      skip
      clear hw'
      go_simp
      try rfl
     conv => arg 10; simp only [Act.put, List.setIfInBounds_toArray, List.set_cons_succ, List.set_cons_zero]
     refine Go.FreshS.wpF_reads rfl rfl rfl ?_ (fun w' hw' => ?_) ?_
     rotate_left
     ·have hb' := hw'.world
      skip
      clear hw'
      go_simp
      try rfl
     conv => arg 10; simp only [Act.put, List.setIfInBounds_toArray, List.set_cons_succ, List.set_cons_zero]
     refine Go.FreshS.wpF_readsG (by rfl) rfl rfl ?_ (fun w' hw' => ?_) ?_
     rotate_left
     ·have hb' := hw'.world
      skip
      clear hw'
      go_simp
      try rfl
     conv => arg 10; simp only [Act.put, List.setIfInBounds_toArray, List.set_cons_succ, List.set_cons_zero]
     refine Go.FreshS.wpF_readsG (by rfl) rfl rfl ?_ (fun w' hw' => ?_) ?_
     rotate_left
     ·have hb' := hw'.world
      have hs0 := (B4.out.below hb' B4.out.lt).cell (i := 0) rfl
      have hs1 := (B4.out.below hb' B4.out.lt).cell (i := 1) rfl
      have hs2 := (B4.out.below hb' B4.out.lt).cell (i := 2) rfl
      have hs3 := (B4.out.below hb' B4.out.lt).cell (i := 3) rfl
      have hs4 := (B4.out.below hb' B4.out.lt).cell (i := 4) rfl
      have hs5 := (B4.out.below hb' B4.out.lt).cell (i := 5) rfl
      have hs6 := (B4.out.below hb' B4.out.lt).cell (i := 6) rfl
      have hs7 := (B4.out.below hb' B4.out.lt).cell (i := 7) rfl
      have hsf := (B4.out.below hb' B4.out.lt).fz
      have hsl := (B4.out.below hb' B4.out.lt).lt
      clear hw'
      go_simp
      try rfl
     conv => arg 10; simp only [Act.put, List.setIfInBounds_toArray, List.set_cons_succ, List.set_cons_zero]
     refine Go.FreshS.wpF_gspec (by rfl) rfl rfl (fun w' hw' => ?_) ?_
     ·have hb' := hw'.world
      refine Go.FreshS.gives_of (Go.FreshS.PK (.int .i64 0)) ?_ (fun _ _ h => h.post)
      go_simp
      have CT := qsign ((NF.out.below hb')).any (((NF.out.below hb')).len LQq.out (by decide : _ ≤ 900000))
      rw [show cmpZ q.num 0 = 0 from HSG.out] at CT
      refine CT.mono ?_
      rintro e w'' ⟨rfl, hb⟩
      exact ⟨_, rfl, rfl, hb⟩
     rintro _ rfl
     conv => arg 10; simp only [Act.put, List.setIfInBounds_toArray, List.set_cons_succ, List.set_cons_zero]
     refine Go.FreshS.wpF_readsG (by rfl) rfl rfl ?_ (fun w' hw' => ?_) ?_
     rotate_left
     ·have hb' := hw'.world
      skip
      clear hw'
      go_simp
      try rfl
     conv => arg 10; simp only [Act.put, List.setIfInBounds_toArray, List.set_cons_succ, List.set_cons_zero]
     refine Go.FreshS.wpF_reads rfl rfl rfl ?_ (fun w' hw' => ?_) ?_
     rotate_left
     ·have hb' := hw'.world
      skip
      clear hw'
      go_simp
      try rfl
     conv => arg 10; simp only [Act.put, List.setIfInBounds_toArray, List.set_cons_succ, List.set_cons_zero]
     refine Go.FreshS.wpF_reads rfl rfl rfl ?_ (fun w' hw' => ?_) ?_
     rotate_left
     ·have hb' := hw'.world
      skip
      clear hw'
      go_simp
      try rfl
     conv => arg 10; simp only [Act.put, List.setIfInBounds_toArray, List.set_cons_succ, List.set_cons_zero]
     refine Go.FreshS.wpF_skip (by rfl) rfl ?_
     conv => arg 10; simp only [Act.put, List.setIfInBounds_toArray, List.set_cons_succ, List.set_cons_zero]
     refine Go.FreshS.wpF_skip (by rfl) rfl ?_
     conv => arg 10; simp only [Act.put, List.setIfInBounds_toArray, List.set_cons_succ, List.set_cons_zero]
     refine Go.FreshS.wpF_skip (by rfl) rfl ?_
     conv => arg 10; simp only [Act.put, List.setIfInBounds_toArray, List.set_cons_succ, List.set_cons_zero]
     refine Go.FreshS.wpF_skip (by rfl) rfl ?_
     conv => arg 10; simp only [Act.put, List.setIfInBounds_toArray, List.set_cons_succ, List.set_cons_zero]
     refine Go.FreshS.wpF_skip (by rfl) rfl ?_
     conv => arg 10; simp only [Act.put, List.setIfInBounds_toArray, List.set_cons_succ, List.set_cons_zero]
     refine Go.FreshS.wpF_skip (by rfl) rfl ?_
     conv => arg 10; simp only [Act.put, List.setIfInBounds_toArray, List.set_cons_succ, List.set_cons_zero]
     refine Go.FreshS.wpF_skip (by rfl) rfl ?_
     conv => arg 10; simp only [Act.put, List.setIfInBounds_toArray, List.set_cons_succ, List.set_cons_zero]
     refine Go.FreshS.wpF_skip (by rfl) rfl ?_
     conv => arg 10; simp only [Act.put, List.setIfInBounds_toArray, List.set_cons_succ, List.set_cons_zero]
     refine Go.FreshS.wpF_skip (by rfl) rfl ?_
     conv => arg 10; simp only [Act.put, List.setIfInBounds_toArray, List.set_cons_succ, List.set_cons_zero]
     refine Go.FreshS.wpF_skip (by rfl) rfl ?_
     conv => arg 10; simp only [Act.put, List.setIfInBounds_toArray, List.set_cons_succ, List.set_cons_zero]
     refine Go.FreshS.wpF_skip (by rfl) rfl ?_
     conv => arg 10; simp only [Act.put, List.setIfInBounds_toArray, List.set_cons_succ, List.set_cons_zero]
     refine Go.FreshS.wpF_skip (by rfl) rfl ?_
     conv => arg 10; simp only [Act.put, List.setIfInBounds_toArray, List.set_cons_succ, List.set_cons_zero]
     refine Go.FreshS.wpF_skip (by rfl) rfl ?_
     conv => arg 10; simp only [Act.put, List.setIfInBounds_toArray, List.set_cons_succ, List.set_cons_zero]
     refine Go.FreshS.wpF_skip (by rfl) rfl ?_
     conv => arg 10; simp only [Act.put, List.setIfInBounds_toArray, List.set_cons_succ, List.set_cons_zero]
     refine Go.FreshS.wpF_nil (fun w102 hb hF => ?_)
     clear hF
     have NF := Lib.hid (NF.out.below hb)
     have B4 := Lib.hid (B4.out.below hb B4.out.lt)
     have KG := Lib.hid (KG.out.trans (hb.mono KG.out.size))
     clear hb
     go_wp2_with fail
     go_ret
     exact ⟨by rw [HEND.out] <;> rfl, KG.out⟩
    ·obtain ⟨sg, hsg⟩ : ∃ c, c = cmpZ q.num 0 := ⟨_, rfl⟩
     have HSG := Lib.hid hsg.symm
     have gsg : (sg == 0) = false := by
      rw [hsg]
      simpa using fun h => hq (q_num.1 h)
     have HQ := Lib.hid hq
     clear hsg hq HTO
     rcases Nat.eq_zero_or_pos k with h0 | h0
     ·have HKK := Lib.hid (show k < k0 from Nat.lt_of_le_of_ne HKK0.out fun hh => HBAD.out (by rw [← hh, HLN.out]; exact HKL.out) (by rw [← hh]; exact ⟨_, q, HE.out, rfl, HQ.out, fun h => by omega⟩))
      have gk : decide (0 < kI) = false := decide_eq_false (by have := HKI.out; omega)
      have gk2 : ¬ (0 < kI) := by have := HKI.out; omega
      clear h0 HCV
      go_upto_region 4 with (fail)
      refine Go.FreshS.wp_region_fresh 25 [] (Go.FreshS.spOf [(2, Go.FreshS.Sp.know (.bool true)), (7, Go.FreshS.Sp.know (.int .i64 sg))])
       (fun w' => Below V.heap.size V w') (by kernel_rfl) (by kernel_rfl) (by kernel_rfl)
       (Go.FreshS.spOf_cons (Go.FreshS.Sp.know_keeps _ _) (Go.FreshS.spOf_cons (Go.FreshS.Sp.know_keeps _ _) (Go.FreshS.spOf_nil))) (fun _ _ h hb => h.trans (hb.mono h.size)) ((Below.refl _ _).drew) ?_
      simp only [List.append_eq, List.cons_append, List.nil_append, List.take_succ_cons, List.take_zero, List.drop_succ_cons, List.drop_zero]
      refine Go.FreshS.wpF_reads rfl rfl rfl ?_ (fun w' hw' => ?_) ?_
      rotate_left
      ·have hb' := hw'.world
       skip
       clear hw'
       go_simp
       try rfl
      conv => arg 10; simp only [Act.put, List.setIfInBounds_toArray, List.set_cons_succ, List.set_cons_zero]
      refine Go.FreshS.wpF_reads rfl rfl rfl ?_ (fun w' hw' => ?_) ?_
      rotate_left
      ·have hb' := hw'.world
       have hs0 := (B4.out.below hb' B4.out.lt).cell (i := 0) rfl
       have hs1 := (B4.out.below hb' B4.out.lt).cell (i := 1) rfl
       have hs2 := (B4.out.below hb' B4.out.lt).cell (i := 2) rfl
       have hs3 := (B4.out.below hb' B4.out.lt).cell (i := 3) rfl
       have hs4 := (B4.out.below hb' B4.out.lt).cell (i := 4) rfl
       have hs5 := (B4.out.below hb' B4.out.lt).cell (i := 5) rfl
       have hs6 := (B4.out.below hb' B4.out.lt).cell (i := 6) rfl
       have hs7 := (B4.out.below hb' B4.out.lt).cell (i := 7) rfl
       have hsf := (B4.out.below hb' B4.out.lt).fz
       have hsl := (B4.out.below hb' B4.out.lt).lt
       clear hw'
       go_simp
       try rfl
      conv => arg 10; simp only [Act.put, List.setIfInBounds_toArray, List.set_cons_succ, List.set_cons_zero]
      refine Go.FreshS.wpF_spec rfl rfl rfl (fun w' hw' => ?_) ?_
      ·have hb' := hw'.world
       refine Go.FreshS.gives_of (Go.FreshS.PK (.bool true)) ?_ (fun _ _ h => h.post)
       go_simp
       have CT := qcheck (NF.out.below hb') (((NF.out.below hb')).len LQq.out (by decide : _ ≤ 900000))
       refine CT.mono ?_
       rintro e w'' ⟨rfl, hb⟩
       exact ⟨_, rfl, rfl, hb⟩
      rintro _ rfl
      conv => arg 10; simp only [Act.put, List.setIfInBounds_toArray, List.set_cons_succ, List.set_cons_zero]
      refine Go.FreshS.wpF_reads rfl rfl rfl ?_ (fun w' hw' => ?_) ?_
      rotate_left
      ·have hb' := hw'.world
       skip
       clear hw'
       go_simp
       try rfl
      conv => arg 10; simp only [Act.put, List.setIfInBounds_toArray, List.set_cons_succ, List.set_cons_zero]
      refine Go.FreshS.wpF_reads rfl rfl rfl ?_ (fun w' hw' => ?_) ?_
      rotate_left
      ·have hb' := hw'.world
       skip
       clear hw'
       go_simp
       try rfl
      conv => arg 10; simp only [Act.put, List.setIfInBounds_toArray, List.set_cons_succ, List.set_cons_zero]
      refine Go.FreshS.wpF_readsG (by rfl) rfl rfl ?_ (fun w' hw' => ?_) ?_
      rotate_left
      ·have hb' := hw'.world
       skip
       clear hw'
       go_simp
       try rfl
      conv => arg 10; simp only [Act.put, List.setIfInBounds_toArray, List.set_cons_succ, List.set_cons_zero]
      refine Go.FreshS.wpF_readsG (by rfl) rfl rfl ?_ (fun w' hw' => ?_) ?_
      rotate_left
      ·have hb' := hw'.world
       have hs0 := (B4.out.below hb' B4.out.lt).cell (i := 0) rfl
       have hs1 := (B4.out.below hb' B4.out.lt).cell (i := 1) rfl
       have hs2 := (B4.out.below hb' B4.out.lt).cell (i := 2) rfl
       have hs3 := (B4.out.below hb' B4.out.lt).cell (i := 3) rfl
       have hs4 := (B4.out.below hb' B4.out.lt).cell (i := 4) rfl
       have hs5 := (B4.out.below hb' B4.out.lt).cell (i := 5) rfl
       have hs6 := (B4.out.below hb' B4.out.lt).cell (i := 6) rfl
       have hs7 := (B4.out.below hb' B4.out.lt).cell (i := 7) rfl
       have hsf := (B4.out.below hb' B4.out.lt).fz
       have hsl := (B4.out.below hb' B4.out.lt).lt
       clear hw'
       go_simp
       try rfl
      conv => arg 10; simp only [Act.put, List.setIfInBounds_toArray, List.set_cons_succ, List.set_cons_zero]
      refine Go.FreshS.wpF_gspec (by rfl) rfl rfl (fun w' hw' => ?_) ?_
      ·have hb' := hw'.world
       refine Go.FreshS.gives_of (Go.FreshS.PK (.int .i64 sg)) ?_ (fun _ _ h => h.post)
       go_simp
       have CT := qsign ((NF.out.below hb')).any (((NF.out.below hb')).len LQq.out (by decide : _ ≤ 900000))
       rw [show cmpZ q.num 0 = sg from HSG.out] at CT
       refine CT.mono ?_
       rintro e w'' ⟨rfl, hb⟩
       exact ⟨_, rfl, rfl, hb⟩
      rintro _ rfl
      conv => arg 10; simp only [Act.put, List.setIfInBounds_toArray, List.set_cons_succ, List.set_cons_zero]
      refine Go.FreshS.wpF_readsG (by rfl) rfl rfl ?_ (fun w' hw' => ?_) ?_
      rotate_left
      ·have hb' := hw'.world
       skip
       clear hw'
       go_simp
       try rfl
      conv => arg 10; simp only [Act.put, List.setIfInBounds_toArray, List.set_cons_succ, List.set_cons_zero]
      refine Go.FreshS.wpF_reads rfl rfl rfl ?_ (fun w' hw' => ?_) ?_
      rotate_left
      ·have hb' := hw'.world
       skip
       clear hw'
       go_simp
       try rfl
      conv => arg 10; simp only [Act.put, List.setIfInBounds_toArray, List.set_cons_succ, List.set_cons_zero]
      refine Go.FreshS.wpF_reads rfl rfl rfl ?_ (fun w' hw' => ?_) ?_
      rotate_left
      ·have hb' := hw'.world
       skip
       clear hw'
       go_simp
       try rfl
      conv => arg 10; simp only [Act.put, List.setIfInBounds_toArray, List.set_cons_succ, List.set_cons_zero]
      refine Go.FreshS.wpF_readsG (by rfl) rfl rfl ?_ (fun w' hw' => ?_) ?_
      rotate_left
      ·have hb' := hw'.world
       skip
       clear hw'
       go_simp
       try rfl
      conv => arg 10; simp only [Act.put, List.setIfInBounds_toArray, List.set_cons_succ, List.set_cons_zero]
      refine Go.FreshS.wpF_readsG (by rfl) rfl rfl ?_ (fun w' hw' => ?_) ?_
      rotate_left
      ·have hb' := hw'.world
       skip
       clear hw'
       go_simp
       try rfl
      conv => arg 10; simp only [Act.put, List.setIfInBounds_toArray, List.set_cons_succ, List.set_cons_zero]
      refine Go.FreshS.wpF_readsG (by rfl) rfl rfl ?_ (fun w' hw' => ?_) ?_
      rotate_left
      ·have hb' := hw'.world
       skip
       clear hw'
       go_simp
       try rfl
      conv => arg 10; simp only [Act.put, List.setIfInBounds_toArray, List.set_cons_succ, List.set_cons_zero]
      refine Go.FreshS.wpF_skip (by rfl) rfl ?_
      conv => arg 10; simp only [Act.put, List.setIfInBounds_toArray, List.set_cons_succ, List.set_cons_zero]
      refine Go.FreshS.wpF_skip (by rfl) rfl ?_
      conv => arg 10; simp only [Act.put, List.setIfInBounds_toArray, List.set_cons_succ, List.set_cons_zero]
      refine Go.FreshS.wpF_skip (by rfl) rfl ?_
      conv => arg 10; simp only [Act.put, List.setIfInBounds_toArray, List.set_cons_succ, List.set_cons_zero]
      refine Go.FreshS.wpF_skip (by rfl) rfl ?_
      conv => arg 10; simp only [Act.put, List.setIfInBounds_toArray, List.set_cons_succ, List.set_cons_zero]
      refine Go.FreshS.wpF_skip (by rfl) rfl ?_
      conv => arg 10; simp only [Act.put, List.setIfInBounds_toArray, List.set_cons_succ, List.set_cons_zero]
      refine Go.FreshS.wpF_skip (by rfl) rfl ?_
      conv => arg 10; simp only [Act.put, List.setIfInBounds_toArray, List.set_cons_succ, List.set_cons_zero]
      refine Go.FreshS.wpF_skip (by rfl) rfl ?_
      conv => arg 10; simp only [Act.put, List.setIfInBounds_toArray, List.set_cons_succ, List.set_cons_zero]
      refine Go.FreshS.wpF_skip (by rfl) rfl ?_
      conv => arg 10; simp only [Act.put, List.setIfInBounds_toArray, List.set_cons_succ, List.set_cons_zero]
      refine Go.FreshS.wpF_skip (by rfl) rfl ?_
      conv => arg 10; simp only [Act.put, List.setIfInBounds_toArray, List.set_cons_succ, List.set_cons_zero]
      refine Go.FreshS.wpF_skip (by rfl) rfl ?_
      conv => arg 10; simp only [Act.put, List.setIfInBounds_toArray, List.set_cons_succ, List.set_cons_zero]
      refine Go.FreshS.wpF_readsG (by rfl) rfl rfl ?_ (fun w' hw' => ?_) ?_
      rotate_left
      ·have hb' := hw'.world
       skip
       clear hw'
       go_simp
       try rfl
      conv => arg 10; simp only [Act.put, List.setIfInBounds_toArray, List.set_cons_succ, List.set_cons_zero]
      refine Go.FreshS.wpF_nil (fun w103 hb hF => ?_)
      clear hF
      have NF := Lib.hid (NF.out.below hb)
      have B4 := Lib.hid (B4.out.below hb B4.out.lt)
      have KG := Lib.hid (KG.out.trans (hb.mono KG.out.size))
      clear hb
      have ek1 : IntKind.i64.wrap ((k : Int) + 1) = (k : Int) + 1 := IntWalk.i64_in _ (by have := HKL.out; have := HN.out; omega)
      have ek2 : IntKind.i64.wrap (kI + 1) = kI + 1 := IntWalk.i64_in _ (by have := HKI.out; have := HKL.out; have := HN.out; omega)
      go_wp2_with fail
      go_roundw
      case rel => exact ⟨k + 1, by have := HKK.out; omega, congrArg (Value.int .i64) (by have := HKI.out; omega), KG.out⟩
      case measure => have := HKI.out; have := HKL.out; simp [intOf]; omega
     ·obtain ⟨j, hj⟩ : ∃ j, k = j + 1 := ⟨k - 1, by omega⟩
      have gk : decide (0 < kI) = true := decide_eq_true (by have := HKI.out; omega)
      have gk2 : 0 < kI := by have := HKI.out; omega
      have ej : IntKind.i64.wrap (kI - 1) = (j : Int) := by have := HKI.out; have := HKL.out; have := HN.out; rw [IntWalk.i64_in _ (by omega)]; omega
      have HJN := Lib.hid (show j < xn by have := HKL.out; omega)
      have HJK := Lib.hid hj
      obtain ⟨d, hd⟩ : ∃ d, L[j]? = some d := ⟨_, List.getElem?_eq_getElem (by rw [HLN.out]; exact HJN.out)⟩
      obtain ⟨tj, oj⟩ := d
      have HD := Lib.hid hd
      have hj8 := RT.eight (w := V) HCV.out (i := j) (t := tj) (by rw [List.getElem?_map, hd]; rfl)
      have HJ4 := Lib.hid hj8.2.2.2.2.1
      have HJ5 := Lib.hid hj8.2.2.2.2.2.1
      have HJ6 := Lib.hid hj8.2.2.2.2.2.2.1
      have HJ7 := Lib.hid hj8.2.2.2.2.2.2.2
      obtain ⟨fv, hfv⟩ : ∃ c, c = cmpMo t.m tj.m := ⟨_, rfl⟩
      have HFV := Lib.hid hfv.symm
      clear hd hj8 HCV h0 hj
      by_cases hlt : t.m.lt tj.m
      ·have gf : decide (0 ≤ fv) = false := decide_eq_false (by have := cmpMo_lt.2 hlt; omega)
       have gf2 : ¬ (0 ≤ fv) := by have := cmpMo_lt.2 hlt; omega
       have HKK := Lib.hid (show k < k0 from Nat.lt_of_le_of_ne HKK0.out fun hh => HBAD.out (by rw [← hh, HLN.out]; exact HKL.out) (by rw [← hh]; exact ⟨_, q, HE.out, rfl, HQ.out, fun _ => ⟨_, by rw [HJK.out]; exact HD.out, hlt⟩⟩))
       clear hfv hlt
       go_upto_region 4 with (fail)
       refine Go.FreshS.wp_region_fresh 25 [] (Go.FreshS.spOf [(2, Go.FreshS.Sp.know (.bool true)), (7, Go.FreshS.Sp.know (.int .i64 sg)), (22, Go.FreshS.Sp.know (.int .i64 fv))])
        (fun w' => Below V.heap.size V w') (by kernel_rfl) (by kernel_rfl) (by kernel_rfl)
        (Go.FreshS.spOf_cons (Go.FreshS.Sp.know_keeps _ _) (Go.FreshS.spOf_cons (Go.FreshS.Sp.know_keeps _ _) (Go.FreshS.spOf_cons (Go.FreshS.Sp.know_keeps _ _) (Go.FreshS.spOf_nil)))) (fun _ _ h hb => h.trans (hb.mono h.size)) ((Below.refl _ _).drew) ?_
       simp only [List.append_eq, List.cons_append, List.nil_append, List.take_succ_cons, List.take_zero, List.drop_succ_cons, List.drop_zero]
       refine Go.FreshS.wpF_reads rfl rfl rfl ?_ (fun w' hw' => ?_) ?_
       rotate_left
       ·have hb' := hw'.world
        skip
        clear hw'
        go_simp
        try rfl
       conv => arg 10; simp only [Act.put, List.setIfInBounds_toArray, List.set_cons_succ, List.set_cons_zero]
       refine Go.FreshS.wpF_reads rfl rfl rfl ?_ (fun w' hw' => ?_) ?_
       rotate_left
       ·have hb' := hw'.world
        have hs0 := (B4.out.below hb' B4.out.lt).cell (i := 0) rfl
        have hs1 := (B4.out.below hb' B4.out.lt).cell (i := 1) rfl
        have hs2 := (B4.out.below hb' B4.out.lt).cell (i := 2) rfl
        have hs3 := (B4.out.below hb' B4.out.lt).cell (i := 3) rfl
        have hs4 := (B4.out.below hb' B4.out.lt).cell (i := 4) rfl
        have hs5 := (B4.out.below hb' B4.out.lt).cell (i := 5) rfl
        have hs6 := (B4.out.below hb' B4.out.lt).cell (i := 6) rfl
        have hs7 := (B4.out.below hb' B4.out.lt).cell (i := 7) rfl
        have hsf := (B4.out.below hb' B4.out.lt).fz
        have hsl := (B4.out.below hb' B4.out.lt).lt
        clear hw'
        go_simp
        try rfl
       conv => arg 10; simp only [Act.put, List.setIfInBounds_toArray, List.set_cons_succ, List.set_cons_zero]
       refine Go.FreshS.wpF_spec rfl rfl rfl (fun w' hw' => ?_) ?_
       ·have hb' := hw'.world
        refine Go.FreshS.gives_of (Go.FreshS.PK (.bool true)) ?_ (fun _ _ h => h.post)
        go_simp
        have CT := qcheck (NF.out.below hb') (((NF.out.below hb')).len LQq.out (by decide : _ ≤ 900000))
        refine CT.mono ?_
        rintro e w'' ⟨rfl, hb⟩
        exact ⟨_, rfl, rfl, hb⟩
       rintro _ rfl
       conv => arg 10; simp only [Act.put, List.setIfInBounds_toArray, List.set_cons_succ, List.set_cons_zero]
       refine Go.FreshS.wpF_reads rfl rfl rfl ?_ (fun w' hw' => ?_) ?_
       rotate_left
       ·have hb' := hw'.world
        skip
        clear hw'
        go_simp
        try rfl
       conv => arg 10; simp only [Act.put, List.setIfInBounds_toArray, List.set_cons_succ, List.set_cons_zero]
       refine Go.FreshS.wpF_reads rfl rfl rfl ?_ (fun w' hw' => ?_) ?_
       rotate_left
       ·have hb' := hw'.world
        skip
        clear hw'
        go_simp
        try rfl
       conv => arg 10; simp only [Act.put, List.setIfInBounds_toArray, List.set_cons_succ, List.set_cons_zero]
       refine Go.FreshS.wpF_readsG (by rfl) rfl rfl ?_ (fun w' hw' => ?_) ?_
       rotate_left
       ·have hb' := hw'.world
        skip
        clear hw'
        go_simp
        try rfl
       conv => arg 10; simp only [Act.put, List.setIfInBounds_toArray, List.set_cons_succ, List.set_cons_zero]
       refine Go.FreshS.wpF_readsG (by rfl) rfl rfl ?_ (fun w' hw' => ?_) ?_
       rotate_left
       ·have hb' := hw'.world
        have hs0 := (B4.out.below hb' B4.out.lt).cell (i := 0) rfl
        have hs1 := (B4.out.below hb' B4.out.lt).cell (i := 1) rfl
        have hs2 := (B4.out.below hb' B4.out.lt).cell (i := 2) rfl
        have hs3 := (B4.out.below hb' B4.out.lt).cell (i := 3) rfl
        have hs4 := (B4.out.below hb' B4.out.lt).cell (i := 4) rfl
        have hs5 := (B4.out.below hb' B4.out.lt).cell (i := 5) rfl
        have hs6 := (B4.out.below hb' B4.out.lt).cell (i := 6) rfl
        have hs7 := (B4.out.below hb' B4.out.lt).cell (i := 7) rfl
        have hsf := (B4.out.below hb' B4.out.lt).fz
        have hsl := (B4.out.below hb' B4.out.lt).lt
        clear hw'
        go_simp
        try rfl
       conv => arg 10; simp only [Act.put, List.setIfInBounds_toArray, List.set_cons_succ, List.set_cons_zero]
       refine Go.FreshS.wpF_gspec (by rfl) rfl rfl (fun w' hw' => ?_) ?_
       ·have hb' := hw'.world
        refine Go.FreshS.gives_of (Go.FreshS.PK (.int .i64 sg)) ?_ (fun _ _ h => h.post)
        go_simp
        have CT := qsign ((NF.out.below hb')).any (((NF.out.below hb')).len LQq.out (by decide : _ ≤ 900000))
        rw [show cmpZ q.num 0 = sg from HSG.out] at CT
        refine CT.mono ?_
        rintro e w'' ⟨rfl, hb⟩
        exact ⟨_, rfl, rfl, hb⟩
       rintro _ rfl
       conv => arg 10; simp only [Act.put, List.setIfInBounds_toArray, List.set_cons_succ, List.set_cons_zero]
       refine Go.FreshS.wpF_readsG (by rfl) rfl rfl ?_ (fun w' hw' => ?_) ?_
       rotate_left
       ·have hb' := hw'.world
        skip
        clear hw'
        go_simp
        try rfl
       conv => arg 10; simp only [Act.put, List.setIfInBounds_toArray, List.set_cons_succ, List.set_cons_zero]
       refine Go.FreshS.wpF_reads rfl rfl rfl ?_ (fun w' hw' => ?_) ?_
       rotate_left
       ·have hb' := hw'.world
        skip
        clear hw'
        go_simp
        try rfl
       conv => arg 10; simp only [Act.put, List.setIfInBounds_toArray, List.set_cons_succ, List.set_cons_zero]
       refine Go.FreshS.wpF_reads rfl rfl rfl ?_ (fun w' hw' => ?_) ?_
       rotate_left
       ·have hb' := hw'.world
        skip
        clear hw'
        go_simp
        try rfl
       conv => arg 10; simp only [Act.put, List.setIfInBounds_toArray, List.set_cons_succ, List.set_cons_zero]
       refine Go.FreshS.wpF_readsG (by rfl) rfl rfl ?_ (fun w' hw' => ?_) ?_
       rotate_left
       ·have hb' := hw'.world
        skip
        clear hw'
        go_simp
        try rfl
       conv => arg 10; simp only [Act.put, List.setIfInBounds_toArray, List.set_cons_succ, List.set_cons_zero]
       refine Go.FreshS.wpF_readsG (by rfl) rfl rfl ?_ (fun w' hw' => ?_) ?_
       rotate_left
       ·have hb' := hw'.world
        skip
        clear hw'
        go_simp
        try rfl
       conv => arg 10; simp only [Act.put, List.setIfInBounds_toArray, List.set_cons_succ, List.set_cons_zero]
       refine Go.FreshS.wpF_readsG (by rfl) rfl rfl ?_ (fun w' hw' => ?_) ?_
       rotate_left
       ·have hb' := hw'.world
        skip
        clear hw'
        go_simp
        try rfl
       conv => arg 10; simp only [Act.put, List.setIfInBounds_toArray, List.set_cons_succ, List.set_cons_zero]
       refine Go.FreshS.wpF_readsG (by rfl) rfl rfl ?_ (fun w' hw' => ?_) ?_
       rotate_left
       ·have hb' := hw'.world
        skip
        clear hw'
        go_simp
        try rfl
       conv => arg 10; simp only [Act.put, List.setIfInBounds_toArray, List.set_cons_succ, List.set_cons_zero]
       refine Go.FreshS.wpF_readsG (by rfl) rfl rfl ?_ (fun w' hw' => ?_) ?_
       rotate_left
       ·have hb' := hw'.world
        skip
        clear hw'
        go_simp
        try rfl
       conv => arg 10; simp only [Act.put, List.setIfInBounds_toArray, List.set_cons_succ, List.set_cons_zero]
       refine Go.FreshS.wpF_readsG (by rfl) rfl rfl ?_ (fun w' hw' => ?_) ?_
       rotate_left
       ·have hb' := hw'.world
        skip
        clear hw'
        go_simp
        try rfl
       conv => arg 10; simp only [Act.put, List.setIfInBounds_toArray, List.set_cons_succ, List.set_cons_zero]
       refine Go.FreshS.wpF_readsG (by rfl) rfl rfl ?_ (fun w' hw' => ?_) ?_
       rotate_left
       ·have hb' := hw'.world
        have hj9 : j < xn := HJN.out
        clear hw'
        go_simp
        try rfl
       conv => arg 10; simp only [Act.put, List.setIfInBounds_toArray, List.set_cons_succ, List.set_cons_zero]
       refine Go.FreshS.wpF_readsG (by rfl) rfl rfl ?_ (fun w' hw' => ?_) ?_
       rotate_left
       ·have hb' := hw'.world
        skip
        clear hw'
        go_simp
        try rfl
       conv => arg 10; simp only [Act.put, List.setIfInBounds_toArray, List.set_cons_succ, List.set_cons_zero]
       refine Go.FreshS.wpF_readsG (by rfl) rfl rfl ?_ (fun w' hw' => ?_) ?_
       rotate_left
       ·have hb' := hw'.world
        have hbx : Below V.heap.size V w' := hb'
        have e4 := (hbx.cell (p := ⟨pb, po + j * 8 + 4, none⟩) HPB.out).trans HJ4.out
        have e5 := (hbx.cell (p := ⟨pb, po + j * 8 + 5, none⟩) HPB.out).trans HJ5.out
        have e6 := (hbx.cell (p := ⟨pb, po + j * 8 + 6, none⟩) HPB.out).trans HJ6.out
        have e7 := (hbx.cell (p := ⟨pb, po + j * 8 + 7, none⟩) HPB.out).trans HJ7.out
        clear hw'
        go_simp
        try rfl
       conv => arg 10; simp only [Act.put, List.setIfInBounds_toArray, List.set_cons_succ, List.set_cons_zero]
       refine Go.FreshS.wpF_readsG (by rfl) rfl rfl ?_ (fun w' hw' => ?_) ?_
       rotate_left
       ·have hb' := hw'.world
        skip
        clear hw'
        go_simp
        try rfl
       conv => arg 10; simp only [Act.put, List.setIfInBounds_toArray, List.set_cons_succ, List.set_cons_zero]
       refine Go.FreshS.wpF_readsG (by rfl) rfl rfl ?_ (fun w' hw' => ?_) ?_
       rotate_left
       ·have hb' := hw'.world
        have hs0 := (B4.out.below hb' B4.out.lt).cell (i := 0) rfl
        have hs1 := (B4.out.below hb' B4.out.lt).cell (i := 1) rfl
        have hs2 := (B4.out.below hb' B4.out.lt).cell (i := 2) rfl
        have hs3 := (B4.out.below hb' B4.out.lt).cell (i := 3) rfl
        have hs4 := (B4.out.below hb' B4.out.lt).cell (i := 4) rfl
        have hs5 := (B4.out.below hb' B4.out.lt).cell (i := 5) rfl
        have hs6 := (B4.out.below hb' B4.out.lt).cell (i := 6) rfl
        have hs7 := (B4.out.below hb' B4.out.lt).cell (i := 7) rfl
        have hsf := (B4.out.below hb' B4.out.lt).fz
        have hsl := (B4.out.below hb' B4.out.lt).lt
        clear hw'
        go_simp
        try rfl
       conv => arg 10; simp only [Act.put, List.setIfInBounds_toArray, List.set_cons_succ, List.set_cons_zero]
       refine Go.FreshS.wpF_gspec (by rfl) rfl rfl (fun w' hw' => ?_) ?_
       ·have hb' := hw'.world
        refine Go.FreshS.gives_of (Go.FreshS.PK (.int .i64 fv)) ?_ (fun _ _ h => h.post)
        go_simp
        have CT := falls_any tj.m t.m w'
        rw [show cmpMo t.m tj.m = fv from HFV.out] at CT
        refine CT.mono ?_
        rintro e w'' ⟨rfl, hb⟩
        exact ⟨_, rfl, rfl, hb⟩
       rintro _ rfl
       conv => arg 10; simp only [Act.put, List.setIfInBounds_toArray, List.set_cons_succ, List.set_cons_zero]
       refine Go.FreshS.wpF_readsG (by rfl) rfl rfl ?_ (fun w' hw' => ?_) ?_
       rotate_left
       ·have hb' := hw'.world
        skip
        clear hw'
        go_simp
        try rfl
       conv => arg 10; simp only [Act.put, List.setIfInBounds_toArray, List.set_cons_succ, List.set_cons_zero]
       refine Go.FreshS.wpF_readsG (by rfl) rfl rfl ?_ (fun w' hw' => ?_) ?_
       rotate_left
       ·have hb' := hw'.world
        skip
        clear hw'
        go_simp
        try rfl
       conv => arg 10; simp only [Act.put, List.setIfInBounds_toArray, List.set_cons_succ, List.set_cons_zero]
       refine Go.FreshS.wpF_nil (fun w104 hb hF => ?_)
       clear hF
       have NF := Lib.hid (NF.out.below hb)
       have B4 := Lib.hid (B4.out.below hb B4.out.lt)
       have KG := Lib.hid (KG.out.trans (hb.mono KG.out.size))
       clear hb
       have ek1 : IntKind.i64.wrap ((k : Int) + 1) = (k : Int) + 1 := IntWalk.i64_in _ (by have := HKL.out; have := HN.out; omega)
       have ek2 : IntKind.i64.wrap (kI + 1) = kI + 1 := IntWalk.i64_in _ (by have := HKI.out; have := HKL.out; have := HN.out; omega)
       go_wp2_with fail
       go_roundw
       case rel => exact ⟨k + 1, by have := HKK.out; omega, congrArg (Value.int .i64) (by have := HKI.out; omega), KG.out⟩
       case measure => have := HKI.out; have := HKL.out; simp [intOf]; omega
      ·have h5 : ¬ cmpMo t.m tj.m < 0 := fun h => hlt (cmpMo_lt.1 h)
       have gf : decide (0 ≤ fv) = true := decide_eq_true (by omega)
       have gf2 : 0 ≤ fv := by omega
       clear h5
       have HEND := Lib.hid (show false = bv by
        rw [HBV.out]
        refine (decide_eq_false fun hh => ?_).symm
        obtain ⟨e', q', h1, h2, h3, h4⟩ := HOK.out k (by rw [hh, HLN.out]; exact HKL.out)
        obtain ⟨d', h5, h6⟩ := h4 (by have := HJK.out; omega)
        rw [HE.out] at h1
        cases h1
        rw [show k - 1 = j by have := HJK.out; omega, HD.out] at h5
        cases h5
        exact hlt h6)
       clear hfv hlt
       go_upto_region 4 with (fail)
       refine Go.FreshS.wp_region_fresh 25 [] (Go.FreshS.spOf [(2, Go.FreshS.Sp.know (.bool true)), (7, Go.FreshS.Sp.know (.int .i64 sg)), (22, Go.FreshS.Sp.know (.int .i64 fv))])
        (fun w' => Below V.heap.size V w') (by kernel_rfl) (by kernel_rfl) (by kernel_rfl)
        (Go.FreshS.spOf_cons (Go.FreshS.Sp.know_keeps _ _) (Go.FreshS.spOf_cons (Go.FreshS.Sp.know_keeps _ _) (Go.FreshS.spOf_cons (Go.FreshS.Sp.know_keeps _ _) (Go.FreshS.spOf_nil)))) (fun _ _ h hb => h.trans (hb.mono h.size)) ((Below.refl _ _).drew) ?_
       simp only [List.append_eq, List.cons_append, List.nil_append, List.take_succ_cons, List.take_zero, List.drop_succ_cons, List.drop_zero]
       refine Go.FreshS.wpF_reads rfl rfl rfl ?_ (fun w' hw' => ?_) ?_
       rotate_left
       ·have hb' := hw'.world
        skip
        clear hw'
        go_simp
        try rfl
       conv => arg 10; simp only [Act.put, List.setIfInBounds_toArray, List.set_cons_succ, List.set_cons_zero]
       refine Go.FreshS.wpF_reads rfl rfl rfl ?_ (fun w' hw' => ?_) ?_
       rotate_left
       ·have hb' := hw'.world
        have hs0 := (B4.out.below hb' B4.out.lt).cell (i := 0) rfl
        have hs1 := (B4.out.below hb' B4.out.lt).cell (i := 1) rfl
        have hs2 := (B4.out.below hb' B4.out.lt).cell (i := 2) rfl
        have hs3 := (B4.out.below hb' B4.out.lt).cell (i := 3) rfl
        have hs4 := (B4.out.below hb' B4.out.lt).cell (i := 4) rfl
        have hs5 := (B4.out.below hb' B4.out.lt).cell (i := 5) rfl
        have hs6 := (B4.out.below hb' B4.out.lt).cell (i := 6) rfl
        have hs7 := (B4.out.below hb' B4.out.lt).cell (i := 7) rfl
        have hsf := (B4.out.below hb' B4.out.lt).fz
        have hsl := (B4.out.below hb' B4.out.lt).lt
        clear hw'
        go_simp
        try rfl
       conv => arg 10; simp only [Act.put, List.setIfInBounds_toArray, List.set_cons_succ, List.set_cons_zero]
       refine Go.FreshS.wpF_spec rfl rfl rfl (fun w' hw' => ?_) ?_
       ·have hb' := hw'.world
        refine Go.FreshS.gives_of (Go.FreshS.PK (.bool true)) ?_ (fun _ _ h => h.post)
        go_simp
        have CT := qcheck (NF.out.below hb') (((NF.out.below hb')).len LQq.out (by decide : _ ≤ 900000))
        refine CT.mono ?_
        rintro e w'' ⟨rfl, hb⟩
        exact ⟨_, rfl, rfl, hb⟩
       rintro _ rfl
       conv => arg 10; simp only [Act.put, List.setIfInBounds_toArray, List.set_cons_succ, List.set_cons_zero]
       refine Go.FreshS.wpF_reads rfl rfl rfl ?_ (fun w' hw' => ?_) ?_
       rotate_left
       ·have hb' := hw'.world
        skip
        clear hw'
        go_simp
        try rfl
       conv => arg 10; simp only [Act.put, List.setIfInBounds_toArray, List.set_cons_succ, List.set_cons_zero]
       refine Go.FreshS.wpF_reads rfl rfl rfl ?_ (fun w' hw' => ?_) ?_
       rotate_left
       ·have hb' := hw'.world
        skip
        clear hw'
        go_simp
        try rfl
       conv => arg 10; simp only [Act.put, List.setIfInBounds_toArray, List.set_cons_succ, List.set_cons_zero]
       refine Go.FreshS.wpF_readsG (by rfl) rfl rfl ?_ (fun w' hw' => ?_) ?_
       rotate_left
       ·have hb' := hw'.world
        skip
        clear hw'
        go_simp
        try rfl
       conv => arg 10; simp only [Act.put, List.setIfInBounds_toArray, List.set_cons_succ, List.set_cons_zero]
       refine Go.FreshS.wpF_readsG (by rfl) rfl rfl ?_ (fun w' hw' => ?_) ?_
       rotate_left
       ·have hb' := hw'.world
        have hs0 := (B4.out.below hb' B4.out.lt).cell (i := 0) rfl
        have hs1 := (B4.out.below hb' B4.out.lt).cell (i := 1) rfl
        have hs2 := (B4.out.below hb' B4.out.lt).cell (i := 2) rfl
        have hs3 := (B4.out.below hb' B4.out.lt).cell (i := 3) rfl
        have hs4 := (B4.out.below hb' B4.out.lt).cell (i := 4) rfl
        have hs5 := (B4.out.below hb' B4.out.lt).cell (i := 5) rfl
        have hs6 := (B4.out.below hb' B4.out.lt).cell (i := 6) rfl
        have hs7 := (B4.out.below hb' B4.out.lt).cell (i := 7) rfl
        have hsf := (B4.out.below hb' B4.out.lt).fz
        have hsl := (B4.out.below hb' B4.out.lt).lt
        clear hw'
        go_simp
        try rfl
       conv => arg 10; simp only [Act.put, List.setIfInBounds_toArray, List.set_cons_succ, List.set_cons_zero]
       refine Go.FreshS.wpF_gspec (by rfl) rfl rfl (fun w' hw' => ?_) ?_
       ·have hb' := hw'.world
        refine Go.FreshS.gives_of (Go.FreshS.PK (.int .i64 sg)) ?_ (fun _ _ h => h.post)
        go_simp
        have CT := qsign ((NF.out.below hb')).any (((NF.out.below hb')).len LQq.out (by decide : _ ≤ 900000))
        rw [show cmpZ q.num 0 = sg from HSG.out] at CT
        refine CT.mono ?_
        rintro e w'' ⟨rfl, hb⟩
        exact ⟨_, rfl, rfl, hb⟩
       rintro _ rfl
       conv => arg 10; simp only [Act.put, List.setIfInBounds_toArray, List.set_cons_succ, List.set_cons_zero]
       refine Go.FreshS.wpF_readsG (by rfl) rfl rfl ?_ (fun w' hw' => ?_) ?_
       rotate_left
       ·have hb' := hw'.world
        skip
        clear hw'
        go_simp
        try rfl
       conv => arg 10; simp only [Act.put, List.setIfInBounds_toArray, List.set_cons_succ, List.set_cons_zero]
       refine Go.FreshS.wpF_reads rfl rfl rfl ?_ (fun w' hw' => ?_) ?_
       rotate_left
       ·have hb' := hw'.world
        skip
        clear hw'
        go_simp
        try rfl
       conv => arg 10; simp only [Act.put, List.setIfInBounds_toArray, List.set_cons_succ, List.set_cons_zero]
       refine Go.FreshS.wpF_reads rfl rfl rfl ?_ (fun w' hw' => ?_) ?_
       rotate_left
       ·have hb' := hw'.world
        skip
        clear hw'
        go_simp
        try rfl
       conv => arg 10; simp only [Act.put, List.setIfInBounds_toArray, List.set_cons_succ, List.set_cons_zero]
       refine Go.FreshS.wpF_readsG (by rfl) rfl rfl ?_ (fun w' hw' => ?_) ?_
       rotate_left
       ·have hb' := hw'.world
        skip
        clear hw'
        go_simp
        try rfl
       conv => arg 10; simp only [Act.put, List.setIfInBounds_toArray, List.set_cons_succ, List.set_cons_zero]
       refine Go.FreshS.wpF_readsG (by rfl) rfl rfl ?_ (fun w' hw' => ?_) ?_
       rotate_left
       ·have hb' := hw'.world
        skip
        clear hw'
        go_simp
        try rfl
       conv => arg 10; simp only [Act.put, List.setIfInBounds_toArray, List.set_cons_succ, List.set_cons_zero]
       refine Go.FreshS.wpF_readsG (by rfl) rfl rfl ?_ (fun w' hw' => ?_) ?_
       rotate_left
       ·have hb' := hw'.world
        skip
        clear hw'
        go_simp
        try rfl
       conv => arg 10; simp only [Act.put, List.setIfInBounds_toArray, List.set_cons_succ, List.set_cons_zero]
       refine Go.FreshS.wpF_readsG (by rfl) rfl rfl ?_ (fun w' hw' => ?_) ?_
       rotate_left
       ·have hb' := hw'.world
        skip
        clear hw'
        go_simp
        try rfl
       conv => arg 10; simp only [Act.put, List.setIfInBounds_toArray, List.set_cons_succ, List.set_cons_zero]
       refine Go.FreshS.wpF_readsG (by rfl) rfl rfl ?_ (fun w' hw' => ?_) ?_
       rotate_left
       ·have hb' := hw'.world
        skip
        clear hw'
        go_simp
        try rfl
       conv => arg 10; simp only [Act.put, List.setIfInBounds_toArray, List.set_cons_succ, List.set_cons_zero]
       refine Go.FreshS.wpF_readsG (by rfl) rfl rfl ?_ (fun w' hw' => ?_) ?_
       rotate_left
       ·have hb' := hw'.world
        skip
        clear hw'
        go_simp
        try rfl
       conv => arg 10; simp only [Act.put, List.setIfInBounds_toArray, List.set_cons_succ, List.set_cons_zero]
       refine Go.FreshS.wpF_readsG (by rfl) rfl rfl ?_ (fun w' hw' => ?_) ?_
       rotate_left
       ·have hb' := hw'.world
        have hj9 : j < xn := HJN.out
        clear hw'
        go_simp
        try rfl
       conv => arg 10; simp only [Act.put, List.setIfInBounds_toArray, List.set_cons_succ, List.set_cons_zero]
       refine Go.FreshS.wpF_readsG (by rfl) rfl rfl ?_ (fun w' hw' => ?_) ?_
       rotate_left
       ·have hb' := hw'.world
        skip
        clear hw'
        go_simp
        try rfl
       conv => arg 10; simp only [Act.put, List.setIfInBounds_toArray, List.set_cons_succ, List.set_cons_zero]
       refine Go.FreshS.wpF_readsG (by rfl) rfl rfl ?_ (fun w' hw' => ?_) ?_
       rotate_left
       ·have hb' := hw'.world
        have hbx : Below V.heap.size V w' := hb'
        have e4 := (hbx.cell (p := ⟨pb, po + j * 8 + 4, none⟩) HPB.out).trans HJ4.out
        have e5 := (hbx.cell (p := ⟨pb, po + j * 8 + 5, none⟩) HPB.out).trans HJ5.out
        have e6 := (hbx.cell (p := ⟨pb, po + j * 8 + 6, none⟩) HPB.out).trans HJ6.out
        have e7 := (hbx.cell (p := ⟨pb, po + j * 8 + 7, none⟩) HPB.out).trans HJ7.out
        clear hw'
        go_simp
        try rfl
       conv => arg 10; simp only [Act.put, List.setIfInBounds_toArray, List.set_cons_succ, List.set_cons_zero]
       refine Go.FreshS.wpF_readsG (by rfl) rfl rfl ?_ (fun w' hw' => ?_) ?_
       rotate_left
       ·have hb' := hw'.world
        skip
        clear hw'
        go_simp
        try rfl
       conv => arg 10; simp only [Act.put, List.setIfInBounds_toArray, List.set_cons_succ, List.set_cons_zero]
       refine Go.FreshS.wpF_readsG (by rfl) rfl rfl ?_ (fun w' hw' => ?_) ?_
       rotate_left
       ·have hb' := hw'.world
        have hs0 := (B4.out.below hb' B4.out.lt).cell (i := 0) rfl
        have hs1 := (B4.out.below hb' B4.out.lt).cell (i := 1) rfl
        have hs2 := (B4.out.below hb' B4.out.lt).cell (i := 2) rfl
        have hs3 := (B4.out.below hb' B4.out.lt).cell (i := 3) rfl
        have hs4 := (B4.out.below hb' B4.out.lt).cell (i := 4) rfl
        have hs5 := (B4.out.below hb' B4.out.lt).cell (i := 5) rfl
        have hs6 := (B4.out.below hb' B4.out.lt).cell (i := 6) rfl
        have hs7 := (B4.out.below hb' B4.out.lt).cell (i := 7) rfl
        have hsf := (B4.out.below hb' B4.out.lt).fz
        have hsl := (B4.out.below hb' B4.out.lt).lt
        clear hw'
        go_simp
        try rfl
       conv => arg 10; simp only [Act.put, List.setIfInBounds_toArray, List.set_cons_succ, List.set_cons_zero]
       refine Go.FreshS.wpF_gspec (by rfl) rfl rfl (fun w' hw' => ?_) ?_
       ·have hb' := hw'.world
        refine Go.FreshS.gives_of (Go.FreshS.PK (.int .i64 fv)) ?_ (fun _ _ h => h.post)
        go_simp
        have CT := falls_any tj.m t.m w'
        rw [show cmpMo t.m tj.m = fv from HFV.out] at CT
        refine CT.mono ?_
        rintro e w'' ⟨rfl, hb⟩
        exact ⟨_, rfl, rfl, hb⟩
       rintro _ rfl
       conv => arg 10; simp only [Act.put, List.setIfInBounds_toArray, List.set_cons_succ, List.set_cons_zero]
       refine Go.FreshS.wpF_readsG (by rfl) rfl rfl ?_ (fun w' hw' => ?_) ?_
       rotate_left
       ·have hb' := hw'.world
        skip
        clear hw'
        go_simp
        try rfl
       conv => arg 10; simp only [Act.put, List.setIfInBounds_toArray, List.set_cons_succ, List.set_cons_zero]
       refine Go.FreshS.wpF_readsG (by rfl) rfl rfl ?_ (fun w' hw' => ?_) ?_
       rotate_left
       ·have hb' := hw'.world
        skip
        clear hw'
        go_simp
        try rfl
       conv => arg 10; simp only [Act.put, List.setIfInBounds_toArray, List.set_cons_succ, List.set_cons_zero]
       refine Go.FreshS.wpF_nil (fun w105 hb hF => ?_)
       clear hF
       have NF := Lib.hid (NF.out.below hb)
       have B4 := Lib.hid (B4.out.below hb B4.out.lt)
       have KG := Lib.hid (KG.out.trans (hb.mono KG.out.size))
       clear hb
       go_wp2_with fail
       go_ret
       exact ⟨by rw [HEND.out] <;> rfl, KG.out⟩
  ·have HEND := Lib.hid (show true = bv by
    rw [HBV.out]
    exact (decide_eq_true (by have := HKK0.out; have := HK0.out; have := HLN.out; omega)).symm)
   have hge : ¬ ((k : Int) < (xn : Int)) := by omega
   clear hkl
   go_wp2_with fail
   go_ret
   exact ⟨by rw [HEND.out] <;> rfl, KG.out⟩
theorem vals_iff : ∀ {L : List TO} {P : List Tm}, vals L = some P ↔ P.length = L.length ∧ ∀ (i : Nat) (e : TO), L[i]? = some e → ∃ q, e.2 = some q ∧ P[i]? = some (e.1.m, q)
 | [], P => by
  unfold vals
  constructor
  ·intro h
   obtain rfl : [] = P := Option.some.inj h
   exact ⟨rfl, fun i e h => by simp at h⟩
  ·rintro ⟨h, -⟩
   rw [List.length_eq_zero_iff.1 h]
 | (t, o) :: r, P => by
  unfold vals
  constructor
  ·intro h
   cases o with
   | none => simp at h
   | some q =>
    cases hr : vals r with
    | none => simp [hr] at h
    | some l =>
     simp only [hr, Option.some.injEq] at h
     subst h
     obtain ⟨h1, h2⟩ := (vals_iff (L := r)).1 hr
     refine ⟨by rw [List.length_cons, List.length_cons, h1], fun i e he => ?_⟩
     cases i with
     | zero =>
      obtain rfl : (t, some q) = e := by simpa using he
      exact ⟨q, rfl, rfl⟩
     | succ i => exact h2 i e (by simpa using he)
  ·rintro ⟨h1, h2⟩
   obtain ⟨q, hq, hP⟩ := h2 0 (t, o) rfl
   have hq : o = some q := hq
   subst hq
   obtain ⟨p, l, rfl⟩ : ∃ p l, P = p :: l := by
    cases P with
    | nil => simp at hP
    | cons p l => exact ⟨p, l, rfl⟩
   obtain rfl : p = (t.m, q) := by simpa using hP
   have hr : vals r = some l := (vals_iff (L := r)).2 ⟨by simpa using h1, fun i e he => h2 (i + 1) e (by simpa using he)⟩
   simp [hr]
theorem okP_iff (L : List TO) : okP L ↔ ∀ i, i < L.length → Ok1 L i := by
 constructor
 ·rintro ⟨P, hv, hc⟩ i hi
  obtain ⟨h1, h2⟩ := vals_iff.1 hv
  obtain ⟨e, he⟩ : ∃ e, L[i]? = some e := ⟨_, List.getElem?_eq_getElem hi⟩
  obtain ⟨q, hq, hP⟩ := h2 i e he
  refine ⟨e, q, he, hq, hc.non _ (List.mem_of_getElem? hP), fun h0 => ?_⟩
  obtain ⟨d, hd⟩ : ∃ d, L[i - 1]? = some d := ⟨_, List.getElem?_eq_getElem (by omega)⟩
  obtain ⟨q', hq', hP'⟩ := h2 (i - 1) d hd
  refine ⟨d, hd, ?_⟩
  obtain ⟨a1, b1⟩ := List.getElem?_eq_some_iff.1 hP
  obtain ⟨a2, b2⟩ := List.getElem?_eq_some_iff.1 hP'
  have h3 := List.pairwise_iff_getElem.1 hc.falls (i - 1) i a2 a1 (by omega)
  rw [b1, b2] at h3
  exact h3
 ·intro h
  have hP : ∃ P, vals L = some P := by
   have : ∀ M : List TO, (∀ e ∈ M, e.2 ≠ none) → ∃ P, vals M = some P := by
    intro M
    induction M with
    | nil => exact fun _ => ⟨[], rfl⟩
    | cons e r ih =>
     intro hM
     obtain ⟨l, hl⟩ := ih fun e he => hM e (List.mem_cons_of_mem _ he)
     obtain ⟨t, o⟩ := e
     cases o with
     | none => exact absurd rfl (hM (t, none) (List.mem_cons_self ..))
     | some q => exact ⟨(t.m, q) :: l, by unfold vals; simp [hl]⟩
   refine this L fun e he => ?_
   obtain ⟨i, hi, rfl⟩ := List.getElem_of_mem he
   obtain ⟨e', q, h1, h2, -⟩ := h i hi
   rw [List.getElem?_eq_getElem hi] at h1
   cases h1
   rw [h2]
   exact fun h => by cases h
  obtain ⟨P, hv⟩ := hP
  obtain ⟨h1, h2⟩ := vals_iff.1 hv
  refine ⟨P, hv, ⟨?_, fun t ht => ?_⟩⟩
  ·have step : ∀ i, (hi : i + 1 < P.length) → P[i + 1].1.lt (P[i]'(by omega)).1 := by
    intro i hi
    obtain ⟨e, q, he, hq, -, h4⟩ := h (i + 1) (by omega)
    obtain ⟨d, hd, hlt⟩ := h4 (by omega)
    obtain ⟨q1, hq1, hP1⟩ := h2 (i + 1) e he
    obtain ⟨q2, hq2, hP2⟩ := h2 (i + 1 - 1) d hd
    rw [Nat.add_sub_cancel] at hP2
    rw [(List.getElem?_eq_some_iff.1 hP1).2, (List.getElem?_eq_some_iff.1 hP2).2]
    exact hlt
   rw [List.pairwise_iff_getElem]
   intro i j hi hj hij
   have go : ∀ m, (hm : i + 1 + m < P.length) → (P[i + 1 + m]).1.lt (P[i]).1 := by
    intro m
    induction m with
    | zero => exact fun hm => step i hm
    | succ m ih => exact fun hm => Mo.lt_trans (step (i + 1 + m) hm) (ih (by omega))
   have h3 := go (j - i - 1) (by omega)
   simpa only [show i + 1 + (j - i - 1) = j by omega] using h3
  ·obtain ⟨i, hi, rfl⟩ := List.getElem_of_mem ht
   obtain ⟨e, q, he, hq, hz, -⟩ := h i (by omega)
   obtain ⟨q1, hq1, hP1⟩ := h2 i e he
   rw [(List.getElem?_eq_some_iff.1 hP1).2]
   rw [hq1] at hq
   cases hq
   exact hz
theorem check_k {w : World} {x : PV} {P : List Tm} (h : KP w x P) (hq : ∀ t ∈ P, LQ t.2 900000) (hn : x.n ≤ 1000000000) : Calls Tryz.prog 11 #[x.v] w fun e w' => e = .returned (.bool true) ∧ Below w.heap.size w w' := by
 obtain ⟨K, h1, h2, h3, h4⟩ := h.ex
 have hR : RawP w x (K.map fun e => (e.1, some e.2)) := by
  refine ⟨by rw [List.map_map]; exact h1, by rw [List.length_map]; exact h2, h.le, fun e he => ?_, fun e he => ?_, fun e he => ?_⟩
  ·obtain ⟨f, hf, rfl⟩ := List.mem_map.1 he
   exact h3 f hf
  ·obtain ⟨f, hf, rfl⟩ := List.mem_map.1 he
   exact h.small (tm f) (by rw [← h4]; exact List.mem_map_of_mem hf)
  ·obtain ⟨f, hf, rfl⟩ := List.mem_map.1 he
   exact (h3 f hf).len (hq (tm f) (by rw [← h4]; exact List.mem_map_of_mem hf)) (Nat.le_refl _)
 have hok : okP (K.map fun e => (e.1, some e.2)) := by
  refine ⟨P, ?_, h.canon⟩
  rw [vals_iff]
  refine ⟨by rw [← h4, List.length_map, List.length_map], fun i e he => ?_⟩
  rw [List.getElem?_map] at he
  cases hk : K[i]? with
  | none => rw [hk] at he; cases he
  | some f =>
   rw [hk] at he
   obtain rfl : (f.1, some f.2) = e := by simpa using he
   exact ⟨f.2, rfl, by rw [← h4, List.getElem?_map, hk]; rfl⟩
 have g := check_raw x _ (K.map fun e => (e.1, some e.2)).length w hR hn (Nat.le_refl _) ((okP_iff _).1 hok) (fun h => absurd h (by omega))
 rwa [decide_eq_true rfl] at g
theorem check_b {w : World} {x : PV} (h : BP w x) (hn : x.n ≤ 1000000000) : Calls Tryz.prog 11 #[x.v] w fun e w' => e = .returned (.bool false) ∧ Below w.heap.size w w' := by
 obtain ⟨L, hR, hk⟩ := h
 rw [okP_iff] at hk
 have first : ∀ n, n ≤ L.length → (∀ i, i < n → Ok1 L i) ∨ ∃ k0, k0 < n ∧ (∀ i, i < k0 → Ok1 L i) ∧ ¬ Ok1 L k0 := by
  intro n
  induction n with
  | zero => exact fun _ => Or.inl fun i hi => by omega
  | succ n ih =>
   intro hn
   rcases ih (by omega) with h1 | ⟨k0, h1, h2⟩
   ·by_cases h2 : Ok1 L n
    ·exact Or.inl fun i hi => (Nat.lt_or_eq_of_le (Nat.le_of_lt_succ hi)).elim (h1 i) (fun e => e ▸ h2)
    ·exact Or.inr ⟨n, by omega, h1, h2⟩
   ·exact Or.inr ⟨k0, by omega, h2⟩
 rcases first L.length (Nat.le_refl _) with h1 | ⟨k0, h1, h2, h3⟩
 ·exact absurd h1 hk
 ·have g := check_raw x L k0 w hR hn (Nat.le_of_lt h1) h2 (fun _ => h3)
  rwa [decide_eq_false (by omega)] at g
theorem of_k {w : World} {x : PV} {P : List Tm} (h : KP w x P) (hq : ∀ t ∈ P, LQ t.2 900000) (hn : x.n ≤ 1000000000) : Calls Tryz.prog 47 #[x.v] w fun e w' => e = .returned x.v ∧ Below w.heap.size w w' := by
 have C := Lib.hid (check_k h hq hn)
 go_enter Tryz.func47, Tryz.ntmps47
 go_wp2_with fail
 refine C.out.mono ?_
 rintro e w1 ⟨rfl, hb⟩
 have HB := Lib.hid hb
 clear hb C
 go_wp2_with fail
 go_ret
 exact ⟨rfl, HB.out⟩
theorem of_b {w : World} {x : PV} (h : BP w x) (hn : x.n ≤ 1000000000) : Calls Tryz.prog 47 #[x.v] w fun e w' => e = .returned (.slice none 0 0) ∧ Below w.heap.size w w' := by
 have C := Lib.hid (check_b h hn)
 go_enter Tryz.func47, Tryz.ntmps47
 go_wp2_with fail
 refine C.out.mono ?_
 rintro e w1 ⟨rfl, hb⟩
 have HB := Lib.hid hb
 clear hb C
 go_wp2_with fail
 go_ret
 exact ⟨rfl, HB.out⟩
theorem of_any {w : World} {x : PV} {P : List Tm} (h : AP w x P) (hq : ∀ t ∈ P, LQ t.2 900000) (hn : x.n ≤ 1000000000) : Calls Tryz.prog 47 #[x.v] w fun e w' => ∃ y : PV, e = .returned y.v ∧ KP w' y P ∧ y.n ≤ x.n ∧ Below w.heap.size w w' := by
 rcases h with h | ⟨h, rfl⟩
 ·exact (of_k h hq hn).mono fun e w' ⟨h1, h2⟩ => ⟨x, h1, h.below h2, Nat.le_refl _, h2⟩
 ·exact (of_b h hn).mono fun e w' ⟨h1, h2⟩ => ⟨⟨none, 0, 0⟩, h1, KP.nil _ _ _, Nat.zero_le _, h2⟩
theorem at_small {m : Mo} (h : m.Small) (i : Nat) : m.at i ≤ 65535 := by
 obtain ⟨h1, h2, h3, h4⟩ := h
 unfold Mo.at
 split
 ·exact h1
 ·split
  ·exact h2
  ·split
   ·exact h3
   ·exact h4
end Go.Proofs.YthcccdjfedbnfaaGreatDoor.Pol
namespace Go.Proofs.YthcccdjfedbnfaaGreatDoor.Pol
open Go.Proofs.YthcccdjfedbnfaaGreatDoor.Limb
theorem lq_inv {c : Rat} {k : Nat} (h : LQ c k) : LQ (1 / c) k := by
 by_cases h0 : c = 0
 ·subst h0
  rw [show (1 : Rat) / 0 = 0 by decide +kernel]
  exact h
 ·have hn : c.num ≠ 0 := fun e => h0 (Rat.num_eq_zero.1 e)
  have e : (1 : Rat) / c = ((c.den : Int) : Rat) / (c.num : Rat) := by
   have h1 := num_den c
   have h2 := cast_ne hn
   rw [Rat.intCast_natCast]
   grind
  rw [e]
  exact lq_make hn h.l h.t
theorem PB.prim {P : List Tm} {n k e kc : Nat} (hP : Canon P) (h : PB P n k e) (hc : LQ (contP P) kc) : PB (primP P) n (k + kc) e := PB.scale hP h (lq_inv hc)
theorem scale_two (a b : Rat) (P : List Tm) : scaleP a (scaleP b P) = scaleP (b * a) P := canon_same (scaleP_canon _ _) (scaleP_canon _ _) fun f => by
 rw [ev_scaleP, ev_scaleP, ev_scaleP]; grind
theorem scale_one {P : List Tm} (h : Canon P) : scaleP 1 P = P := canon_same (scaleP_canon _ _) h fun f => by rw [ev_scaleP, Rat.one_mul]
theorem lead_scale {K : Mo → Int} {P : List Tm} (hP : Canon P) {m : Mo} {q c : Rat} (hc : c ≠ 0) (h : Lead K P (m, q)) : Lead K (scaleP c P) (m, q * c) := by
 rw [scaleP_L hc hP]
 refine ⟨scaleL_mem h.1, fun s hs => ?_⟩
 obtain ⟨u, hu, rfl⟩ := List.mem_map.1 hs
 exact h.2 u hu
theorem lead_ne {K : Mo → Int} {P : List Tm} (hP : Canon P) {m : Mo} {q : Rat} (h : Lead K P (m, q)) : q ≠ 0 := hP.non _ h.1
theorem inv_ne {q : Rat} (h : q ≠ 0) : 1 / q ≠ 0 := fun e => by
 have h1 : q * (1 / q) = 1 := by grind
 rw [e, Rat.mul_zero] at h1
 exact absurd h1 (by decide)
theorem back_one {q : Rat} (h : q ≠ 0) : q * (1 / q) = 1 := by grind
theorem scale_back {P : List Tm} (hP : Canon P) {q : Rat} (h : q ≠ 0) : scaleP q (scaleP (1 / q) P) = P := by
 rw [scale_two, show 1 / q * q = 1 by grind, scale_one hP]
theorem monic_times {P : List Tm} {q c : Rat} (hq : q ≠ 0) (hc : c ≠ 0) : scaleP (1 / (q * c)) (scaleP c P) = scaleP (1 / q) P := by
 rw [scale_two]
 congr 1
 grind
theorem monic_self {P : List Tm} (hP : Canon P) : scaleP (1 / (1 : Rat)) P = P := by
 rw [show (1 : Rat) / 1 = 1 by decide +kernel, scale_one hP]
theorem prm_den {Q : List Tm} (h : Prm Q) {t : Tm} (ht : t ∈ Q) : t.2.den = 1 := by
 obtain ⟨z, hz⟩ := h.whole t ht
 rw [hz, Rat.den_intCast]
theorem prm_gcd {Q : List Tm} (h : Prm Q) : gT Q 0 = 1 := by
 have hd := (gT_dvd Q 0).2
 have key : ∀ p, Pr p → ¬ p ∣ gT Q 0 := fun p hp hpd => by
  obtain ⟨t, ht, hn⟩ := h.alone p hp
  obtain ⟨z, hz⟩ := h.whole t ht
  refine hn z hz ?_
  have h1 := hd t ht
  rw [hz, Rat.num_intCast] at h1
  have h2 := Nat.dvd_trans hpd h1
  exact Int.natAbs_dvd_natAbs.1 (by rwa [Int.natAbs_natCast])
 refine Classical.byContradiction fun hne => ?_
 by_cases h0 : gT Q 0 = 0
 ·obtain ⟨p, hp, _⟩ := pr_ex 2 (Nat.le_refl 2)
  exact key p hp (by rw [h0]; exact Nat.dvd_zero p)
 ·obtain ⟨p, hp, hpd⟩ := pr_ex (gT Q 0) (by omega)
  exact key p hp hpd
theorem num_pos {q : Rat} (h : 0 < q) : 0 < q.num := by
 have h1 : 0 ≤ q.num := Rat.num_nonneg.2 (Rat.le_of_lt h)
 have h2 : q.num ≠ 0 := fun e => by
  rw [Rat.num_eq_zero.1 e] at h
  exact absurd h (by decide)
 omega
theorem prm_sign {t : Tm} {r : List Tm} (h : Prm (t :: r)) : 0 < t.2.num := num_pos (h.first t r rfl)
end Go.Proofs.YthcccdjfedbnfaaGreatDoor.Pol
namespace Go.Proofs.YthcccdjfedbnfaaGreatDoor.Pol
open Go.RowKit Go.Sort Go.Proofs.YthcccdjfedbnfaaGreatDoor.Limb
instance : Inhabited TV := ⟨⟨⟨⟨false, none, 0, 0⟩, ⟨false, none, 0, 0⟩⟩, Mo.one⟩⟩
def cfT (e f : TE) : Int := cmpMo f.1.m e.1.m
theorem ltT (e f : TE) : ltOf cfT e f = decide (f.1.m.lt e.1.m) := by
 unfold ltOf cfT
 by_cases h : f.1.m.lt e.1.m
 ·rw [decide_eq_true h, decide_eq_true (cmpMo_lt.2 h)]
 ·rw [decide_eq_false h, decide_eq_false fun k => h (cmpMo_lt.1 k)]
theorem swoT : SWO (ltOf cfT) where
 irrefl x := by rw [ltT]; exact decide_eq_false (Mo.lt_irrefl _)
 trans x y z h1 h2 := by
  rw [ltT, decide_eq_true_eq] at *
  exact Mo.lt_trans h2 h1
 ntrans x y z h1 h2 := by
  rw [ltT, decide_eq_false_iff_not] at *
  intro h
  rcases Mo.lt_or y.1.m x.1.m with h3 | h3 | h3
  ·exact h1 h3
  ·rw [h3] at h2; exact h2 h
  ·exact h2 (Mo.lt_trans h h3)
def encT (e : TE) : List Value := e.1.cells
theorem sum1_lays (s t : TV) (w : World) : Calls Tryz.prog 101 #[.agg (TV.cells s).toArray, .agg (TV.cells t).toArray] w fun e w' => e = .returned (.int .i64 (cmpMo t.m s.m)) ∧ Lays w w' := by
 have C := Lib.hid (fun w' => falls_lays s.m t.m w')
 show Calls Tryz.prog 101 #[.agg #[.bool s.c.t.s, .slice s.c.t.a s.c.t.n s.c.t.c, .bool s.c.l.s, .slice s.c.l.a s.c.l.n s.c.l.c, .int .u16 s.m.x, .int .u16 s.m.y, .int .u16 s.m.z, .int .u16 s.m.t], .agg #[.bool t.c.t.s, .slice t.c.t.a t.c.t.n t.c.t.c, .bool t.c.l.s, .slice t.c.l.a t.c.l.n t.c.l.c, .int .u16 t.m.x, .int .u16 t.m.y, .int .u16 t.m.z, .int .u16 t.m.t]] w _
 go_enter Tryz.func101, Tryz.ntmps101
 go_wp2_with fail
 with_reducible refine (C.out _).mono ?_
 rintro e w1 ⟨rfl, hb, hd⟩
 have HB := Lib.hid (show Below w.heap.size w w1 from ((Below.refl _ _).alloc (Nat.le_refl _) _ |>.alloc (by go_size) _).trans (hb.mono (by go_size)))
 have HD := Lib.hid (show w.drawn ≤ w1.drawn from hd)
 clear hb hd C
 go_wp2_with fail
 go_ret
 exact ⟨rfl, HB.out, HD.out⟩
theorem lays_sum1 (blk off size : Nat) (w : World) : CmpLays Tryz.prog 101 #[] encT 8 cfT blk off size w :=
 fun m os dk _ x y => (sum1_lays x.1 y.1 _).mono fun _ _ h => ⟨h.1, h.2.grow⟩
theorem flatK_list (d : Array TE) : (flatK encT 8 d).toList = (d.toList.map Prod.fst).flatMap TV.cells := by
 apply List.ext_getElem?
 intro j
 have hl : ((d.toList.map Prod.fst).flatMap TV.cells).length = d.size * 8 := by rw [flat_len, List.length_map, Array.length_toList]
 by_cases hj : j < d.size * 8
 ·have hi : j / 8 < d.size := by omega
  have h1 := flat_get (d.toList.map Prod.fst) (j / 8) (j % 8) d[j / 8]!.1 (by
   rw [List.getElem?_map, Array.getElem?_toList, Array.getElem?_eq_getElem hi, getElem!_pos d _ hi]; rfl) (Nat.mod_lt _ (by omega))
  rw [show j / 8 * 8 + j % 8 = j by omega] at h1
  rw [h1, Array.getElem?_toList]
  unfold flatK
  rw [Array.getElem?_map, Array.getElem?_range, if_pos hj]
  show some (encT d[j / 8]!)[j % 8]! = _
  have h8 : j % 8 < (encT d[j / 8]!).length := Nat.mod_lt _ (by omega)
  rw [getElem!_pos (encT d[j / 8]!) _ h8]
  exact (List.getElem?_eq_getElem h8).symm
 ·rw [List.getElem?_eq_none (by rw [Array.length_toList, size_flatK]; omega), List.getElem?_eq_none (by rw [hl]; omega)]
theorem OT.holds {w : World} {lo g cap : Nat} {d : List TE} (h : OT w lo (.slice (some ⟨g, 0, none⟩) d.length cap) (d.map Prod.fst)) (hne : 0 < d.length) : HoldsK encT 8 w g 0 d.toArray ∧ g < w.heap.size := by
 rcases h.2 with ⟨hv, h0⟩ | ⟨g', cap', cur, hv, _, hg, hnc, _, hcs, htake⟩
 ·cases hv
 ·simp only [Value.slice.injEq, Option.some.injEq, Addr.mk.injEq, and_true, List.length_map, true_and] at hv
  obtain ⟨rfl, rfl⟩ := hv
  refine ⟨fun j hj => ?_, lt_of_block hg⟩
  have hj : j < d.length * 8 := by rw [size_flatK] at hj; simpa using hj
  have e1 : (flatK encT 8 d.toArray)[j]? = cur[j]? := by
   have h1 := congrArg (fun l => l[j]?) htake
   rw [List.getElem?_take, List.length_map, if_pos hj, Array.getElem?_toList] at h1
   rw [h1, ← Array.getElem?_toList, flatK_list]
  have hsz : j < (flatK encT 8 d.toArray).size := by rw [size_flatK]; simpa using hj
  refine ⟨?_, ?_⟩
  ·rw [cell_of_row _ _ _ _ _ _ hg, Nat.zero_add, ← e1, Array.getElem?_eq_getElem hsz, getElem!_pos (flatK encT 8 d.toArray) _ hsz]
   rfl
  ·simp only [World.frozen?, hg]
   simp
theorem SortedIn.pair {d : Array TE} (h : SortedIn (ltOf cfT) 0 d.size d) : d.toList.Pairwise (fun e f => ¬ e.1.m.lt f.1.m) := by
 rw [List.pairwise_iff_getElem]
 intro i j hi hj hij
 rw [Array.length_toList] at hi hj
 have h1 := h i j (Nat.zero_le _) hij hj
 rw [ltT, decide_eq_false_iff_not, getElem!_pos d _ hi, getElem!_pos d _ hj] at h1
 rw [Array.getElem_toList, Array.getElem_toList]
 exact h1
theorem sortWorld_row {w : World} {lo g cap n : Nat} {d : List TE} {d' : Array TE} {os : Array Obj} (h : OT w lo (.slice (some ⟨g, 0, none⟩) d.length cap) (d.map Prod.fst)) (hs : d'.size = d.length) :
  OT (sortWorldK encT 8 w g 0 n d' os) lo (.slice (some ⟨g, 0, none⟩) d.length cap) (d'.toList.map Prod.fst) ∧ Only g w (sortWorldK encT 8 w g 0 n d' os) := by
 rcases h.2 with ⟨hv, h0⟩ | ⟨g', cap', cur, hv, hlo, hg, hnc, hcm, hcs, htake⟩
 ·cases hv
 ·simp only [Value.slice.injEq, Option.some.injEq, Addr.mk.injEq, and_true, List.length_map, true_and] at hv
  obtain ⟨rfl, rfl⟩ := hv
  have hgl := lt_of_block hg
  have hheap : ∀ k, k < w.heap.size → (sortWorldK encT 8 w g 0 n d' os).heap[k]? = if k = g then some (.cells (putCells id 0 (flatK encT 8 d') cur) 50 (0, 0)) else w.heap[k]? := by
   intro k hk
   show ((w.heap.modify g _) ++ os)[k]? = _
   rw [Array.getElem?_append_left (by rw [Array.size_modify]; exact hk), Array.getElem?_modify]
   by_cases e : g = k
   ·subst e
    rw [if_pos rfl, if_pos rfl, hg]
    rfl
   ·rw [if_neg e, if_neg (fun h => e h.symm)]
  have hdl : (d'.toList.map Prod.fst).length = d.length := by rw [List.length_map, Array.length_toList, hs]
  refine ⟨⟨by rw [flat_len], .inr ⟨g, cap, putCells id 0 (flatK encT 8 d') cur, by rw [hdl], hlo, by rw [hheap g hgl, if_pos rfl], by rw [hdl]; rw [List.length_map] at hnc; exact hnc, hcm, by unfold putCells; rw [Array.size_mapIdx]; exact hcs, ?_⟩⟩, rfl, rfl, rfl, ?_, fun k hk hne => by rw [hheap k hk, if_neg hne]⟩
  ·rw [← flatK_list]
   apply List.ext_getElem?
   intro j
   rw [List.getElem?_take, hdl]
   by_cases hj : j < d.length * 8
   ·have hc : j < cur.size := by
     rw [hcs]
     rw [List.length_map] at hnc
     have := Nat.mul_le_mul_right 8 hnc
     omega
    have hf : j < (flatK encT 8 d').size := by rw [size_flatK, hs]; exact hj
    rw [if_pos hj, Array.getElem?_toList, Array.getElem?_toList]
    unfold putCells
    rw [Array.getElem?_mapIdx, Array.getElem?_eq_getElem hc, Option.map_some, if_pos ⟨Nat.zero_le _, by omega⟩, Nat.sub_zero, Array.getElem?_eq_getElem hf, getElem!_pos (flatK encT 8 d') _ hf]
    rfl
   ·rw [if_neg hj, List.getElem?_eq_none]
    rw [Array.length_toList, size_flatK, hs]
    omega
  ·show w.heap.size ≤ ((w.heap.modify g _) ++ os).size
   rw [Array.size_append, Array.size_modify]
   omega
set_option maxHeartbeats 4000000 in
theorem sort_any (lo g cap : Nat) (d : List TE) (w : World) (h : OT w lo (.slice (some ⟨g, 0, none⟩) d.length cap) (d.map Prod.fst)) (hne : 0 < d.length) (hsz : d.length < 4611686018427387904) :
  Calls Tryz.prog 100 #[.slice (some ⟨g, 0, none⟩) d.length cap, .func (.func 101) #[] #[]] w fun e w' => e = .returned (.tuple #[]) ∧ ∃ d' : List TE, d'.Perm d ∧ d'.Pairwise (fun e f => ¬ e.1.m.lt f.1.m) ∧
   OT w' lo (.slice (some ⟨g, 0, none⟩) d.length cap) (d'.map Prod.fst) ∧ Only g w w' := by
 have eg : ∀ args w, (callFunc 101 args).run Tryz.prog w = .ok (.enter 101 args) w := enters_of Tryz.func101 (by kernel_rfl) rfl
 have hH := OT.holds h hne
 have hlim : Lib.bitLen d.length < 4611686018427387904 := Nat.lt_of_le_of_lt (Lib.bitLen_le d.length 62 (by omega) (by omega)) (by omega)
 have hp := AnyQ.pdqsortCmpFunc_all (P := Tryz.prog) (ρ := Tryz.sortT_ren) Tryz.sortT 8 Tryz.isAgg50 Tryz.sizeOf50 encT cfT 101 #[] swoT g 0 cap d.toArray w eg (lays_sum1 g 0 d.toArray.size w)
  ⟨fun _ => rfl, fun x v hv => by
   simp only [encT, TV.cells, List.mem_cons, List.mem_nil_iff, or_false] at hv
   rcases hv with rfl | rfl | rfl | rfl | rfl | rfl | rfl | rfl <;> rfl, hH.1, hH.2⟩ (d.toArray.size + 1) 0 d.toArray.size (Lib.bitLen d.length) d.toArray w (by omega) rfl (SWK.start hH.1) (Nat.zero_le _) (Nat.le_refl _) (by rw [List.size_toArray]; exact hsz) hlim (Or.inl rfl)
 rw [List.size_toArray] at hp
 change Calls Tryz.prog 127 _ _ _ at hp
 have hl := Tryz.bits_Len (d.length : Int) w (by omega) (by omega)
 rw [Int.toNat_natCast] at hl
 have hs := pdq_sorts (ltOf cfT) swoT d.toArray 0 d.toArray.size (Lib.bitLen d.length) true true (Nat.zero_le _) (Nat.le_refl _) (Or.inl rfl)
 rw [List.size_toArray] at hs
 obtain ⟨d', hd'⟩ : ∃ d', d' = pdq (ltOf cfT) d.toArray 0 d.length (Lib.bitLen d.length) true true := ⟨_, rfl⟩
 rw [← hd'] at hp hs
 have wr : IntKind.u64.wrap (d.length : Int) = d.length := by simp [IntKind.wrap, IntKind.bits, IntKind.signed]; omega
 have HS := Lib.hid hs
 have HO := Lib.hid h
 have HP := Lib.hid hp
 have HL := Lib.hid hl
 clear hs hH h hd' hp hl eg hlim hsz hne
 go_enter Tryz.func100, Tryz.ntmps100
 go_wp2_with fail
 refine HL.out.mono ?_
 rintro e w' ⟨rfl, rfl⟩
 go_wp2_with fail
 refine HP.out.mono ?_
 rintro e w'' ⟨rfl, n, os, rfl⟩
 go_wp2_with fail
 go_end0
 have hsz : d'.size = d.length := HS.out.1.1
 obtain ⟨h1, h2⟩ := sortWorld_row (n := n) (os := os) HO.out hsz
 refine ⟨rfl, d'.toList, ?_, SortedIn.pair (by rw [hsz]; exact HS.out.2), h1, h2⟩
 have h3 := HS.out.1.2.2
 rw [show d'.extract 0 d.length = d' by rw [← hsz]; simp, show d.toArray.extract 0 d.length = d.toArray by simp] at h3
 exact h3
theorem sort_none (p : Option Addr) (cap : Nat) (fv : Value) (w : World) :
  Calls Tryz.prog 100 #[.slice p 0 cap, fv] w fun e w' => e = .returned (.tuple #[]) ∧ w' = w := by
 have hp := fun lim W => AnyF.pdqsortCmpFunc_none (P := Tryz.prog) (ρ := Tryz.sortT_ren) Tryz.sortT p cap lim fv W
 change ∀ lim W, Calls Tryz.prog 127 _ _ _ at hp
 have hl := fun W => Tryz.bits_Len 0 W (by omega) (by omega)
 have HP := Lib.hid hp
 have HL := Lib.hid hl
 clear hp hl
 go_enter Tryz.func100, Tryz.ntmps100
 go_wp2_with fail
 refine (HL.out _).mono ?_
 rintro e w' ⟨rfl, rfl⟩
 go_wp2_with fail
 refine (HP.out _ _).mono ?_
 rintro e w'' ⟨rfl, rfl⟩
 go_wp2_with fail
 go_end0
 exact ⟨rfl, rfl⟩
end Go.Proofs.YthcccdjfedbnfaaGreatDoor.Pol
