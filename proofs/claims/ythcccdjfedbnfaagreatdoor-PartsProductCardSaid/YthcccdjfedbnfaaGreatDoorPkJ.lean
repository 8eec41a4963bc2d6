/-
  The walks of polys.Sub, Mul.
-/
import Derived.Test.YthcccdjfedbnfaaGreatDoorPkI
import Derived.Shelf.Spec.SlicesGrow
set_option linter.unusedSimpArgs false
set_option linter.unusedVariables false
namespace Go.Proofs.YthcccdjfedbnfaaGreatDoor.Pol
open Go.RowKit Go.Sort Go.Proofs.YthcccdjfedbnfaaGreatDoor.Limb
def seenEv (f : Mo → Rat) (seen : Array Nat) : List TE → Nat → Rat
 | [], _ => 0
 | e :: r, i => (if seen.contains i = true then e.2 * f e.1.m else 0) + seenEv f seen r (i + 1)
theorem seenEv_none (f : Mo → Rat) : ∀ (L : List TE) (i : Nat), seenEv f #[] L i = 0
 | [], _ => rfl
 | e :: r, i => by
  show (if (#[] : Array Nat).contains i = true then e.2 * f e.1.m else 0) + seenEv f #[] r (i + 1) = 0
  rw [seenEv_none f r, if_neg (by simp), Rat.zero_add]
theorem seenEv_low (f : Mo → Rat) (seen : Array Nat) (j : Nat) : ∀ (L : List TE) (i : Nat), j < i → seenEv f (seen.push j) L i = seenEv f seen L i
 | [], _, _ => rfl
 | e :: r, i, h => by
  show (if (seen.push j).contains i = true then e.2 * f e.1.m else 0) + seenEv f (seen.push j) r (i + 1) = (if seen.contains i = true then e.2 * f e.1.m else 0) + seenEv f seen r (i + 1)
  rw [seenEv_low f seen j r (i + 1) (by omega), contains_push, show (i == j) = false by simpa using (by omega : ¬ i = j), Bool.or_false]
theorem seenEv_push (f : Mo → Rat) (seen : Array Nat) {j : Nat} (hs : seen.contains j = false) : ∀ (L : List TE) (i : Nat) (e : TE), L[j - i]? = some e → i ≤ j → seenEv f (seen.push j) L i = seenEv f seen L i + e.2 * f e.1.m
 | [], i, e, h, _ => by simp at h
 | a :: r, i, e, h, hij => by
  show (if (seen.push j).contains i = true then a.2 * f a.1.m else 0) + seenEv f (seen.push j) r (i + 1) = ((if seen.contains i = true then a.2 * f a.1.m else 0) + seenEv f seen r (i + 1)) + e.2 * f e.1.m
  rw [contains_push]
  by_cases hj : i = j
  ·subst hj
   rw [Nat.sub_self] at h
   obtain rfl : a = e := by simpa using h
   rw [seenEv_low f seen i r (i + 1) (by omega), hs, if_pos (by simp), if_neg (by simp)]
   grind
  ·rw [show (i == j) = false by simpa using hj, Bool.or_false, seenEv_push f seen hs r (i + 1) e (by
    rw [show j - i = (j - (i + 1)) + 1 by omega, List.getElem?_cons_succ] at h; exact h) (by omega)]
   grind
theorem seenEv_all (f : Mo → Rat) (seen : Array Nat) : ∀ (L : List TE) (i : Nat), (∀ k, i ≤ k → k < i + L.length → seen.contains k = true) → seenEv f seen L i = ev (L.map tm) f
 | [], _, _ => rfl
 | e :: r, i, h => by
  show (if seen.contains i = true then e.2 * f e.1.m else 0) + seenEv f seen r (i + 1) = _
  rw [List.map_cons, ev_cons, if_pos (h i (Nat.le_refl _) (by rw [List.length_cons]; omega)), seenEv_all f seen r (i + 1) fun k h1 h2 => h k (by omega) (by rw [List.length_cons]; omega)]
theorem ents_mem {L : List TE} {e : MapEntry} (h : e ∈ (ents L).toArray.toList) : ∃ i t, L[i]? = some t ∧ e = ent (t, i) := by
 obtain ⟨i, hi⟩ := List.mem_iff_getElem?.1 h
 rw [ents_get] at hi
 cases hL : L[i]? with
 | none => rw [hL] at hi; cases hi
 | some t => rw [hL] at hi; exact ⟨i, t, hL, (Option.some.inj hi).symm⟩
theorem ents_in {L : List TE} {i : Nat} {t : TE} (h : L[i]? = some t) : ent (t, i) ∈ (ents L).toArray.toList := List.mem_iff_getElem?.2 ⟨i, by rw [ents_get, h]; rfl⟩
theorem ents_born (L : List TE) : ((ents L).toArray.toList.map (·.born)).Nodup := by
 show ((ents L).map (·.born)).Nodup
 have e : (ents L).map (·.born) = List.range L.length := by
  apply List.ext_getElem?
  intro i
  rw [List.getElem?_map, ents_get]
  by_cases h : i < L.length
  ·rw [List.getElem?_eq_getElem h, List.getElem?_range h]; rfl
  ·rw [List.getElem?_eq_none (by omega), List.getElem?_eq_none (by rw [List.length_range]; omega)]; rfl
 rw [e]
 exact List.nodup_range
structure SumR (w : World) (b : Nat) (L K : List TE) (seen : Array Nat) (c0 : Nat) (p : Value) (wr : World) : Prop where
 row : OT wr w.heap.size p (K.map Prod.fst)
 it : wr.heap[w.heap.size]? = some (.mapIter (some b) L.length seen c0)
 le : L.length ≤ c0
 bel : Below w.heap.size w wr
 mem : ∀ e ∈ K, e.2 ≠ 0 ∧ ∃ i : Nat, L[i]? = some e ∧ seen.contains i = true
 keys : (K.map fun e => e.1.m).Nodup
 ev : ∀ f, ev (K.map tm) f = seenEv f seen L 0
 len : K.length + (leftOf (ents L).toArray seen).size ≤ L.length
theorem apart_sub {L K : List TE} (hL : L.Pairwise (fun e f => FV.apart e.1.c f.1.c)) (hmem : ∀ e ∈ K, ∃ i : Nat, L[i]? = some e) (hk : (K.map fun e => e.1.m).Nodup) : K.Pairwise (fun e f => FV.apart e.1.c f.1.c) := by
 rw [List.pairwise_iff_getElem]
 intro i j hi hj hij
 obtain ⟨a, ha⟩ := hmem _ (List.getElem_mem hi)
 obtain ⟨c, hc⟩ := hmem _ (List.getElem_mem hj)
 obtain ⟨la, ea⟩ := List.getElem?_eq_some_iff.1 ha
 obtain ⟨lc, ec⟩ := List.getElem?_eq_some_iff.1 hc
 have hne : a ≠ c := by
  rintro rfl
  have e : K[i] = K[j] := ea.symm.trans ec
  have h1 := (List.pairwise_iff_getElem.1 hk) i j (by rw [List.length_map]; exact hi) (by rw [List.length_map]; exact hj) hij
  rw [List.getElem_map, List.getElem_map, e] at h1
  exact h1 rfl
 rw [← ea, ← ec]
 rcases Nat.lt_or_gt_of_ne hne with h | h
 ·exact List.pairwise_iff_getElem.1 hL a c la lc h
 ·exact FV.apart.symm (List.pairwise_iff_getElem.1 hL c a lc la h)
theorem sum_done {L K d : List TE} {seen : Array Nat} (hd : d.Perm K) (hs : d.Pairwise (fun e f => ¬ e.1.m.lt f.1.m)) (hmem : ∀ e ∈ K, e.2 ≠ 0) (hk : (K.map fun e => e.1.m).Nodup) (hev : ∀ f, ev (K.map tm) f = seenEv f seen L 0)
  (hall : (leftOf (ents L).toArray seen).size = 0) : Canon (d.map tm) ∧ nf (L.map tm) = d.map tm := by
 have hc : Canon (d.map tm) := by
  have hkd : (d.map fun e => e.1.m).Nodup := (hd.map _).nodup_iff.2 hk
  refine ⟨?_, fun t ht => ?_⟩
  ·rw [List.pairwise_map]
   rw [List.pairwise_iff_getElem]
   intro i j hi hj hij
   have h1 := List.pairwise_iff_getElem.1 hs i j hi hj hij
   have h2 := (List.pairwise_iff_getElem.1 hkd) i j (by rw [List.length_map]; exact hi) (by rw [List.length_map]; exact hj) hij
   rw [List.getElem_map, List.getElem_map] at h2
   exact (((Mo.lt_or _ _).resolve_left h1).resolve_left h2)
  ·obtain ⟨e, he, rfl⟩ := List.mem_map.1 ht
   exact hmem e (hd.mem_iff.1 he)
 refine ⟨hc, nf_eq hc fun m => ?_⟩
 show ev (d.map tm) _ = ev (L.map tm) _
 rw [ev_perm (hd.map tm), hev, seenEv_all]
 intro k _ hk2
 rw [Nat.zero_add] at hk2
 have h1 := all_seen (ents L).toArray seen hall (ent (L[k], k)) (ents_in (List.getElem?_eq_getElem hk2))
 exact h1
theorem info8 : (Tryz.prog.info? 50).map (fun i => (i.zero, i.size, i.bytes)) = some (some (.agg #[.bool false, .slice none 0 0, .bool false, .slice none 0 0, .int .u16 0, .int .u16 0, .int .u16 0, .int .u16 0]), 8, 72) := by kernel_rfl
theorem Only.bel {b B : Nat} {u v w : World} (h : Below B u v) (g : Only b v w) (hb : B ≤ b) (hB : B ≤ v.heap.size) : Below B u w := h.trans (g.below hb hB)
theorem OT.at {w : World} {lo n c : Nat} {a : Option Addr} {ts : List TV} (h : OT w lo (.slice a n c) ts) (hne : ts ≠ []) : ∃ g, a = some ⟨g, 0, none⟩ ∧ lo ≤ g ∧ g < w.heap.size ∧ ∃ cur, w.heap[g]? = some (.cells cur 50 (0, 0)) := by
 rcases h.2 with ⟨_, h0⟩ | ⟨g, cap, cur, hv, hlo, hg, _⟩
 ·exact absurd (List.length_eq_zero_iff.1 h0) hne
 ·simp only [Value.slice.injEq] at hv
  exact ⟨g, hv.1, hlo, lt_of_block hg, cur, hg⟩
theorem OT.only {w w' : World} {lo b : Nat} {v : Value} {ts : List TV} (h : OT w lo v ts) (ho : Only b w w') (hb : ∀ cur, w.heap[b]? ≠ some (.cells cur 50 (0, 0))) : OT w' lo v ts := by
 refine ⟨h.1, h.2.imp id ?_⟩
 rintro ⟨g, cap, cur, hv, hlo, hg, h3⟩
 exact ⟨g, cap, cur, hv, hlo, (ho.2.2.2.2 g (lt_of_block hg) (fun e => hb cur (by rw [← e]; exact hg))).trans hg, h3⟩
theorem OT.notIter {w : World} {lo b s c : Nat} {m : Option Nat} {seen : Array Nat} {v : Value} {ts : List TV} (h : OT w lo v ts) (hb : w.heap[b]? = some (.mapIter m s seen c)) : v.ownBlock ≠ some b := by
 rcases h.2 with ⟨hv, _⟩ | ⟨g, cap, cur, hv, _, hg, _⟩
 ·rw [hv]; exact fun h => by cases h
 ·rw [hv]
  intro h
  have h : some g = some b := h
  cases h
  rw [hb] at hg
  cases hg
theorem sg_ne {q : Rat} : (cmpZ q.num 0 != 0) = decide (q ≠ 0) := by
 rw [Bool.eq_iff_iff]
 simp only [bne_iff_ne, ne_eq, decide_eq_true_eq]
 refine not_congr ?_
 rw [← Rat.num_eq_zero]
 unfold cmpZ
 constructor
 ·intro h
  split at h
  ·exact absurd h (by decide)
  ·split at h
   ·exact absurd h (by decide)
   ·omega
 ·intro h
  rw [h]; rfl
theorem left_push {L : List TE} {seen : Array Nat} {K : List TE} {i : Nat} (hsh : (leftOf (ents L).toArray (seen.push i)).size < (leftOf (ents L).toArray seen).size) (h : K.length + (leftOf (ents L).toArray seen).size ≤ L.length) (n : Nat) (hn : n ≤ 1) :
  K.length + n + (leftOf (ents L).toArray (seen.push i)).size ≤ L.length := by omega
set_option maxRecDepth 100000 in
set_option maxHeartbeats 16000000 in
theorem sum_likes (b lo : Nat) (L : List TE) (w : World) (hM : MK w lo b L) (hL : ∀ e ∈ L, LQ e.2 900000) (hlo : lo ≤ w.heap.size) (hn : L.length ≤ 1000000) :
  Calls Tryz.prog 62 #[.map (some b)] w fun e w' => ∃ x : PV, e = .returned x.v ∧ DP w' lo x (nf (L.map tm)) ∧ Below w.heap.size w w' := by
 have HM := Lib.hid hM; have HL := Lib.hid hL; have HLO := Lib.hid hlo; have HN := Lib.hid hn
 have hrg := run_range_map (P := Tryz.prog) w 86 48 28 b (ents L).toArray L.length Tryz.underlying86 hM.blk
 obtain ⟨i0, hi, hz0, hz1, hz2⟩ := info_parts info8
 clear hM hL hlo hn
 go_enter Tryz.func62, Tryz.ntmps62
 go_wp2_with fail
 clear hrg
 go_loopw [2] (fun p wr => ∃ K seen c0, SumR w b L K seen c0 p wr) (fun _ wr => (leftOf (ents L).toArray (wr.iterSeen w.heap.size)).size)
 case atStart =>
  refine ⟨[], #[], L.length, ⟨World.ownsRow_nil _ _ _ _, heap_alloc_new w _, Nat.le_refl _, (Below.refl _ _).alloc (Nat.le_refl _) _, fun e he => (by cases he), List.nodup_nil, fun f => (seenEv_none f L 0).symm, ?_⟩⟩
  rw [List.length_nil, Nat.zero_add]
  refine Nat.le_trans (Array.size_filter_le ..) ?_
  rw [List.size_toArray, ents_len]
  exact Nat.le_refl _
 case round =>
  obtain ⟨K, seen, c0, hR⟩ := hrel
  have HR := Lib.hid hR
  have hb2 : wr.heap[b]? = some (.map (ents L).toArray L.length) := (hR.bel.block b HM.out.lt).trans HM.out.blk
  have hold : ∀ x ∈ (ents L).toArray.toList, x.born < L.length := fun x hx => by
   obtain ⟨i, t, h1, rfl⟩ := ents_mem hx
   exact (List.getElem?_eq_some_iff.1 h1).1
  rcases run_next_at (P := Tryz.prog) wr 0 w.heap.size b L.length c0 seen (ents L).toArray L.length hR.it hb2 hold hR.le with ⟨h0, hrun⟩ | ⟨e, he, w1, hal, hrun⟩
  ·have HZ := Lib.hid h0
   clear hR hb2 hold h0
   have hp := OT.slice HR.out.row
   rw [List.length_map] at hp
   obtain ⟨pa, pc, rfl, -, -⟩ := hp
   by_cases hK : K = []
   ·subst hK
    go_wp2_with fail
    refine (sort_none pa pc _ _).mono ?_
    rintro e w' ⟨rfl, rfl⟩
    go_wp2_with fail
    go_ret
    obtain ⟨h1, h2⟩ := sum_done (List.Perm.refl []) List.Pairwise.nil (fun e he => by cases he) List.nodup_nil HR.out.ev HZ.out
    refine ⟨⟨pa, 0, pc⟩, rfl, ?_, HR.out.bel⟩
    rw [h2]
    exact ⟨⟨[], OT.mono HR.out.row HLO.out, fun e he => (by cases he), List.Pairwise.nil, rfl⟩, h1, fun t ht => (by cases ht)⟩
   ·have hne : K.map Prod.fst ≠ [] := fun h => hK (List.map_eq_nil_iff.1 h)
    have hpos : 0 < K.length := List.length_pos_iff.2 hK
    clear hK
    obtain ⟨g, rfl, hg1, hg2, -⟩ := OT.at HR.out.row hne
    have HG := Lib.hid hg1
    have ST := Lib.hid (sort_any w.heap.size g pc K wr HR.out.row hpos (by have := HR.out.len; have := HN.out; omega))
    clear hne hpos hg1 hg2
    go_wp2_with fail
    with_reducible refine ST.out.mono ?_
    rintro e w3 ⟨rfl, d, hd, hs, hO, hOn⟩
    have HD := Lib.hid hd; have HS := Lib.hid hs; have HO := Lib.hid hO; have HON := Lib.hid hOn
    clear hd hs hO hOn ST
    go_wp2_with fail
    go_ret
    obtain ⟨h1, h2⟩ := sum_done HD.out HS.out (fun e he => (HR.out.mem e he).1) HR.out.keys HR.out.ev HZ.out
    have hbel := Only.bel HR.out.bel HON.out HG.out HR.out.bel.size
    refine ⟨⟨some ⟨g, 0, none⟩, K.length, pc⟩, rfl, ?_, hbel⟩
    rw [h2]
    have hmem : ∀ e ∈ d, ∃ i : Nat, L[i]? = some e := fun e he => by
     obtain ⟨i, h3, -⟩ := (HR.out.mem e (HD.out.mem_iff.1 he)).2
     exact ⟨i, h3⟩
    have hO2 : OT w3 lo (.slice (some ⟨g, 0, none⟩) K.length pc) (d.map Prod.fst) := OT.mono HO.out HLO.out
    refine ⟨⟨d, hO2, fun e he => ?_, apart_sub HM.out.ap hmem ((HD.out.map _).nodup_iff.2 HR.out.keys), rfl⟩, h1, fun u hu => ?_⟩
    ·obtain ⟨i, h3⟩ := hmem e he
     exact (HM.out.df e (List.mem_of_getElem? h3)).below hbel
    ·obtain ⟨e, he, rfl⟩ := List.mem_map.1 hu
     obtain ⟨i, h3⟩ := hmem e he
     exact HM.out.small e (List.mem_of_getElem? h3)
  ·obtain ⟨hem, hes⟩ := mem_left he
   have hsh := left_shrinks (ents L).toArray seen e he
   obtain ⟨i, t, hi9, rfl⟩ := ents_mem hem
   have HSH := Lib.hid (show (leftOf (ents L).toArray (seen.push i)).size < (leftOf (ents L).toArray seen).size from hsh)
   have HES := Lib.hid (show seen.contains i = false from hes)
   have HI := Lib.hid hi9
   change (Instr.next (.pointer (some ⟨w.heap.size, 0, none⟩)) false 0).run Tryz.prog wr = .ok (.tuple #[.bool true, .agg #[.int .u16 t.1.m.x, .int .u16 t.1.m.y, .int .u16 t.1.m.z, .int .u16 t.1.m.t], .agg #[.bool t.1.c.t.s, .slice t.1.c.t.a t.1.c.t.n t.1.c.t.c, .bool t.1.c.l.s, .slice t.1.c.l.a t.1.c.l.n t.1.c.l.c]]) (putObj w1 w.heap.size (.mapIter (some b) L.length (seen.push i) L.length)) at hrun
   obtain ⟨W2, hW2⟩ : ∃ W2, W2 = putObj w1 w.heap.size (.mapIter (some b) L.length (seen.push i) L.length) := ⟨_, rfl⟩
   have h1 : w1.heap = wr.heap ∧ w1.os = wr.os ∧ w1.tape = wr.tape ∧ w1.output = wr.output := by rcases hal with rfl | rfl <;> exact ⟨rfl, rfl, rfl, rfl⟩
   have hit1 : w1.heap[w.heap.size]? = some (.mapIter (some b) L.length seen c0) := by rw [h1.1]; exact hR.it
   have hit2 : W2.heap[w.heap.size]? = some (.mapIter (some b) L.length (seen.push i) L.length) := by rw [hW2]; exact putObj_same hit1
   have hOn : Only w.heap.size wr W2 := by
    rw [hW2]
    exact ⟨h1.2.1, h1.2.2.1, h1.2.2.2, by rw [size_putObj, h1.1]; exact Nat.le_refl _, fun k _ hk => (putObj_other w1 _ hk).trans (by rw [h1.1])⟩
   have hb3 : W2.heap[b]? = some (.map (ents L).toArray L.length) := (hOn.2.2.2.2 b (Nat.lt_of_lt_of_le HM.out.lt hR.bel.size) (Nat.ne_of_lt HM.out.lt)).trans hb2
   have hent := run_entry_at (P := Tryz.prog) W2 w.heap.size b L.length seen (ents L).toArray L.length (ent (t, i)) hit2 hb3 hem (ents_born L)
   change (Instr.entry (.pointer (some ⟨w.heap.size, 0, none⟩))).run Tryz.prog W2 = .ok (.tuple #[.agg #[.int .u16 t.1.m.x, .int .u16 t.1.m.y, .int .u16 t.1.m.z, .int .u16 t.1.m.t], .agg #[.bool t.1.c.t.s, .slice t.1.c.t.a t.1.c.t.n t.1.c.t.c, .bool t.1.c.l.s, .slice t.1.c.l.a t.1.c.l.n t.1.c.l.c]]) W2 at hent
   rw [← hW2] at hrun
   have HIT := Lib.hid hit2
   have HRO := Lib.hid (show OT W2 w.heap.size _ (K.map Prod.fst) from OT.only hR.row hOn (fun cur h => by rw [hR.it] at h; cases h))
   have KG := Lib.hid (show Below w.heap.size w W2 from Only.bel hR.bel hOn (Nat.le_refl _) hR.bel.size)
   clear hW2 h1 hit1 hit2 hOn hb3 hb2 hold hR he hem hes hsh hi9 hal
   go_upto_region 4 with (fail)
   obtain ⟨V, hV⟩ : ∃ V, V = (W2.alloc (.cells #[.int .u16 t.1.m.x, .int .u16 t.1.m.y, .int .u16 t.1.m.z, .int .u16 t.1.m.t] 48)).alloc (.cells #[.bool t.1.c.t.s, .slice t.1.c.t.a t.1.c.t.n t.1.c.t.c, .bool t.1.c.l.s, .slice t.1.c.l.a t.1.c.l.n t.1.c.l.c] 28) := ⟨_, rfl⟩
   have hbV : Below W2.heap.size W2 V := by rw [hV]; exact ((Below.refl _ _).alloc (Nat.le_refl _) _).alloc (by go_size) _
   have B3 := Lib.hid (show Bxs V W2.heap.size 48 [.int .u16 t.1.m.x, .int .u16 t.1.m.y, .int .u16 t.1.m.z, .int .u16 t.1.m.t] by rw [hV]; exact (Bxs.new W2 48 [.int .u16 t.1.m.x, .int .u16 t.1.m.y, .int .u16 t.1.m.z, .int .u16 t.1.m.t]).alloc _)
   have B4 := Lib.hid (show Bxs V (W2.heap.size + 1) 28 [.bool t.1.c.t.s, .slice t.1.c.t.a t.1.c.t.n t.1.c.t.c, .bool t.1.c.l.s, .slice t.1.c.l.a t.1.c.l.n t.1.c.l.c] by
    have h := Bxs.new (W2.alloc (.cells #[.int .u16 t.1.m.x, .int .u16 t.1.m.y, .int .u16 t.1.m.z, .int .u16 t.1.m.t] 48)) 28 [.bool t.1.c.t.s, .slice t.1.c.t.a t.1.c.t.n t.1.c.t.c, .bool t.1.c.l.s, .slice t.1.c.l.a t.1.c.l.n t.1.c.l.c]
    rw [World.size_alloc] at h
    rw [hV]; exact h)
   rw [← hV]
   have hmem := List.mem_of_getElem? HI.out
   have LQT := Lib.hid (HL.out t hmem)
   have hlw : w.heap.size < W2.heap.size := lt_of_block HIT.out
   have HIT := Lib.hid ((hbV.block w.heap.size hlw).trans HIT.out)
   have HRO := Lib.hid (OT.below HRO.out hbV)
   have KG := Lib.hid (KG.out.trans (hbV.mono KG.out.size))
   have ND := Lib.hid ((HM.out.df t hmem).below KG.out)
   have HLW := Lib.hid (Nat.lt_of_lt_of_le hlw hbV.size)
   obtain ⟨sg, hsg⟩ : ∃ c, c = cmpZ t.2.num 0 := ⟨_, rfl⟩
   have CT := Lib.hid (qsign ND.out.k.any (ND.out.k.len LQT.out (Nat.le_refl _)))
   rw [show cmpZ t.2.num 0 = sg from hsg.symm] at CT
   have hgs : (sg != 0) = decide (t.2 ≠ 0) := by rw [hsg]; exact sg_ne
   clear hV hbV hmem hrun hent hlw hsg
   have c40 := B4.out.cell (i := 0) rfl
   have c41 := B4.out.cell (i := 1) rfl
   have c42 := B4.out.cell (i := 2) rfl
   have c43 := B4.out.cell (i := 3) rfl
   have HGS := Lib.hid hgs
   clear hgs
   go_wp2_with fail
   with_reducible refine CT.out.mono ?_
   rintro e w4 ⟨rfl, hb⟩
   clear c40 c41 c42 c43 CT
   have HIT := Lib.hid ((hb.block w.heap.size HLW.out).trans HIT.out)
   have HRO := Lib.hid (OT.below HRO.out hb)
   have KG := Lib.hid (KG.out.trans (hb.mono KG.out.size))
   have B3 := Lib.hid (B3.out.below hb B3.out.lt)
   have B4 := Lib.hid (B4.out.below hb B4.out.lt)
   have HLW := Lib.hid (Nat.lt_of_lt_of_le HLW.out hb.size)
   clear hb
   by_cases hq : t.2 = 0
   ·have g0 : (sg != 0) = false := by rw [HGS.out]; exact decide_eq_false fun h => h hq
    have HQ := Lib.hid hq
    clear hq
    go_wp2_with fail
    go_roundw
    case rel =>
     refine ⟨K, seen.push i, L.length, HRO.out, HIT.out, Nat.le_refl _, KG.out, fun e he => ?_, HR.out.keys, fun f => ?_, ?_⟩
     ·obtain ⟨h1, j, h2, h3⟩ := HR.out.mem e he
      exact ⟨h1, j, h2, by rw [contains_push, h3]; rfl⟩
     ·rw [seenEv_push f seen HES.out L 0 t (by rw [Nat.sub_zero]; exact HI.out) (Nat.zero_le _), ← HR.out.ev, HQ.out]
      grind
     ·have := left_push HSH.out HR.out.len 0 (by omega)
      omega
    case measure =>
     have h1 : wr.iterSeen w.heap.size = seen := by unfold World.iterSeen; rw [HR.out.it]
     have h2 : w4.iterSeen w.heap.size = seen.push i := by unfold World.iterSeen; rw [HIT.out]
     rw [h1, h2]
     exact HSH.out
   ·have g0 : (sg != 0) = true := by rw [HGS.out]; exact decide_eq_true hq
    have HQ := Lib.hid hq
    clear hq
    have c40 := B4.out.cell (i := 0) rfl
    have c41 := B4.out.cell (i := 1) rfl
    have c42 := B4.out.cell (i := 2) rfl
    have c43 := B4.out.cell (i := 3) rfl
    have c30 := B3.out.cell (i := 0) rfl
    have c31 := B3.out.cell (i := 1) rfl
    have c32 := B3.out.cell (i := 2) rfl
    have c33 := B3.out.cell (i := 3) rfl
    have HKL := Lib.hid (show K.length + 1 ≤ 1000001 by have := HR.out.len; have := HN.out; omega)
    go_wp2_with (first | (at_builtin; refine wpList_append_own _ rfl _ _ 23 rfl w.heap.size 50 i0 _ 8 72 Tryz.underlying23 hi hz0 hz1 hz2 rfl (by decide) _ _ _ rfl (HRO.out.alloc _) ⟨w4.heap.size, 0, none⟩ 1 1 (TV.cells t.1) rfl rfl ?c1 ?c2 ?c3 ?c4 ?c5 ?_))
    case c1 =>
     intro j u hj
     match j, hj with
     | 0, hj => simp [TV.cells] at hj; subst hj; simp [Addr.add]
     | 1, hj => simp [TV.cells] at hj; subst hj; simp [Addr.add]
     | 2, hj => simp [TV.cells] at hj; subst hj; simp [Addr.add]
     | 3, hj => simp [TV.cells] at hj; subst hj; simp [Addr.add]
     | 4, hj => simp [TV.cells] at hj; subst hj; simp [Addr.add]
     | 5, hj => simp [TV.cells] at hj; subst hj; simp [Addr.add]
     | 6, hj => simp [TV.cells] at hj; subst hj; simp [Addr.add]
     | 7, hj => simp [TV.cells] at hj; subst hj; simp [Addr.add]
    case c2 =>
     intro u hu
     simp only [TV.cells, List.mem_cons, List.mem_nil_iff, or_false] at hu
     rcases hu with rfl | rfl | rfl | rfl | rfl | rfl | rfl | rfl <;> rfl
    case c3 => rw [List.length_map]; have := HKL.out; unfold maxLen; omega
    case c4 => rw [List.length_map]; have := HKL.out; omega
    case c5 => have := KG.out.size; simp; omega
    intro v' w5 hown hgrow _
    have O5 := Lib.hid (show OT w5 w.heap.size v' ((K ++ [t]).map Prod.fst) by
     have e1 : (K ++ [t]).map Prod.fst = K.map Prod.fst ++ [t.1] := by rw [List.map_append]; rfl
     have e2 : (K.map Prod.fst ++ [t.1]).flatMap TV.cells = (K.map Prod.fst).flatMap TV.cells ++ TV.cells t.1 := by rw [List.flatMap_append, List.flatMap_cons, List.flatMap_nil, List.append_nil]
     rw [e1]
     show w5.ownsRow _ _ _ _ _ _
     rw [e2, List.length_append, List.length_map]
     exact hown)
    have HIT5 := Lib.hid ((hgrow.block w.heap.size (by have := HLW.out; rw [World.size_alloc]; omega) (fun h => OT.notIter HRO.out HIT.out h.symm)).trans ((heap_alloc_old w4 _ HLW.out).trans HIT.out))
    have KG5 := Lib.hid ((KG.out.alloc KG.out.size _).grown hgrow (by have := KG.out.size; rw [World.size_alloc]; omega) (fun g hg => (World.ownsRow.lt HRO.out g hg).1))
    clear hown hgrow c40 c41 c42 c43 c30 c31 c32 c33
    go_wp2_with fail
    go_roundw
    case rel =>
     refine ⟨K ++ [t], seen.push i, L.length, O5.out, HIT5.out, Nat.le_refl _, KG5.out, fun e he => ?_, ?_, fun f => ?_, ?_⟩
     ·rcases List.mem_append.1 he with he | he
      ·obtain ⟨h1, j, h2, h3⟩ := HR.out.mem e he
       exact ⟨h1, j, h2, by rw [contains_push, h3]; rfl⟩
      ·rw [List.mem_singleton.1 he]
       exact ⟨HQ.out, i, HI.out, by rw [contains_push]; simp⟩
     ·rw [List.map_append]
      refine List.nodup_append.2 ⟨HR.out.keys, by simp, fun a ha c hc => ?_⟩
      obtain ⟨e, he, rfl⟩ := List.mem_map.1 ha
      have : c = t.1.m := by simpa using hc
      rw [this]
      obtain ⟨-, j, h2, h3⟩ := HR.out.mem e he
      intro e1
      obtain ⟨l2, q2⟩ := List.getElem?_eq_some_iff.1 h2
      obtain ⟨l3, q3⟩ := List.getElem?_eq_some_iff.1 HI.out
      have hij : j ≠ i := fun h => by rw [h, HES.out] at h3; cases h3
      have hk := List.pairwise_iff_getElem.1 HM.out.keys
      rcases Nat.lt_or_gt_of_ne hij with h | h
      ·have := hk j i (by rw [List.length_map]; exact l2) (by rw [List.length_map]; exact l3) h
       rw [List.getElem_map, List.getElem_map, q2, q3] at this
       exact this e1
      ·have := hk i j (by rw [List.length_map]; exact l3) (by rw [List.length_map]; exact l2) h
       rw [List.getElem_map, List.getElem_map, q2, q3] at this
       exact this e1.symm
     ·rw [seenEv_push f seen HES.out L 0 t (by rw [Nat.sub_zero]; exact HI.out) (Nat.zero_le _), ← HR.out.ev, List.map_append, ev_append]
      show _ + (t.2 * f t.1.m + 0) = _
      rw [Rat.add_zero]
     ·rw [List.length_append]
      exact left_push HSH.out HR.out.len 1 (Nat.le_refl _)
    case measure =>
     have h1 : wr.iterSeen w.heap.size = seen := by unfold World.iterSeen; rw [HR.out.it]
     have h2 : w5.iterSeen w.heap.size = seen.push i := by unfold World.iterSeen; rw [HIT5.out]
     rw [h1, h2]
     exact HSH.out
def put8 (w : World) (b : Nat) (v0 v1 v2 v3 v4 v5 v6 v7 : Value) : World :=
 (((((((w.setCell ⟨b, 0, none⟩ v0).setCell ⟨b, 1, none⟩ v1).setCell ⟨b, 2, none⟩ v2).setCell ⟨b, 3, none⟩ v3).setCell ⟨b, 4, none⟩ v4).setCell ⟨b, 5, none⟩ v5).setCell ⟨b, 6, none⟩ v6).setCell ⟨b, 7, none⟩ v7
theorem put8_bxs {w : World} {b : Nat} {t : TypeId} {u0 u1 u2 u3 u4 u5 u6 u7 : Value} (h : Bxs w b t [u0, u1, u2, u3, u4, u5, u6, u7]) (v0 v1 v2 v3 v4 v5 v6 v7 : Value) : Bxs (put8 w b v0 v1 v2 v3 v4 v5 v6 v7) b t [v0, v1, v2, v3, v4, v5, v6, v7] :=
 (((((((h.put 0 v0).put 1 v1).put 2 v2).put 3 v3).put 4 v4).put 5 v5).put 6 v6).put 7 v7
theorem put8_mk {w : World} {lo c b : Nat} {L : List TE} {t : TypeId} {l : List Value} (h : MK w lo c L) (hb : Bxs w b t l) (ht : 110 ≠ t) (v0 v1 v2 v3 v4 v5 v6 v7 : Value) : MK (put8 w b v0 v1 v2 v3 v4 v5 v6 v7) lo c L := by
 have b1 := hb.put 0 v0
 have b2 := b1.put 1 v1
 have b3 := b2.put 2 v2
 have b4 := b3.put 3 v3
 have b5 := b4.put 4 v4
 have b6 := b5.put 5 v5
 have b7 := b6.put 6 v6
 exact (((((((h.setBxs hb ht 0 v0).setBxs b1 ht 1 v1).setBxs b2 ht 2 v2).setBxs b3 ht 3 v3).setBxs b4 ht 4 v4).setBxs b5 ht 5 v5).setBxs b6 ht 6 v6).setBxs b7 ht 7 v7
theorem put8_df {w : World} {lo b : Nat} {x : FV} {q : Rat} {t : TypeId} {l : List Value} (h : DF w lo x q) (hb : Bxs w b t l) (ht : 110 ≠ t) (v0 v1 v2 v3 v4 v5 v6 v7 : Value) : DF (put8 w b v0 v1 v2 v3 v4 v5 v6 v7) lo x q := by
 have b1 := hb.put 0 v0
 have b2 := b1.put 1 v1
 have b3 := b2.put 2 v2
 have b4 := b3.put 3 v3
 have b5 := b4.put 4 v4
 have b6 := b5.put 5 v5
 have b7 := b6.put 6 v6
 exact (((((((h.setBxs hb ht 0 v0).setBxs b1 ht 1 v1).setBxs b2 ht 2 v2).setBxs b3 ht 3 v3).setBxs b4 ht 4 v4).setBxs b5 ht 5 v5).setBxs b6 ht 6 v6).setBxs b7 ht 7 v7
theorem put8_below {B : Nat} {u w : World} {b : Nat} (h : Below B u w) (hb : B ≤ b) (v0 v1 v2 v3 v4 v5 v6 v7 : Value) : Below B u (put8 w b v0 v1 v2 v3 v4 v5 v6 v7) :=
 (((((((h.setCell hb v0).setCell hb v1).setCell hb v2).setCell hb v3).setCell hb v4).setCell hb v5).setCell hb v6).setCell hb v7
def NB (l : List Tm) (j k : Nat) : Prop := ∀ t ∈ l, ∃ i, 0 < i ∧ i ≤ j ∧ NQ t.2 i k
theorem NB.nil (j k : Nat) : NB [] j k := fun t h => by cases h
theorem NB.put {l : List Tm} {j k : Nat} {q : Rat} (h : NB l j k) (m : Mo) (hq : LQ q k) : NB (putT m q l) (j + 1) k := by
 induction l with
 | nil =>
  intro t ht
  obtain rfl : t = (m, q) := by simpa [putT] using ht
  exact ⟨1, by omega, by omega, NQ.one hq⟩
 | cons s r ih =>
  intro t ht
  unfold putT at ht
  split at ht
  ·rcases List.mem_cons.1 ht with rfl | ht
   ·obtain ⟨i, h1, h2, h3⟩ := h s (List.mem_cons_self ..)
    exact ⟨i + 1, by omega, by omega, h3.add (NQ.one hq) h1 (by omega)⟩
   ·obtain ⟨i, h1, h2, h3⟩ := h t (List.mem_cons_of_mem _ ht)
    exact ⟨i, h1, by omega, h3⟩
  ·rcases List.mem_cons.1 ht with rfl | ht
   ·obtain ⟨i, h1, h2, h3⟩ := h t (List.mem_cons_self ..)
    exact ⟨i, h1, by omega, h3⟩
   ·exact ih (fun t ht => h t (List.mem_cons_of_mem _ ht)) t ht
theorem NB.lq {l : List Tm} {j k m : Nat} (h : NB l j k) (hm : j * (k + 1) ≤ m) : ∀ t ∈ l, LQ t.2 m := fun t ht => by
 obtain ⟨i, _, h2, h3⟩ := h t ht
 exact h3.lq (Nat.le_trans (Nat.mul_le_mul_right _ h2) hm)
theorem putT_len (m : Mo) (q : Rat) : ∀ l : List Tm, (putT m q l).length ≤ l.length + 1
 | [] => Nat.le_refl _
 | s :: r => by
  unfold putT
  have := putT_len m q r
  split
  ·simp
  ·simp; omega
theorem nf_of_ev {l r : List Tm} (h : ∀ f, ev l f = ev r f) : nf l = nf r := nf_same h
structure RowA (w : World) (x : PV) (L : List TE) : Prop where
 rt : RT w x.a (L.map Prod.fst)
 len : L.length = x.n
 af : ∀ e ∈ L, AF w e.1.c e.2
 lf : ∀ e ∈ L, LF e.1.c 900000
theorem RowA.below {w w' : World} {x : PV} {L : List TE} (h : RowA w x L) (hb : Below w.heap.size w w') : RowA w' x L := ⟨h.rt.below hb, h.len, fun e he => (h.af e he).below hb, h.lf⟩
theorem KP.rowA {w : World} {x : PV} {P : List Tm} (h : KP w x P) (hq : ∀ t ∈ P, LQ t.2 900000) : ∃ L, RowA w x L ∧ (∀ e ∈ L, KF w e.1.c e.2) ∧ L.map tm = P := by
 obtain ⟨L, h1, h2, h3, h4⟩ := h.ex
 exact ⟨L, ⟨h1, h2, fun e he => (h3 e he).any, fun e he => (h3 e he).len (hq (tm e) (by rw [← h4]; exact List.mem_map_of_mem he)) (Nat.le_refl _)⟩, h3, h4⟩
set_option maxRecDepth 100000 in
set_option maxHeartbeats 16000000 in
theorem with_any (G : Nat) (cs : Array Value) (x : PV) (L : List TE) (g : TE → Tm) (k : Nat) (w : World) (hx : RowA w x L) (hn : L.length ≤ 1000000) (hk : L.length * (k + 1) ≤ 900000)
  (hcf : ∀ (args : Array Value) (w : World), (callFunc G args).run Tryz.prog w = .ok (.enter G args) w)
  (hF : ∀ e ∈ L, ∀ w1, Below w.heap.size w w1 → AF w1 e.1.c e.2 → LF e.1.c 900000 → Calls Tryz.prog G (#[TV.v e.1] ++ cs) w1 fun en w' => ∃ y : FV, en = .returned (TV.v ⟨y, (g e).1⟩) ∧ DF w' w1.heap.size y (g e).2 ∧ Below w1.heap.size w1 w')
  (hs : ∀ e ∈ L, (g e).1.Small) (hq : ∀ e ∈ L, LQ (g e).2 k) :
  Calls Tryz.prog 46 #[x.v, .func (.func G) #[] cs] w fun e w' => ∃ y : PV, e = .returned y.v ∧ DP w' w.heap.size y (nf (L.map g)) ∧ Below w.heap.size w w' := by
 obtain ⟨xa, xn, xc⟩ := x
 change Calls Tryz.prog 46 #[.slice xa xn xc, .func (.func G) #[] cs] w _
 have HLN := Lib.hid (show L.length = xn from hx.len)
 have HX := Lib.hid hx; have HN := Lib.hid hn; have HK := Lib.hid hk; have HF := Lib.hid hF; have HS := Lib.hid hs; have HQ := Lib.hid hq
 have hmm := fun (t : TypeId) (w : World) => run_makeMap (P := Tryz.prog) t w
 clear hx hn hk hF hs hq
 go_enter Tryz.func46, Tryz.ntmps46
 go_wp2_with fail
 clear hmm
 go_loopw [11] (fun i wr => ∃ (j : Nat) (M : List TE), j ≤ xn ∧ i = .int .i64 j ∧ MK wr w.heap.size w.heap.size M ∧ (∀ f, ev (M.map tm) f = ev ((L.take j).map g) f) ∧ NB (M.map tm) j k ∧ M.length ≤ j ∧ Below w.heap.size w wr) (fun i _ => xn - (intOf i).toNat)
 case atStart =>
  exact ⟨0, [], Nat.zero_le _, rfl, ⟨heap_alloc_new w _, Nat.le_refl _, fun e he => (by cases he), List.Pairwise.nil, List.nodup_nil, fun e he => (by cases he)⟩, fun f => (by rw [List.take_zero]; rfl), NB.nil _ _, Nat.le_refl _, (Below.refl _ _).alloc (Nat.le_refl _) _⟩
 case round =>
  obtain ⟨j, M, hj, rfl, hM, hev, hnb, hml, hb0⟩ := hrel
  have HJ := Lib.hid hj; have HM := Lib.hid hM; have HEV := Lib.hid hev; have HNB := Lib.hid hnb; have HML := Lib.hid hml; have KG := Lib.hid hb0
  clear hj hM hev hnb hml hb0
  have HJK := Lib.hid (show j * (k + 1) ≤ 900000 from Nat.le_trans (Nat.mul_le_mul_right _ HJ.out) (by rw [← HLN.out]; exact HK.out))
  by_cases hjn : j < xn
  ·have HJN := Lib.hid hjn
   have hjl : j < L.length := by rw [HLN.out]; exact hjn
   obtain ⟨pb, po, rfl, hpb, hcs⟩ := (HX.out.below KG.out).rt.off (i := j) (by rw [List.length_map]; exact hjl)
   obtain ⟨e, he⟩ : ∃ e, L[j]? = some e := ⟨_, List.getElem?_eq_getElem hjl⟩
   obtain ⟨t, q⟩ := e
   obtain ⟨c0, c1, c2, c3, c4, c5, c6, c7⟩ := RT.eight hcs (i := j) (t := t) (by rw [List.getElem?_map, he]; rfl)
   have HE := Lib.hid he
   have hmem := List.mem_of_getElem? he
   clear hcs he hpb hjl
   go_upto_region 5 with (fail)
   obtain ⟨V, hV⟩ : ∃ V, V = wr.alloc (.cells #[.bool t.c.t.s, .slice t.c.t.a t.c.t.n t.c.t.c, .bool t.c.l.s, .slice t.c.l.a t.c.l.n t.c.l.c, .int .u16 t.m.x, .int .u16 t.m.y, .int .u16 t.m.z, .int .u16 t.m.t] 50) := ⟨_, rfl⟩
   have hbV : Below wr.heap.size wr V := by rw [hV]; exact (Below.refl _ _).alloc (Nat.le_refl _) _
   have B7 := Lib.hid (show Bxs V wr.heap.size 50 [.bool t.c.t.s, .slice t.c.t.a t.c.t.n t.c.t.c, .bool t.c.l.s, .slice t.c.l.a t.c.l.n t.c.l.c, .int .u16 t.m.x, .int .u16 t.m.y, .int .u16 t.m.z, .int .u16 t.m.t] by rw [hV]; exact Bxs.new wr 50 [.bool t.c.t.s, .slice t.c.t.a t.c.t.n t.c.t.c, .bool t.c.l.s, .slice t.c.l.a t.c.l.n t.c.l.c, .int .u16 t.m.x, .int .u16 t.m.y, .int .u16 t.m.z, .int .u16 t.m.t])
   obtain ⟨A7, hA7⟩ : ∃ A, A = wr.heap.size := ⟨_, rfl⟩
   rw [← hV, ← hA7]
   rw [← hA7] at B7
   have HA7 := Lib.hid (show w.heap.size ≤ A7 by rw [hA7]; exact KG.out.size)
   have HM := Lib.hid (HM.out.below hbV)
   have KG := Lib.hid (KG.out.trans (hbV.mono KG.out.size))
   obtain ⟨gm, gq, hg⟩ : ∃ gm gq, g (t, q) = (gm, gq) := ⟨_, _, rfl⟩
   have hF1 := HF.out (t, q) hmem V KG.out ((HX.out.af _ hmem).below KG.out) (HX.out.lf _ hmem)
   have hS1 := HS.out (t, q) hmem
   have hQ1 := HQ.out (t, q) hmem
   rw [hg] at hF1 hS1 hQ1
   have CT := Lib.hid hF1; have HS1 := Lib.hid hS1; have HQ1 := Lib.hid hQ1
   have HG := Lib.hid hg
   have ek : IntKind.i64.wrap ((j : Int) + 1) = (j : Int) + 1 := IntWalk.i64_in _ (by have := HJN.out; have := HLN.out; have := HN.out; omega)
   clear hV hbV hA7 hmem hF1 hS1 hQ1 hg c0 c1 c2 c3 c4 c5 c6 c7 hjn
   have c0 := B7.out.cell (i := 0) rfl
   have c1 := B7.out.cell (i := 1) rfl
   have c2 := B7.out.cell (i := 2) rfl
   have c3 := B7.out.cell (i := 3) rfl
   have c4 := B7.out.cell (i := 4) rfl
   have c5 := B7.out.cell (i := 5) rfl
   have c6 := B7.out.cell (i := 6) rfl
   have c7 := B7.out.cell (i := 7) rfl
   go_wp2_with fail
   refine CT.out.mono ?_
   rintro e w2 ⟨y, rfl, hy, hb⟩
   clear c0 c1 c2 c3 c4 c5 c6 c7 CT
   have B7 := Lib.hid (B7.out.below hb B7.out.lt)
   have HAP := Lib.hid (show ∀ e ∈ M, FV.apart e.1.c y from fun e he b hb1 hb2 => Nat.not_lt_of_le (hy.blks b hb2).1 ((HM.out.df e he).blks b hb1).2)
   have HM := Lib.hid (HM.out.below hb)
   have HY := Lib.hid (hy.mono KG.out.size)
   have KG := Lib.hid (KG.out.trans (hb.mono KG.out.size))
   clear hy hb
   have c0 := B7.out.cell (i := 0) rfl
   have c1 := B7.out.cell (i := 1) rfl
   have c2 := B7.out.cell (i := 2) rfl
   have c3 := B7.out.cell (i := 3) rfl
   have c4 := B7.out.cell (i := 4) rfl
   have c5 := B7.out.cell (i := 5) rfl
   have c6 := B7.out.cell (i := 6) rfl
   have c7 := B7.out.cell (i := 7) rfl
   have cf := B7.out.fz
   have cl := B7.out.lt
   go_upto_region 6 with (fail)
   clear c0 c1 c2 c3 c4 c5 c6 c7 cf cl
   obtain ⟨U, hU⟩ : ∃ U, U = put8 w2 A7 (.bool y.t.s) (.slice y.t.a y.t.n y.t.c) (.bool y.l.s) (.slice y.l.a y.l.n y.l.c) (.int .u16 gm.x) (.int .u16 gm.y) (.int .u16 gm.z) (.int .u16 gm.t) := ⟨_, rfl⟩
   have B8 := Lib.hid (show Bxs U A7 50 [.bool y.t.s, .slice y.t.a y.t.n y.t.c, .bool y.l.s, .slice y.l.a y.l.n y.l.c, .int .u16 gm.x, .int .u16 gm.y, .int .u16 gm.z, .int .u16 gm.t] by rw [hU]; exact put8_bxs B7.out ..)
   have HM := Lib.hid (show MK U w.heap.size w.heap.size M by rw [hU]; exact put8_mk HM.out B7.out (by decide) ..)
   have HY := Lib.hid (show DF U w.heap.size y gq by rw [hU]; exact put8_df HY.out B7.out (by decide) ..)
   have KG := Lib.hid (show Below w.heap.size w U by rw [hU]; exact put8_below KG.out HA7.out ..)
   unfold put8 at hU
   rw [← hU]
   have AD := Lib.hid (add_likes w.heap.size w.heap.size M y gq gm U HM.out HY.out HAP.out HS1.out (HQ1.out.up (by have := Nat.le_mul_of_pos_left (k + 1) (show 0 < L.length by rw [HLN.out]; have := HJN.out; omega); have := HK.out; omega))
    (fun e he => HNB.out.lq HJK.out (tm e) (List.mem_map_of_mem he)) KG.out.size)
   clear hU
   have c0 := B8.out.cell (i := 0) rfl
   have c1 := B8.out.cell (i := 1) rfl
   have c2 := B8.out.cell (i := 2) rfl
   have c3 := B8.out.cell (i := 3) rfl
   have c4 := B8.out.cell (i := 4) rfl
   have c5 := B8.out.cell (i := 5) rfl
   have c6 := B8.out.cell (i := 6) rfl
   have c7 := B8.out.cell (i := 7) rfl
   go_wp2_with fail
   with_reducible refine AD.out.mono ?_
   rintro e w3 ⟨rfl, ⟨M', hM', hv'⟩, hOn⟩
   have HM' := Lib.hid hM'; have HV' := Lib.hid hv'
   have KG := Lib.hid (Only.bel KG.out hOn (Nat.le_refl _) KG.out.size)
   clear hM' hv' hOn AD c0 c1 c2 c3 c4 c5 c6 c7
   go_wp2_with fail
   go_roundw
   case rel =>
    refine ⟨j + 1, M', by have := HJN.out; omega, rfl, HM'.out, fun f => ?_, ?_, ?_, KG.out⟩
    ·rw [HV'.out, ev_putT, HEV.out, List.take_add_one, HE.out, List.map_append, ev_append]
     show _ = _ + ((g (t, q)).2 * f (g (t, q)).1 + 0)
     rw [HG.out]
     grind
    ·rw [HV'.out]
     exact HNB.out.put gm HQ1.out
    ·have h1 := congrArg List.length HV'.out
     have h2 := putT_len gm gq (M.map tm)
     rw [List.length_map] at h1 h2
     have := HML.out
     omega
   case measure => simp [intOf]; have := HJN.out; omega
  ·have HJE := Lib.hid (show j = xn by have := HJ.out; omega)
   have hge : ¬ ((j : Int) < (xn : Int)) := by omega
   have SM := Lib.hid (sum_likes w.heap.size w.heap.size M wr HM.out (fun e he => HNB.out.lq HJK.out (tm e) (List.mem_map_of_mem he)) KG.out.size (by have := HML.out; have := HJ.out; have := HLN.out; have := HN.out; omega))
   clear hjn
   go_wp2_with fail
   with_reducible refine SM.out.mono ?_
   rintro e w3 ⟨y, rfl, hy, hb⟩
   have HY := Lib.hid hy
   have KG := Lib.hid (KG.out.trans (hb.mono KG.out.size))
   clear hy hb SM
   go_wp2_with fail
   go_ret
   refine ⟨y, rfl, ?_, KG.out⟩
   have e1 : nf (M.map tm) = nf (L.map g) := nf_of_ev fun f => by
    rw [HEV.out, List.take_of_length_le (by rw [HLN.out, HJE.out]; exact Nat.le_refl _)]
   rw [← e1]
   exact HY.out
theorem one_small : Mo.one.Small := ⟨by decide, by decide, by decide, by decide⟩
theorem lq_one : LQ ((1 : Int) : Rat) 3 := LQ.int (by decide) (by decide)
set_option maxRecDepth 100000 in
set_option maxHeartbeats 4000000 in
theorem of1_any (t : TV) (q : Rat) (w : World) (af : AF w t.c q) (lf : LF t.c 900000) : Calls Tryz.prog 78 #[TV.v t] w fun en w' => ∃ y : FV, en = .returned (TV.v ⟨y, Mo.one⟩) ∧ DF w' w.heap.size y q ∧ Below w.heap.size w w' := by
 have LQq := Lib.hid (af.len lf)
 have HLNF := Lib.hid lf
 obtain ⟨V, hV⟩ : ∃ V, V = (w.alloc (.cells #[.bool t.c.t.s, .slice t.c.t.a t.c.t.n t.c.t.c, .bool t.c.l.s, .slice t.c.l.a t.c.l.n t.c.l.c, .int .u16 t.m.x, .int .u16 t.m.y, .int .u16 t.m.z, .int .u16 t.m.t] 50)).alloc (.cells #[.bool false, .slice none 0 0, .bool false, .slice none 0 0, .int .u16 0, .int .u16 0, .int .u16 0, .int .u16 0] 50) := ⟨_, rfl⟩
 have hbV : Below w.heap.size w V := by rw [hV]; exact ((Below.refl _ _).alloc (Nat.le_refl _) _).alloc (by go_size) _
 have B1 := Lib.hid (show Bxs V w.heap.size 50 [.bool t.c.t.s, .slice t.c.t.a t.c.t.n t.c.t.c, .bool t.c.l.s, .slice t.c.l.a t.c.l.n t.c.l.c, .int .u16 t.m.x, .int .u16 t.m.y, .int .u16 t.m.z, .int .u16 t.m.t] by rw [hV]; exact (Bxs.new w 50 [.bool t.c.t.s, .slice t.c.t.a t.c.t.n t.c.t.c, .bool t.c.l.s, .slice t.c.l.a t.c.l.n t.c.l.c, .int .u16 t.m.x, .int .u16 t.m.y, .int .u16 t.m.z, .int .u16 t.m.t]).alloc _)
 have B2 := Lib.hid (show Bxs V (w.heap.size + 1) 50 [.bool false, .slice none 0 0, .bool false, .slice none 0 0, .int .u16 0, .int .u16 0, .int .u16 0, .int .u16 0] by
  have h := Bxs.new (w.alloc (.cells #[.bool t.c.t.s, .slice t.c.t.a t.c.t.n t.c.t.c, .bool t.c.l.s, .slice t.c.l.a t.c.l.n t.c.l.c, .int .u16 t.m.x, .int .u16 t.m.y, .int .u16 t.m.z, .int .u16 t.m.t] 50)) 50 [.bool false, .slice none 0 0, .bool false, .slice none 0 0, .int .u16 0, .int .u16 0, .int .u16 0, .int .u16 0]
  rw [World.size_alloc] at h
  rw [hV]; exact h)
 have KG := Lib.hid hbV
 obtain ⟨A1, hA1⟩ : ∃ A, A = w.heap.size := ⟨_, rfl⟩
 obtain ⟨A2, hA2⟩ : ∃ A, A = w.heap.size + 1 := ⟨_, rfl⟩
 have HA2 := Lib.hid (show w.heap.size ≤ A2 by omega)
 have HSZ := Lib.hid (show w.heap.size ≤ V.heap.size from hbV.size)
 have NF := Lib.hid (af.below hbV)
 clear af lf
 change Calls Tryz.prog 78 #[.agg #[.bool t.c.t.s, .slice t.c.t.a t.c.t.n t.c.t.c, .bool t.c.l.s, .slice t.c.l.a t.c.l.n t.c.l.c, .int .u16 t.m.x, .int .u16 t.m.y, .int .u16 t.m.z, .int .u16 t.m.t]] w _
 go_enter Tryz.func78, Tryz.ntmps78
 go_upto_region 1 with (fail)
 rw [← hV, ← hA2, ← hA1]
 rw [← hA1] at B1
 rw [← hA2] at B2
 clear hV hbV hA1 hA2
 obtain ⟨q101, hq101⟩ : ∃ z : Rat, z = ((1 : Int) : Rat) := ⟨_, rfl⟩
 have Hq101 := Lib.hid hq101
 have LQq101 := Lib.hid (show LQ q101 3 by rw [hq101]; exact LQ.int (by decide) (by decide))
 clear hq101
 obtain ⟨q102, hq102⟩ : ∃ z : Rat, z = q * q101 := ⟨_, rfl⟩
 have Hq102 := Lib.hid hq102
 have LQq102 := Lib.hid (show LQ q102 1800002 by rw [hq102]; exact LQ.mul (LQq.out.up (by decide : _ ≤ 900001)) (LQq101.out.up (by decide : _ ≤ 900001)) (by decide))
 clear hq102
 go_upto_region 1 with (fail)
 refine Go.FreshS.wp_region_fresh 5 [] (Go.FreshS.spOf [(2, Go.FreshS.Sp.made (fun x : FV => x.v) (fun x w' => DF w' V.heap.size x q101) FV.blk), (3, Go.FreshS.Sp.made (fun x : FV => x.v) (fun x w' => DF w' V.heap.size x q102) FV.blk)])
  (fun w' => Below V.heap.size V w') (by kernel_rfl) (by kernel_rfl) (by kernel_rfl)
  (Go.FreshS.spOf_cons (Go.FreshS.Sp.made_keeps _ (fun _ _ _ h _ hk => h.kept hk) (Go.FreshS.notTaken (by kernel_rfl))) (Go.FreshS.spOf_cons (Go.FreshS.Sp.made_keeps _ (fun _ _ _ h _ hk => h.kept hk) (Go.FreshS.notTaken (by kernel_rfl))) (Go.FreshS.spOf_nil))) (fun _ _ h hb => h.trans (hb.mono h.size)) ((Below.refl _ _).drew) ?_
 simp only [List.append_eq, List.cons_append, List.nil_append, List.take_succ_cons, List.take_zero, List.drop_succ_cons, List.drop_zero]
 refine Go.FreshS.wpF_reads rfl rfl rfl ?_ (fun w' hw' => ?_) ?_
 rotate_left
 ·have hb' := hw'.world
  skip
  clear hw'
  go_simp
  try rfl
 conv => arg 10; simp only [Act.put, List.setIfInBounds_toArray, List.set_cons_succ, List.set_cons_zero]
 refine Go.FreshS.wpF_reads rfl rfl rfl ?_ (fun w' hw' => ?_) ?_
 rotate_left
 ·have hb' := hw'.world
  have hs0 := (B1.out.below hb' B1.out.lt).cell (i := 0) rfl
  have hs1 := (B1.out.below hb' B1.out.lt).cell (i := 1) rfl
  have hs2 := (B1.out.below hb' B1.out.lt).cell (i := 2) rfl
  have hs3 := (B1.out.below hb' B1.out.lt).cell (i := 3) rfl
  have hs4 := (B1.out.below hb' B1.out.lt).cell (i := 4) rfl
  have hs5 := (B1.out.below hb' B1.out.lt).cell (i := 5) rfl
  have hs6 := (B1.out.below hb' B1.out.lt).cell (i := 6) rfl
  have hs7 := (B1.out.below hb' B1.out.lt).cell (i := 7) rfl
  have hsf := (B1.out.below hb' B1.out.lt).fz
  have hsl := (B1.out.below hb' B1.out.lt).lt
  clear hw'
  go_simp
  try rfl
 conv => arg 10; simp only [Act.put, List.setIfInBounds_toArray, List.set_cons_succ, List.set_cons_zero]
 refine Go.FreshS.wpF_spec rfl rfl rfl (fun w' hw' => ?_) ?_
 ·have hb' := hw'.world
  refine Go.FreshS.gives_of (Go.FreshS.PM (fun x : FV => x.v) (fun x w' => DF w' V.heap.size x q101) FV.blk w'.heap.size) ?_ (fun _ _ h => h.post (fun _ _ => FV.inj))
  go_simp
  have CT := qof 1 w' (by decide) (by decide)
  rw [show ((1 : Int) : Rat) = q101 from Hq101.out.symm] at CT
  refine CT.mono ?_
  rintro e w'' ⟨za, rfl, ho, hb⟩
  exact ⟨_, rfl, ⟨za, rfl, ho.mono hb'.size, ho.blks⟩, hb⟩
 rintro _ ⟨y2, rfl⟩
 conv => arg 10; simp only [Act.put, List.setIfInBounds_toArray, List.set_cons_succ, List.set_cons_zero]
 refine Go.FreshS.wpF_spec rfl rfl rfl (fun w' hw' => ?_) ?_
 ·have hb' := hw'.world
  refine Go.FreshS.gives_of (Go.FreshS.PM (fun x : FV => x.v) (fun x w' => DF w' V.heap.size x q102) FV.blk w'.heap.size) ?_ (fun _ _ h => h.post (fun _ _ => FV.inj))
  go_simp
  have f2 := Go.FreshS.made_of (val := (fun x : FV => x.v)) (Φ := fun x w' => DF w' V.heap.size x q101) (fun _ _ => FV.inj) (hw'.fact 2 (by kernel_rfl))
  have CT := qmul (NF.out.below hb') (LF.up HLNF.out (by decide : _ ≤ 900000)) (f2).k.any (((f2).k).len LQq101.out (by decide : _ ≤ 900000))
  rw [show q * q101 = q102 from Hq102.out.symm] at CT
  refine CT.mono ?_
  rintro e w'' ⟨za, rfl, ho, hb⟩
  exact ⟨_, rfl, ⟨za, rfl, ho.mono hb'.size, ho.blks⟩, hb⟩
 rintro _ ⟨y3, rfl⟩
 conv => arg 10; simp only [Act.put, List.setIfInBounds_toArray, List.set_cons_succ, List.set_cons_zero]
 refine Go.FreshS.wpF_reads rfl rfl rfl ?_ (fun w' hw' => ?_) ?_
 rotate_left
 ·have hb' := hw'.world
  skip
  clear hw'
  go_simp
  try rfl
 conv => arg 10; simp only [Act.put, List.setIfInBounds_toArray, List.set_cons_succ, List.set_cons_zero]
 refine Go.FreshS.wpF_nil (fun w103 hb hF => ?_)
 have N104 := Lib.hid (show DF w103 V.heap.size y3 q102 from (Go.FreshS.made_of (val := (fun x : FV => x.v)) (Φ := fun x w' => DF w' V.heap.size x q102) (fun _ _ => FV.inj) (hF.all 3)))
 clear hF
 have NF := Lib.hid (NF.out.below hb)
 have B1 := Lib.hid (B1.out.below hb B1.out.lt)
 have B2 := Lib.hid (B2.out.below hb B2.out.lt)
 have KG := Lib.hid (KG.out.trans (hb.mono KG.out.size))
 clear hb
 have HD := Lib.hid (show DF (put8 w103 A2 (.bool y3.t.s) (.slice y3.t.a y3.t.n y3.t.c) (.bool y3.l.s) (.slice y3.l.a y3.l.n y3.l.c) (.int .u16 0) (.int .u16 0) (.int .u16 0) (.int .u16 0)) w.heap.size y3 q from by rw [show q = q102 from by rw [Hq102.out, Hq101.out]; grind]; exact put8_df (N104.out.mono HSZ.out) B2.out (by decide) ..)
 have HB := Lib.hid (show Below w.heap.size w (put8 w103 A2 (.bool y3.t.s) (.slice y3.t.a y3.t.n y3.t.c) (.bool y3.l.s) (.slice y3.l.a y3.l.n y3.l.c) (.int .u16 0) (.int .u16 0) (.int .u16 0) (.int .u16 0)) from put8_below KG.out HA2.out ..)
 have cB20 := B2.out.cell (i := 0) rfl
 have cB21 := B2.out.cell (i := 1) rfl
 have cB22 := B2.out.cell (i := 2) rfl
 have cB23 := B2.out.cell (i := 3) rfl
 have cB24 := B2.out.cell (i := 4) rfl
 have cB25 := B2.out.cell (i := 5) rfl
 have cB26 := B2.out.cell (i := 6) rfl
 have cB27 := B2.out.cell (i := 7) rfl
 have cB2f := B2.out.fz
 have cB2l := B2.out.lt
 go_wp2_with fail
 refine bodyPost_ret (results_cell rfl _ _ _ _ _ _ _ rfl (put8_bxs B2.out ..) Tryz.underlying50 rfl (by kernel_rfl)) rfl ⟨y3, rfl, HD.out, HB.out⟩
set_option maxRecDepth 100000 in
set_option maxHeartbeats 4000000 in
theorem scale1_any (t : TV) (q : Rat) (w : World) (af : AF w t.c q) (lf : LF t.c 900000) (bc : Nat) (c : FV) (r : Rat) (hc : Bxs w bc 28 [.bool c.t.s, .slice c.t.a c.t.n c.t.c, .bool c.l.s, .slice c.l.a c.l.n c.l.c]) (ac : AF w c r) (lc : LF c 900000) : Calls Tryz.prog 48 #[TV.v t, .pointer (some ⟨bc, 0, none⟩)] w fun en w' => ∃ y : FV, en = .returned (TV.v ⟨y, t.m⟩) ∧ DF w' w.heap.size y (q * r) ∧ Below w.heap.size w w' := by
 have LQq := Lib.hid (af.len lf)
 have HLNF := Lib.hid lf
 obtain ⟨V, hV⟩ : ∃ V, V = (w.alloc (.cells #[.bool t.c.t.s, .slice t.c.t.a t.c.t.n t.c.t.c, .bool t.c.l.s, .slice t.c.l.a t.c.l.n t.c.l.c, .int .u16 t.m.x, .int .u16 t.m.y, .int .u16 t.m.z, .int .u16 t.m.t] 50)).alloc (.cells #[.bool false, .slice none 0 0, .bool false, .slice none 0 0, .int .u16 0, .int .u16 0, .int .u16 0, .int .u16 0] 50) := ⟨_, rfl⟩
 have hbV : Below w.heap.size w V := by rw [hV]; exact ((Below.refl _ _).alloc (Nat.le_refl _) _).alloc (by go_size) _
 have B1 := Lib.hid (show Bxs V w.heap.size 50 [.bool t.c.t.s, .slice t.c.t.a t.c.t.n t.c.t.c, .bool t.c.l.s, .slice t.c.l.a t.c.l.n t.c.l.c, .int .u16 t.m.x, .int .u16 t.m.y, .int .u16 t.m.z, .int .u16 t.m.t] by rw [hV]; exact (Bxs.new w 50 [.bool t.c.t.s, .slice t.c.t.a t.c.t.n t.c.t.c, .bool t.c.l.s, .slice t.c.l.a t.c.l.n t.c.l.c, .int .u16 t.m.x, .int .u16 t.m.y, .int .u16 t.m.z, .int .u16 t.m.t]).alloc _)
 have B2 := Lib.hid (show Bxs V (w.heap.size + 1) 50 [.bool false, .slice none 0 0, .bool false, .slice none 0 0, .int .u16 0, .int .u16 0, .int .u16 0, .int .u16 0] by
  have h := Bxs.new (w.alloc (.cells #[.bool t.c.t.s, .slice t.c.t.a t.c.t.n t.c.t.c, .bool t.c.l.s, .slice t.c.l.a t.c.l.n t.c.l.c, .int .u16 t.m.x, .int .u16 t.m.y, .int .u16 t.m.z, .int .u16 t.m.t] 50)) 50 [.bool false, .slice none 0 0, .bool false, .slice none 0 0, .int .u16 0, .int .u16 0, .int .u16 0, .int .u16 0]
  rw [World.size_alloc] at h
  rw [hV]; exact h)
 have KG := Lib.hid hbV
 obtain ⟨A1, hA1⟩ : ∃ A, A = w.heap.size := ⟨_, rfl⟩
 obtain ⟨A2, hA2⟩ : ∃ A, A = w.heap.size + 1 := ⟨_, rfl⟩
 have HA2 := Lib.hid (show w.heap.size ≤ A2 by omega)
 have HSZ := Lib.hid (show w.heap.size ≤ V.heap.size from hbV.size)
 have NF := Lib.hid (af.below hbV)
 have LQr := Lib.hid (ac.len lc)
 have HLNC := Lib.hid lc
 have NC := Lib.hid (ac.below hbV)
 have BC := Lib.hid (hc.below hbV hc.lt)
 clear hc ac lc
 clear af lf
 change Calls Tryz.prog 48 #[.agg #[.bool t.c.t.s, .slice t.c.t.a t.c.t.n t.c.t.c, .bool t.c.l.s, .slice t.c.l.a t.c.l.n t.c.l.c, .int .u16 t.m.x, .int .u16 t.m.y, .int .u16 t.m.z, .int .u16 t.m.t], .pointer (some ⟨bc, 0, none⟩)] w _
 go_enter Tryz.func48, Tryz.ntmps48
 go_upto_region 1 with (fail)
 rw [← hV, ← hA2, ← hA1]
 rw [← hA1] at B1
 rw [← hA2] at B2
 clear hV hbV hA1 hA2
 obtain ⟨q101, hq101⟩ : ∃ z : Rat, z = q * r := ⟨_, rfl⟩
 have Hq101 := Lib.hid hq101
 have LQq101 := Lib.hid (show LQ q101 1800002 by rw [hq101]; exact LQ.mul (LQq.out.up (by decide : _ ≤ 900001)) (LQr.out.up (by decide : _ ≤ 900001)) (by decide))
 clear hq101
 go_upto_region 1 with (fail)
 refine Go.FreshS.wp_region_fresh 7 [] (Go.FreshS.spOf [(3, Go.FreshS.Sp.made (fun x : FV => x.v) (fun x w' => DF w' V.heap.size x q101) FV.blk)])
  (fun w' => Below V.heap.size V w') (by kernel_rfl) (by kernel_rfl) (by kernel_rfl)
  (Go.FreshS.spOf_cons (Go.FreshS.Sp.made_keeps _ (fun _ _ _ h _ hk => h.kept hk) (Go.FreshS.notTaken (by kernel_rfl))) (Go.FreshS.spOf_nil)) (fun _ _ h hb => h.trans (hb.mono h.size)) ((Below.refl _ _).drew) ?_
 simp only [List.append_eq, List.cons_append, List.nil_append, List.take_succ_cons, List.take_zero, List.drop_succ_cons, List.drop_zero]
 refine Go.FreshS.wpF_reads rfl rfl rfl ?_ (fun w' hw' => ?_) ?_
 rotate_left
 ·have hb' := hw'.world
  skip
  clear hw'
  go_simp
  try rfl
 conv => arg 10; simp only [Act.put, List.setIfInBounds_toArray, List.set_cons_succ, List.set_cons_zero]
 refine Go.FreshS.wpF_reads rfl rfl rfl ?_ (fun w' hw' => ?_) ?_
 rotate_left
 ·have hb' := hw'.world
  have hs0 := (B1.out.below hb' B1.out.lt).cell (i := 0) rfl
  have hs1 := (B1.out.below hb' B1.out.lt).cell (i := 1) rfl
  have hs2 := (B1.out.below hb' B1.out.lt).cell (i := 2) rfl
  have hs3 := (B1.out.below hb' B1.out.lt).cell (i := 3) rfl
  have hs4 := (B1.out.below hb' B1.out.lt).cell (i := 4) rfl
  have hs5 := (B1.out.below hb' B1.out.lt).cell (i := 5) rfl
  have hs6 := (B1.out.below hb' B1.out.lt).cell (i := 6) rfl
  have hs7 := (B1.out.below hb' B1.out.lt).cell (i := 7) rfl
  have hsf := (B1.out.below hb' B1.out.lt).fz
  have hsl := (B1.out.below hb' B1.out.lt).lt
  clear hw'
  go_simp
  try rfl
 conv => arg 10; simp only [Act.put, List.setIfInBounds_toArray, List.set_cons_succ, List.set_cons_zero]
 refine Go.FreshS.wpF_reads rfl rfl rfl ?_ (fun w' hw' => ?_) ?_
 rotate_left
 ·have hb' := hw'.world
  have hs0 := (BC.out.below hb' BC.out.lt).cell (i := 0) rfl
  have hs1 := (BC.out.below hb' BC.out.lt).cell (i := 1) rfl
  have hs2 := (BC.out.below hb' BC.out.lt).cell (i := 2) rfl
  have hs3 := (BC.out.below hb' BC.out.lt).cell (i := 3) rfl
  have hsf := (BC.out.below hb' BC.out.lt).fz
  have hsl := (BC.out.below hb' BC.out.lt).lt
  clear hw'
  go_simp
  try rfl
 conv => arg 10; simp only [Act.put, List.setIfInBounds_toArray, List.set_cons_succ, List.set_cons_zero]
 refine Go.FreshS.wpF_spec rfl rfl rfl (fun w' hw' => ?_) ?_
 ·have hb' := hw'.world
  refine Go.FreshS.gives_of (Go.FreshS.PM (fun x : FV => x.v) (fun x w' => DF w' V.heap.size x q101) FV.blk w'.heap.size) ?_ (fun _ _ h => h.post (fun _ _ => FV.inj))
  go_simp
  have CT := qmul (NF.out.below hb') (LF.up HLNF.out (by decide : _ ≤ 900000)) (NC.out.below hb') (LF.up HLNC.out (by decide : _ ≤ 900000))
  rw [show q * r = q101 from Hq101.out.symm] at CT
  refine CT.mono ?_
  rintro e w'' ⟨za, rfl, ho, hb⟩
  exact ⟨_, rfl, ⟨za, rfl, ho.mono hb'.size, ho.blks⟩, hb⟩
 rintro _ ⟨y3, rfl⟩
 conv => arg 10; simp only [Act.put, List.setIfInBounds_toArray, List.set_cons_succ, List.set_cons_zero]
 refine Go.FreshS.wpF_reads rfl rfl rfl ?_ (fun w' hw' => ?_) ?_
 rotate_left
 ·have hb' := hw'.world
  skip
  clear hw'
  go_simp
  try rfl
 conv => arg 10; simp only [Act.put, List.setIfInBounds_toArray, List.set_cons_succ, List.set_cons_zero]
 refine Go.FreshS.wpF_reads rfl rfl rfl ?_ (fun w' hw' => ?_) ?_
 rotate_left
 ·have hb' := hw'.world
  have hs0 := (B1.out.below hb' B1.out.lt).cell (i := 0) rfl
  have hs1 := (B1.out.below hb' B1.out.lt).cell (i := 1) rfl
  have hs2 := (B1.out.below hb' B1.out.lt).cell (i := 2) rfl
  have hs3 := (B1.out.below hb' B1.out.lt).cell (i := 3) rfl
  have hs4 := (B1.out.below hb' B1.out.lt).cell (i := 4) rfl
  have hs5 := (B1.out.below hb' B1.out.lt).cell (i := 5) rfl
  have hs6 := (B1.out.below hb' B1.out.lt).cell (i := 6) rfl
  have hs7 := (B1.out.below hb' B1.out.lt).cell (i := 7) rfl
  have hsf := (B1.out.below hb' B1.out.lt).fz
  have hsl := (B1.out.below hb' B1.out.lt).lt
  clear hw'
  go_simp
  try rfl
 conv => arg 10; simp only [Act.put, List.setIfInBounds_toArray, List.set_cons_succ, List.set_cons_zero]
 refine Go.FreshS.wpF_reads rfl rfl rfl ?_ (fun w' hw' => ?_) ?_
 rotate_left
 ·have hb' := hw'.world
  skip
  clear hw'
  go_simp
  try rfl
 conv => arg 10; simp only [Act.put, List.setIfInBounds_toArray, List.set_cons_succ, List.set_cons_zero]
 refine Go.FreshS.wpF_nil (fun w102 hb hF => ?_)
 have N103 := Lib.hid (show DF w102 V.heap.size y3 q101 from (Go.FreshS.made_of (val := (fun x : FV => x.v)) (Φ := fun x w' => DF w' V.heap.size x q101) (fun _ _ => FV.inj) (hF.all 3)))
 clear hF
 have NF := Lib.hid (NF.out.below hb)
 have NC := Lib.hid (NC.out.below hb)
 have B1 := Lib.hid (B1.out.below hb B1.out.lt)
 have B2 := Lib.hid (B2.out.below hb B2.out.lt)
 have BC := Lib.hid (BC.out.below hb BC.out.lt)
 have KG := Lib.hid (KG.out.trans (hb.mono KG.out.size))
 clear hb
 have HD := Lib.hid (show DF (put8 w102 A2 (.bool y3.t.s) (.slice y3.t.a y3.t.n y3.t.c) (.bool y3.l.s) (.slice y3.l.a y3.l.n y3.l.c) (.int .u16 t.m.x) (.int .u16 t.m.y) (.int .u16 t.m.z) (.int .u16 t.m.t)) w.heap.size y3 (q * r) from by rw [show (q * r) = q101 from Hq101.out.symm]; exact put8_df (N103.out.mono HSZ.out) B2.out (by decide) ..)
 have HB := Lib.hid (show Below w.heap.size w (put8 w102 A2 (.bool y3.t.s) (.slice y3.t.a y3.t.n y3.t.c) (.bool y3.l.s) (.slice y3.l.a y3.l.n y3.l.c) (.int .u16 t.m.x) (.int .u16 t.m.y) (.int .u16 t.m.z) (.int .u16 t.m.t)) from put8_below KG.out HA2.out ..)
 have cB20 := B2.out.cell (i := 0) rfl
 have cB21 := B2.out.cell (i := 1) rfl
 have cB22 := B2.out.cell (i := 2) rfl
 have cB23 := B2.out.cell (i := 3) rfl
 have cB24 := B2.out.cell (i := 4) rfl
 have cB25 := B2.out.cell (i := 5) rfl
 have cB26 := B2.out.cell (i := 6) rfl
 have cB27 := B2.out.cell (i := 7) rfl
 have cB2f := B2.out.fz
 have cB2l := B2.out.lt
 go_wp2_with fail
 refine bodyPost_ret (results_cell rfl _ _ _ _ _ _ _ rfl (put8_bxs B2.out ..) Tryz.underlying50 rfl (by kernel_rfl)) rfl ⟨y3, rfl, HD.out, HB.out⟩
set_option maxRecDepth 100000 in
set_option maxHeartbeats 4000000 in
theorem of_num (c : FV) (q : Rat) (w : World) (ac : AF w c q) (lc : LF c 900000) (hq : LQ q 400000) : Calls Tryz.prog 32 #[c.v] w fun e w' => ∃ y : PV, e = .returned y.v ∧ DP w' w.heap.size y (nf [(Mo.one, q)]) ∧ Below w.heap.size w w' := by
 have B1 := Lib.hid (Bxs.new w 28 [.bool c.t.s, .slice c.t.a c.t.n c.t.c, .bool c.l.s, .slice c.l.a c.l.n c.l.c])
 obtain ⟨V, hV⟩ : ∃ V, V = (w.alloc (.cells #[.bool c.t.s, .slice c.t.a c.t.n c.t.c, .bool c.l.s, .slice c.l.a c.l.n c.l.c] 28)).alloc (.cells #[.bool c.t.s, .slice c.t.a c.t.n c.t.c, .bool c.l.s, .slice c.l.a c.l.n c.l.c, .int .u16 0, .int .u16 0, .int .u16 0, .int .u16 0] 50) := ⟨_, rfl⟩
 have hbV : Below w.heap.size w V := by rw [hV]; exact ((Below.refl _ _).alloc (Nat.le_refl _) _).alloc (by go_size) _
 have B2 := Lib.hid (show Bxs V (w.heap.size + 1) 50 [.bool c.t.s, .slice c.t.a c.t.n c.t.c, .bool c.l.s, .slice c.l.a c.l.n c.l.c, .int .u16 0, .int .u16 0, .int .u16 0, .int .u16 0] by
  have h := Bxs.new (w.alloc (.cells #[.bool c.t.s, .slice c.t.a c.t.n c.t.c, .bool c.l.s, .slice c.l.a c.l.n c.l.c] 28)) 50 [.bool c.t.s, .slice c.t.a c.t.n c.t.c, .bool c.l.s, .slice c.l.a c.l.n c.l.c, .int .u16 0, .int .u16 0, .int .u16 0, .int .u16 0]
  rw [World.size_alloc] at h
  rw [hV]; exact h)
 have KG := Lib.hid hbV
 have hrow : RowA V ⟨some ⟨w.heap.size + 1, 0, none⟩, 1, 1⟩ [((⟨c, Mo.one⟩ : TV), q)] := by
  refine ⟨⟨fun _ => ⟨w.heap.size + 1, 0, rfl, fun i t hi j v hj => ?_⟩⟩, rfl, fun e he => ?_, fun e he => ?_⟩
  ·obtain ⟨rfl, rfl⟩ : i = 0 ∧ t = ⟨c, Mo.one⟩ := by
    cases i with
    | zero => exact ⟨rfl, by simpa using hi.symm⟩
    | succ i => simp at hi
   rw [show 0 + 0 * 8 + j = j by omega]
   exact B2.out.cell hj
  ·rw [List.mem_singleton.1 he]; exact ac.below hbV
  ·rw [List.mem_singleton.1 he]; exact lc
 have WT := Lib.hid (with_any 78 #[] ⟨some ⟨w.heap.size + 1, 0, none⟩, 1, 1⟩ [((⟨c, Mo.one⟩ : TV), q)] (fun e => (Mo.one, e.2)) 400000 V hrow (by simp) (by simp) (fun _ _ => by kernel_rfl)
  (fun e he w1 hb ha hl => by simpa using of1_any e.1 e.2 w1 ha hl) (fun e he => one_small) (fun e he => by rw [List.mem_singleton.1 he]; exact hq))
 have HV := Lib.hid hV
 clear hV hbV hrow ac lc hq
 go_enter Tryz.func32, Tryz.ntmps32
 have c10 := B1.out.cell (i := 0) rfl
 have c11 := B1.out.cell (i := 1) rfl
 have c12 := B1.out.cell (i := 2) rfl
 have c13 := B1.out.cell (i := 3) rfl
 go_wp2_with fail
 rw [show (w.alloc (.cells #[.bool c.t.s, .slice c.t.a c.t.n c.t.c, .bool c.l.s, .slice c.l.a c.l.n c.l.c] 28)).alloc (.cells #[.bool c.t.s, .slice c.t.a c.t.n c.t.c, .bool c.l.s, .slice c.l.a c.l.n c.l.c, .int .u16 0, .int .u16 0, .int .u16 0, .int .u16 0] 50) = V from HV.out.symm]
 with_reducible refine WT.out.mono ?_
 rintro e w1 ⟨y, rfl, hy, hb⟩
 have HY := Lib.hid hy
 have HB := Lib.hid hb
 clear hy hb WT
 go_wp2_with fail
 go_ret
 exact ⟨y, rfl, HY.out.mono KG.out.size, KG.out.trans (HB.out.mono KG.out.size)⟩
set_option maxRecDepth 100000 in
set_option maxHeartbeats 4000000 in
theorem scale_any (x : PV) (P : List Tm) (c : FV) (r : Rat) (k n k2 : Nat) (w : World) (hx : AP w x P) (hb : PB P n k 65535) (hxn : x.n ≤ 1000000) (ac : AF w c r) (lc : LF c 900000) (hr : LQ r k2) (hk : k ≤ 900000) (hkk : n * (k + k2 + 1) ≤ 900000) :
  Calls Tryz.prog 14 #[x.v, c.v] w fun e w' => ∃ y : PV, e = .returned y.v ∧ DP w' w.heap.size y (scaleP r P) ∧ Below w.heap.size w w' := by
 have B1 := Lib.hid (Bxs.new w 28 [.bool c.t.s, .slice c.t.a c.t.n c.t.c, .bool c.l.s, .slice c.l.a c.l.n c.l.c])
 obtain ⟨V, hV⟩ : ∃ V, V = w.alloc (.cells #[.bool c.t.s, .slice c.t.a c.t.n c.t.c, .bool c.l.s, .slice c.l.a c.l.n c.l.c] 28) := ⟨_, rfl⟩
 have hbV : Below w.heap.size w V := by rw [hV]; exact (Below.refl _ _).alloc (Nat.le_refl _) _
 have B1 := Lib.hid (show Bxs V w.heap.size 28 [.bool c.t.s, .slice c.t.a c.t.n c.t.c, .bool c.l.s, .slice c.l.a c.l.n c.l.c] by rw [hV]; exact B1.out)
 have OF := Lib.hid (of_any (hx.below hbV) (fun t ht => (hb.lq t ht).up hk) (by omega))
 have HB := Lib.hid hb; have AC := Lib.hid (ac.below hbV); have LC := Lib.hid lc; have HR := Lib.hid hr; have HK := Lib.hid hk; have HKK := Lib.hid hkk
 have KG := Lib.hid hbV
 have HV := Lib.hid hV
 obtain ⟨xa, xn, xc⟩ := x
 have HXN := Lib.hid (show xn ≤ 1000000 from hxn)
 clear hV hbV hx hb ac lc hr hk hkk hxn
 change Calls Tryz.prog 14 #[.slice xa xn xc, .agg #[.bool c.t.s, .slice c.t.a c.t.n c.t.c, .bool c.l.s, .slice c.l.a c.l.n c.l.c]] w _
 go_enter Tryz.func14, Tryz.ntmps14
 go_wp2_with fail
 rw [show w.alloc (.cells #[.bool c.t.s, .slice c.t.a c.t.n c.t.c, .bool c.l.s, .slice c.l.a c.l.n c.l.c] 28) = V from HV.out.symm]
 with_reducible refine OF.out.mono ?_
 rintro e w1 ⟨z, rfl, hz, hzn, hb1⟩
 obtain ⟨L, hR, hK, hLP⟩ := hz.rowA (fun t ht => (HB.out.lq t ht).up HK.out)
 have hl : L.length = P.length := by rw [← hLP, List.length_map]
 have hP := HB.out.len
 have WT := Lib.hid (with_any 48 #[.pointer (some ⟨w.heap.size, 0, none⟩)] z L (fun e => (e.1.m, e.2 * r)) (k + k2) w1 hR (by
   have := hR.len
   have h5 : z.n ≤ xn := hzn
   have := HXN.out
   omega) (Nat.le_trans (Nat.mul_le_mul_right _ (by omega)) HKK.out) (fun _ _ => by kernel_rfl)
  (fun e he w2 hb2 ha hl2 => scale1_any e.1 e.2 w2 ha hl2 w.heap.size c r ((B1.out.below hb1 B1.out.lt).below hb2 (Nat.lt_of_lt_of_le B1.out.lt hb1.size)) ((AC.out.below hb1).below hb2) LC.out)
  (fun e he => hz.small (tm e) (by rw [← hLP]; exact List.mem_map_of_mem he)) (fun e he => ((HB.out.lq (tm e) (by rw [← hLP]; exact List.mem_map_of_mem he)).ls.mul HR.out.ls).lq (Nat.le_refl _) (Nat.le_refl _)))
 have HL := Lib.hid hLP
 have KG := Lib.hid (KG.out.trans (hb1.mono KG.out.size))
 clear hz hzn hb1 hR hK hLP hl hP OF
 go_wp2_with fail
 with_reducible refine WT.out.mono ?_
 rintro e w2 ⟨y, rfl, hy, hb2⟩
 have HY := Lib.hid hy
 have HB2 := Lib.hid hb2
 clear hy hb2 WT
 go_wp2_with fail
 go_ret
 refine ⟨y, rfl, ?_, KG.out.trans (HB2.out.mono KG.out.size)⟩
 have e1 : scaleP r P = nf (L.map fun e => (e.1.m, e.2 * r)) := by
  unfold scaleP scaleL
  rw [← HL.out, List.map_map]
  rfl
 rw [e1]
 exact HY.out.mono KG.out.size
theorem TV.one (t : TV) : ∀ u ∈ t.cells, u.oneCell' = true := by
 intro u hu
 simp only [TV.cells, List.mem_cons, List.mem_nil_iff, or_false] at hu
 rcases hu with rfl | rfl | rfl | rfl | rfl | rfl | rfl | rfl <;> rfl
theorem flat_inv (ts : List TV) (j : Nat) (v : Value) (h : (ts.flatMap TV.cells)[j]? = some v) : ∃ i k t, j = i * 8 + k ∧ ts[i]? = some t ∧ t.cells[k]? = some v := by
 have hj := (List.getElem?_eq_some_iff.1 h).1
 rw [flat_len] at hj
 have hi : j / 8 < ts.length := by omega
 refine ⟨j / 8, j % 8, ts[j / 8], by omega, List.getElem?_eq_getElem hi, ?_⟩
 rw [← flat_get ts (j / 8) (j % 8) _ (List.getElem?_eq_getElem hi) (Nat.mod_lt _ (by omega)), show j / 8 * 8 + j % 8 = j by omega]
 exact h
theorem app_run (w : World) (lo : Nat) (v : Value) (ts us : List TV) (a : Option Addr) (n c ty : Nat) (h : OT w lo v ts) (hr : RT w a us) (hl : us.length = n) (hs : ts.length + us.length ≤ 4000000) (hlo : lo ≤ w.heap.size) :
  ∃ v' w', (Builtin.append_ #[23, 23] ty #[v, .slice a n c]).run Tryz.prog w = .ok v' w' ∧ OT w' lo v' (ts ++ us) ∧ w.grownBy w' v.ownBlock := by
 obtain ⟨i0, hi, hz0, hz1, hz2⟩ := info_parts info8
 cases a with
 | none =>
  have hn : us = [] := by
   by_cases h0 : us = []
   ·exact h0
   ·obtain ⟨b, off, h1, -⟩ := hr.ex h0
    cases h1
  subst hn
  obtain rfl : 0 = n := hl
  refine ⟨v, w, ?_, by rw [List.append_nil]; exact h, rfl, rfl, rfl, Nat.le_refl _, fun _ _ _ => rfl⟩
  rcases h.2 with ⟨rfl, h0⟩ | ⟨g, cap, cur, rfl, _, _, hnc, _⟩
  ·simp [Builtin.append_, run_underlying (P := Tryz.prog) Tryz.underlying23, sizeOf, typeInfo, hi, Builtin.lenOf, Builtin.firstCells]
  ·simp [Builtin.append_, run_underlying (P := Tryz.prog) Tryz.underlying23, sizeOf, typeInfo, hi, Builtin.lenOf, Builtin.firstCells, hnc, storeCells]
 | some ad =>
  have hcell : ∀ j u, (us.flatMap TV.cells)[j]? = some u → w.cell? (ad.add j) = some u := fun j u hj => by
   obtain ⟨i, k, t, rfl, h2, h3⟩ := flat_inv us j u hj
   obtain ⟨b, off, h4, h5⟩ := hr.ex (fun h0 => by rw [h0] at h2; cases h2)
   obtain rfl := Option.some.inj h4
   have h6 := h5 i t h2 k u h3
   rw [Nat.add_assoc] at h6
   rw [show (⟨b, off, none⟩ : Addr).add (i * 8 + k) = ⟨b, off + (i * 8 + k), none⟩ by simp [Addr.add]]
   exact h6
  obtain ⟨v', w', h1, h2, h3, -⟩ := run_append_own (P := Tryz.prog) w lo 23 ty 50 i0 _ 8 72 Tryz.underlying23 hi hz0 hz1 hz2 rfl (by decide) v ts.length (ts.flatMap TV.cells) h ad n c (us.flatMap TV.cells)
   (by rw [flat_len, hl]) hcell (fun u hu => by obtain ⟨t, _, ht⟩ := List.mem_flatMap.1 hu; exact TV.one t u ht) (by rw [← hl]; unfold maxLen; omega) (by rw [← hl]; omega) hlo
  refine ⟨v', w', h1, ?_, h3⟩
  show w'.ownsRow _ _ _ _ _ _
  rw [List.flatMap_append, List.length_append, hl]
  exact h2
theorem growS_any (n : Nat) (w : World) (hn : n ≤ 4000000) : Calls Tryz.prog 108 #[.slice none 0 0, .int .i64 n] w fun e w' => ∃ v, e = .returned v ∧ OT w' w.heap.size v [] ∧ Below w.heap.size w w' := by
 obtain ⟨i0, hi, hz0, hz1, hz2⟩ := info_parts info8
 by_cases h0 : n = 0
 ·subst h0
  refine (Any8.slices_Grow_room (P := Tryz.prog) (ρ := Tryz.growT_ren) Tryz.growT none 0 0 0 w (Nat.le_refl _) (by decide) (by decide) (by decide)).mono ?_
  rintro e w' ⟨rfl, rfl⟩
  exact ⟨_, rfl, World.ownsRow_nil _ _ _ _, Below.refl _ _⟩
 ·refine (Any8.slices_Grow_grow (P := Tryz.prog) (ρ := Tryz.growT_ren) Tryz.growT i0 _ hi hz0 (by rw [hz1]; decide) none 0 0 n [] w (Nat.le_refl _) (by omega) (by rw [hz2]; omega) (by omega) (by rw [Nat.zero_mul]; rfl) (fun _ => rfl) (fun a h => by cases h)).mono ?_
  rintro e w' ⟨rfl, rfl⟩
  obtain ⟨G, hG⟩ : ∃ G, G = grownCap w (0 + n) 0 50 := ⟨_, rfl⟩
  have h1 : 0 + n ≤ G := by rw [hG]; exact grownCap_ge _ _ _ _
  have h2 : G ≤ maxLen := by rw [hG]; exact grownCap_le_maxLen _ _ _ _ (by unfold maxLen; omega)
  refine ⟨_, rfl, ?_, ((Below.refl _ _).drew).alloc (Nat.le_refl _) _⟩
  change World.ownsRow (w.drew.alloc (.cells _ 50)) w.drew.heap.size 50 8 (.slice (some ⟨w.drew.heap.size, 0, none⟩) 0 (grownCap w (0 + n) 0 50)) 0 []
  rw [← hG]
  refine World.ownsRow_made w.drew _ G (Nat.le_refl _) h2 ?_
  change (_ ++ Builtin.zeroCells _ (grownCap w (0 + n) 0 50 - (0 + n))).size = _
  rw [← hG]
  simp only [Array.size_append, size_zeroCells, Value.cells]
  simp
  omega
set_option maxRecDepth 100000 in
set_option maxHeartbeats 16000000 in
theorem conc_any (g : Nat) (Xs : List (PV × List TV)) (w : World) (hc : ∀ i e, Xs[i]? = some e → w.cell? ⟨g, i, none⟩ = some e.1.v) (hr : ∀ e ∈ Xs, RT w e.1.a e.2 ∧ e.2.length = e.1.n)
  (hs : (Xs.flatMap Prod.snd).length ≤ 4000000) (hn : Xs.length ≤ 1000) :
  Calls Tryz.prog 77 #[.slice (some ⟨g, 0, none⟩) Xs.length Xs.length] w fun e w' => ∃ v, e = .returned v ∧ OT w' w.heap.size v (Xs.flatMap Prod.snd) ∧ Below w.heap.size w w' := by
 obtain ⟨m, hm⟩ : ∃ m, m = Xs.length := ⟨_, rfl⟩
 rw [← hm] at hn ⊢
 have HC := Lib.hid hc; have HR := Lib.hid hr; have HS := Lib.hid hs; have HN := Lib.hid hn; have HM := Lib.hid hm
 have HT := Lib.hid (show ∀ j, ((Xs.take j).flatMap Prod.snd).length ≤ 4000000 from fun j => by
  refine Nat.le_trans ?_ hs
  have h := congrArg (fun l => (l.flatMap Prod.snd).length) (List.take_append_drop j Xs)
  simp only [List.flatMap_append, List.length_append] at h
  omega)
 have HW := Lib.hid (show ∀ (i : Nat) e, Xs[i]? = some e → (Xs.take (i + 1)).flatMap Prod.snd = (Xs.take i).flatMap Prod.snd ++ e.2 from fun i e he => by
  rw [List.take_add_one, he]; simp)
 clear hc hr hs hn hm
 go_enter Tryz.func77, Tryz.ntmps77
 go_wp2_with fail
 go_loopw [3, 11] (fun s i wr => ∃ j : Nat, j ≤ m ∧ i = .int .i64 j ∧ s = .int .i64 (((Xs.take j).flatMap Prod.snd).length : Nat) ∧ Below w.heap.size w wr) (fun _ i _ => m - (intOf i).toNat)
 case atStart =>
  exact ⟨0, Nat.zero_le _, rfl, rfl, Below.refl _ _⟩
 case round =>
  obtain ⟨j, hj, rfl, rfl, hb0⟩ := hrel
  have HJ := Lib.hid hj; have KG := Lib.hid hb0
  clear hj hb0
  obtain ⟨z, hz⟩ : ∃ z, z = ((Xs.take j).flatMap Prod.snd).length := ⟨_, rfl⟩
  rw [← hz]
  have HZ := Lib.hid hz
  have HZ4 := Lib.hid (show z ≤ 4000000 by rw [hz]; exact HT.out j)
  clear hz
  by_cases hjn : j < m
  ·have HJN := Lib.hid hjn
   obtain ⟨⟨⟨xa, xn, xc⟩, ts⟩, he⟩ : ∃ e, Xs[j]? = some e := ⟨_, List.getElem?_eq_getElem (by rw [← HM.out]; exact hjn)⟩
   have HE := Lib.hid he
   have c0 := (KG.out.cell (p := ⟨g, j, none⟩) (block_lt_of_cell (HC.out j _ he))).trans (HC.out j _ he)
   have hxn : ts.length = xn := (HR.out _ (List.mem_of_getElem? he)).2
   have h4 := HT.out (j + 1)
   rw [HW.out j _ he, List.length_append] at h4
   have HX4 := Lib.hid (show z + xn ≤ 4000000 by rw [HZ.out]; change _ + ts.length ≤ _ at h4; omega)
   have ek : IntKind.i64.wrap ((j : Int) + 1) = (j : Int) + 1 := IntWalk.i64_in _ (by have := HJN.out; have := HN.out; omega)
   have ez : IntKind.i64.wrap ((z : Int) + (xn : Int)) = (z : Int) + (xn : Int) := IntWalk.i64_in _ (by have := HX4.out; omega)
   have e0 : ¬ ((z : Int) + (xn : Int) < 0) := by omega
   have HXN := Lib.hid hxn
   clear he hxn h4
   go_wp2_with fail
   go_roundw
   case rel =>
    refine ⟨j + 1, by have := HJN.out; omega, rfl, ?_, KG.out⟩
    rw [HW.out j _ HE.out, List.length_append, ← HZ.out]
    show Value.int IntKind.i64 ((z : Int) + (xn : Int)) = .int .i64 ((z + ts.length : Nat) : Int)
    rw [HXN.out]
    rfl
   case measure => simp [intOf]; have := HJN.out; omega
  ·have HJE := Lib.hid (show j = m by have := HJ.out; omega)
   have hge : ¬ ((j : Int) < (m : Int)) := by omega
   have GR := Lib.hid (growS_any z wr HZ4.out)
   clear hjn
   go_wp2_with fail
   with_reducible refine GR.out.mono ?_
   rintro e w1 ⟨v, rfl, ho, hb⟩
   have HO := Lib.hid (OT.mono ho KG.out.size)
   have KG := Lib.hid (KG.out.trans (hb.mono KG.out.size))
   clear ho hb GR hge
   go_wp2_with fail
   go_loopw [6, 27] (fun s i wr => ∃ j : Nat, j ≤ m ∧ i = .int .i64 j ∧ OT wr w.heap.size s ((Xs.take j).flatMap Prod.snd) ∧ Below w.heap.size w wr) (fun _ i _ => m - (intOf i).toNat)
   case atStart =>
    exact ⟨0, Nat.zero_le _, rfl, HO.out, KG.out⟩
   case round =>
    obtain ⟨i, hi, rfl, ho, hb0⟩ := hrel
    have HI := Lib.hid hi; have HO := Lib.hid ho; have KG := Lib.hid hb0
    clear hi ho hb0
    by_cases hin : i < m
    ·have HIN := Lib.hid hin
     obtain ⟨⟨⟨xa, xn, xc⟩, ts⟩, he⟩ : ∃ e, Xs[i]? = some e := ⟨_, List.getElem?_eq_getElem (by rw [← HM.out]; exact hin)⟩
     have HE := Lib.hid he
     have c0 := (KG.out.cell (p := ⟨g, i, none⟩) (block_lt_of_cell (HC.out i _ he))).trans (HC.out i _ he)
     have hxn := HR.out _ (List.mem_of_getElem? he)
     have h4 := HT.out (i + 1)
     rw [HW.out i _ he, List.length_append] at h4
     obtain ⟨s', w2, hrun, ho, hgw⟩ := app_run _ w.heap.size _ ((Xs.take i).flatMap Prod.snd) ts xa xn xc 23 HO.out (hxn.1.below KG.out) hxn.2 h4 KG.out.size
     have HO2 := Lib.hid ho
     have KG2 := Lib.hid (KG.out.grown hgw KG.out.size (fun g hg => (World.ownsRow.lt HO.out g hg).1))
     have ek : IntKind.i64.wrap ((i : Int) + 1) = (i : Int) + 1 := IntWalk.i64_in _ (by have := HIN.out; have := HN.out; omega)
     clear he hxn h4 ho hgw
     go_wp2_with (first | (at_builtin; refine wpList_append_run rfl _ _ 23 rfl _ _ rfl rfl _ _ hrun ?_))
     go_roundw
     case rel =>
      refine ⟨i + 1, by have := HIN.out; omega, rfl, ?_, KG2.out⟩
      rw [HW.out i _ HE.out]
      exact HO2.out
     case measure => simp [intOf]; have := HIN.out; omega
    ·have HIE := Lib.hid (show i = m by have := HI.out; omega)
     have hge : ¬ ((i : Int) < (m : Int)) := by omega
     clear hin
     go_wp2_with fail
     go_ret
     refine ⟨_, rfl, ?_, KG.out⟩
     have h := HO.out
     rw [HIE.out, HM.out, List.take_length] at h
     exact h
theorem of_at {w V : World} {x : PV} {P : List Tm} (h : AP w x P) (hV : Below w.heap.size w V) (hq : ∀ t ∈ P, LQ t.2 900000) (hn : x.n ≤ 1000000000) : Calls Tryz.prog 47 #[x.v] V fun e w' => ∃ y : PV, e = .returned y.v ∧ KP w y P ∧ y.n ≤ x.n ∧ Below V.heap.size V w' := by
 rcases h with h | ⟨h, rfl⟩
 ·exact (of_k (h.below hV) hq hn).mono fun e w' ⟨h1, h2⟩ => ⟨x, h1, h, Nat.le_refl _, h2⟩
 ·exact (of_b (h.below hV) hn).mono fun e w' ⟨h1, h2⟩ => ⟨⟨none, 0, 0⟩, h1, KP.nil _ _ _, Nat.zero_le _, h2⟩
theorem AP.canon {w : World} {x : PV} {P : List Tm} (h : AP w x P) : Canon P := h.elim (fun h => h.canon) (fun h => by rw [h.2]; exact Canon.nil)
theorem pair_get {α : Type} {x y : α} {P : α → Prop} (h1 : P x) (h2 : P y) : ∀ e ∈ [x, y], P e := fun e he => by
 rcases List.mem_cons.1 he with rfl | he
 ·exact h1
 ·rw [List.mem_singleton.1 he]; exact h2
set_option maxRecDepth 100000 in
set_option maxHeartbeats 16000000 in
theorem add_any (x y : PV) (P Q : List Tm) (k : Nat) (w : World) (hx : AP w x P) (hy : AP w y Q) (hxn : x.n ≤ 1000000) (hyn : y.n ≤ 1000000) (hp : ∀ t ∈ P, LQ t.2 k) (hq : ∀ t ∈ Q, LQ t.2 k)
  (hk : 2 * k + 2 ≤ 900000) (hn : P.length + Q.length ≤ 1000000) :
  Calls Tryz.prog 29 #[x.v, y.v] w fun e w' => ∃ z : PV, e = .returned z.v ∧ DP w' w.heap.size z (addP P Q) ∧ Below w.heap.size w w' := by
 have HX := Lib.hid hx; have HY := Lib.hid hy; have HXN := Lib.hid hxn; have HYN := Lib.hid hyn; have HK := Lib.hid hk
 have hall : ∀ t ∈ P ++ Q, LQ t.2 k := fun t ht => (List.mem_append.1 ht).elim (hp t) (hq t)
 have HALL := Lib.hid hall; have HN := Lib.hid hn
 have HCF := Lib.hid (show ∀ j m, cf ((P ++ Q).take j) m = 0 ∨ LQ (cf ((P ++ Q).take j) m) (2 * k + 2) from fun j m => add_cf hx.canon hy.canon hp hq j m)
 have HPQ := Lib.hid (show ∀ t ∈ P, LQ t.2 900000 from fun t ht => (hp t ht).up (by omega))
 have HQQ := Lib.hid (show ∀ t ∈ Q, LQ t.2 900000 from fun t ht => (hq t ht).up (by omega))
 have hmm := fun (t : TypeId) (w : World) => run_makeMap (P := Tryz.prog) t w
 obtain ⟨xa, xn, xc⟩ := x
 obtain ⟨ya, yn, yc⟩ := y
 change Calls Tryz.prog 29 #[.slice xa xn xc, .slice ya yn yc] w _
 clear hx hy hxn hyn hp hq hk hn hall
 go_enter Tryz.func29, Tryz.ntmps29
 go_upto_region 2 with (fail)
 clear hmm
 obtain ⟨V0, hV⟩ : ∃ V, V = w.alloc (.map #[] 0) := ⟨_, rfl⟩
 have hbV : Below w.heap.size w V0 := by rw [hV]; exact (Below.refl _ _).alloc (Nat.le_refl _) _
 have HM0 := Lib.hid (show MK V0 w.heap.size w.heap.size [] by rw [hV]; exact ⟨heap_alloc_new w _, Nat.le_refl _, fun e he => (by cases he), List.Pairwise.nil, List.nodup_nil, fun e he => (by cases he)⟩)
 rw [← hV]
 have KG := Lib.hid hbV
 clear hV hbV
 have O1 := Lib.hid (of_at HX.out KG.out HPQ.out (by have h : xn ≤ 1000000 := HXN.out; show xn ≤ _; omega))
 go_wp2_with fail
 with_reducible refine O1.out.mono ?_
 rintro e w1 ⟨⟨pa, pn, pc⟩, he, hp, hpn, hb⟩
 obtain rfl : e = .returned (.slice pa pn pc) := he
 have HP := Lib.hid hp; have HPN := Lib.hid hpn
 have HM1 := Lib.hid (HM0.out.below hb)
 have KG := Lib.hid (KG.out.trans (hb.mono KG.out.size))
 clear hp hpn hb O1 HM0
 have O2 := Lib.hid (of_at HY.out KG.out HQQ.out (by have h : yn ≤ 1000000 := HYN.out; show yn ≤ _; omega))
 go_wp2_with fail
 with_reducible refine O2.out.mono ?_
 rintro e w2 ⟨⟨qa, qn, qc⟩, he, hq, hqn, hb⟩
 obtain rfl : e = .returned (.slice qa qn qc) := he
 have HQ := Lib.hid hq; have HQN := Lib.hid hqn
 have HM2 := Lib.hid (HM1.out.below hb)
 have KG := Lib.hid (KG.out.trans (hb.mono KG.out.size))
 clear hq hqn hb O2 HM1
 obtain ⟨L1, g1, g2, g3, g4⟩ := HP.out.ex
 obtain ⟨L2, k1, k2, k3, k4⟩ := HQ.out.ex
 have BB := Lib.hid (Bxs.new w2 23 [.slice pa pn pc, .slice qa qn qc])
 have hb3 : Below w2.heap.size w2 (w2.alloc (.cells #[.slice pa pn pc, .slice qa qn qc] 23)) := (Below.refl _ _).alloc (Nat.le_refl _) _
 have HM3 := Lib.hid (HM2.out.below hb3)
 have KG := Lib.hid (KG.out.trans (hb3.mono KG.out.size))
 have HLL := Lib.hid (show (L1 ++ L2).map tm = P ++ Q by rw [List.map_append, g4, k4])
 have HKF := Lib.hid (show ∀ e ∈ L1 ++ L2, KF w e.1.c e.2 from fun e he => (List.mem_append.1 he).elim (g3 e) (k3 e))
 have HLN := Lib.hid (show L1.length + L2.length ≤ 2000000 by have h1 := HPN.out; have h2 := HXN.out; have h3 := HQN.out; have h4 := HYN.out; change pn ≤ xn at h1; change xn ≤ _ at h2; change qn ≤ yn at h3; change yn ≤ _ at h4; change L1.length = pn at g2; change L2.length = qn at k2; omega)
 have CC := Lib.hid (show Calls Tryz.prog 77 #[.slice (some ⟨w2.heap.size, 0, none⟩) 2 2] (w2.alloc (.cells #[.slice pa pn pc, .slice qa qn qc] 23)) _ from conc_any w2.heap.size [(⟨pa, pn, pc⟩, L1.map Prod.fst), (⟨qa, qn, qc⟩, L2.map Prod.fst)] (w2.alloc (.cells #[.slice pa pn pc, .slice qa qn qc] 23)) (fun i e he => by
   match i, he with
   | 0, he => obtain rfl := Option.some.inj he; exact BB.out.cell (i := 0) rfl
   | 1, he => obtain rfl := Option.some.inj he; exact BB.out.cell (i := 1) rfl)
  (pair_get ⟨g1.below KG.out, by rw [List.length_map]; exact g2⟩ ⟨k1.below KG.out, by rw [List.length_map]; exact k2⟩) (by simp; have := HLN.out; omega) (by simp))
 have HF := Lib.hid (show (([(⟨pa, pn, pc⟩, L1.map Prod.fst), (⟨qa, qn, qc⟩, L2.map Prod.fst)] : List (PV × List TV)).flatMap Prod.snd) = (L1 ++ L2).map Prod.fst by simp)
 have HLEN := Lib.hid (show (L1 ++ L2).length ≤ 2000000 by rw [List.length_append]; exact HLN.out)
 obtain ⟨L, hL⟩ : ∃ L, L = L1 ++ L2 := ⟨_, rfl⟩
 rw [← hL] at HLL HKF HF HLEN
 clear g1 g2 g3 g4 k1 k2 k3 k4 hL hb3 HM2
 go_wp2_with fail
 with_reducible refine CC.out.mono ?_
 rintro e w3 ⟨v, rfl, ho, hb⟩
 rw [HF.out] at ho
 have HO3 := Lib.hid (OT.mono ho KG.out.size)
 have HM4 := Lib.hid (HM3.out.below hb)
 have KG := Lib.hid (KG.out.trans (hb.mono KG.out.size))
 clear ho hb CC HM3 BB
 obtain ⟨ra, rc, rfl, -, -⟩ := OT.slice HO3.out
 obtain ⟨rn, hrn⟩ : ∃ n, n = (L.map Prod.fst).length := ⟨_, rfl⟩
 rw [← hrn] at HO3 ⊢
 have HRN := Lib.hid (show L.length = rn by rw [hrn, List.length_map])
 clear hrn
 go_wp2_with fail
 go_loopw [16] (fun i wr => ∃ (j : Nat) (M : List TE), j ≤ rn ∧ i = .int .i64 j ∧ MK wr w.heap.size w.heap.size M ∧ (∀ f, ev (M.map tm) f = ev ((L.take j).map tm) f) ∧ M.length ≤ j ∧ OT wr w.heap.size (.slice ra rn rc) (L.map Prod.fst) ∧ Below w.heap.size w wr) (fun i _ => rn - (intOf i).toNat)
 case atStart =>
  exact ⟨0, [], Nat.zero_le _, rfl, HM4.out, fun f => (by rw [List.take_zero]), Nat.le_refl _, HO3.out, KG.out⟩
 case round =>
  obtain ⟨j, M, hj, rfl, hM, hev, hml, ho, hb0⟩ := hrel
  have HJ := Lib.hid hj; have HM := Lib.hid hM; have HEV := Lib.hid hev; have HML := Lib.hid hml; have HO := Lib.hid ho; have KG := Lib.hid hb0
  clear hj hM hev hml ho hb0
  have HLP := Lib.hid (show L.length = P.length + Q.length by have h := congrArg List.length HLL.out; rw [List.length_map, List.length_append] at h; exact h)
  have HLK := Lib.hid (show ∀ e ∈ M, LQ e.2 900000 from fun e he => by
   refine like_lq (l := M.map tm) (L := (L.take j).map tm) ?_ HEV.out (fun m => ?_) HK.out (tm e) (List.mem_map_of_mem he)
   ·have h := HM.out.keys
    rw [List.map_map]
    exact h
   ·rw [List.map_take, HLL.out]; exact HCF.out j m)
  by_cases hjn : j < rn
  ·have HJN := Lib.hid hjn
   have hjl : j < L.length := by rw [HRN.out]; exact hjn
   obtain ⟨ra', rc', e1, -, hrt⟩ := OT.slice HO.out
   obtain ⟨rfl, -, rfl⟩ : ra = ra' ∧ rn = _ ∧ rc = rc' := by simpa only [Value.slice.injEq] using e1
   obtain ⟨pb, po, rfl, hpb, hcs⟩ := hrt.off (i := j) (by rw [List.length_map]; exact hjl)
   obtain ⟨e, he⟩ : ∃ e, L[j]? = some e := ⟨_, List.getElem?_eq_getElem hjl⟩
   obtain ⟨t, q⟩ := e
   obtain ⟨c0, c1, c2, c3, c4, c5, c6, c7⟩ := RT.eight hcs (i := j) (t := t) (by rw [List.getElem?_map, he]; rfl)
   have HE := Lib.hid he
   have hmem := List.mem_of_getElem? he
   clear hcs he hpb hjl hrt e1
   go_upto_region 5 with (fail)
   obtain ⟨V, hV⟩ : ∃ V, V = wr.alloc (.cells #[.bool t.c.t.s, .slice t.c.t.a t.c.t.n t.c.t.c, .bool t.c.l.s, .slice t.c.l.a t.c.l.n t.c.l.c, .int .u16 t.m.x, .int .u16 t.m.y, .int .u16 t.m.z, .int .u16 t.m.t] 50) := ⟨_, rfl⟩
   have hbV : Below wr.heap.size wr V := by rw [hV]; exact (Below.refl _ _).alloc (Nat.le_refl _) _
   have B7 := Lib.hid (show Bxs V wr.heap.size 50 [.bool t.c.t.s, .slice t.c.t.a t.c.t.n t.c.t.c, .bool t.c.l.s, .slice t.c.l.a t.c.l.n t.c.l.c, .int .u16 t.m.x, .int .u16 t.m.y, .int .u16 t.m.z, .int .u16 t.m.t] by rw [hV]; exact Bxs.new wr 50 [.bool t.c.t.s, .slice t.c.t.a t.c.t.n t.c.t.c, .bool t.c.l.s, .slice t.c.l.a t.c.l.n t.c.l.c, .int .u16 t.m.x, .int .u16 t.m.y, .int .u16 t.m.z, .int .u16 t.m.t])
   obtain ⟨A7, hA7⟩ : ∃ A, A = wr.heap.size := ⟨_, rfl⟩
   rw [← hV, ← hA7]
   rw [← hA7] at B7
   have HM := Lib.hid (HM.out.below hbV)
   have HO := Lib.hid (OT.below HO.out hbV)
   have KG := Lib.hid (KG.out.trans (hbV.mono KG.out.size))
   have NF := Lib.hid (show KF V t.c q from (HKF.out _ hmem).below KG.out)
   have hpq : (t.m, q) ∈ P ++ Q := by rw [← HLL.out]; exact List.mem_map_of_mem hmem
   have HQ1 := Lib.hid (show LQ q k from HALL.out _ hpq)
   have LQq := Lib.hid (show LQ q 900000 from HQ1.out.up (by have := HK.out; omega))
   have HS1 := Lib.hid (show t.m.Small from (List.mem_append.1 hpq).elim (HP.out.small _) (HQ.out.small _))
   have HSZ := Lib.hid (show w.heap.size ≤ V.heap.size from KG.out.size)
   have ek : IntKind.i64.wrap ((j : Int) + 1) = (j : Int) + 1 := IntWalk.i64_in _ (by have := HJN.out; have := HRN.out; have := HLEN.out; omega)
   clear hV hbV hA7 hmem hpq c0 c1 c2 c3 c4 c5 c6 c7 hjn
   have HMV := Lib.hid (show ∀ e ∈ M, ∀ b, FV.blk e.1.c b → b < V.heap.size from fun e he b hb => ((HM.out.df e he).blks b hb).2)
   obtain ⟨q101, hq101⟩ : ∃ z : Rat, z = ((1 : Int) : Rat) := ⟨_, rfl⟩
   have Hq101 := Lib.hid hq101
   have LQq101 := Lib.hid (show LQ q101 3 by rw [hq101]; exact LQ.int (by decide) (by decide))
   clear hq101
   obtain ⟨q102, hq102⟩ : ∃ z : Rat, z = q * q101 := ⟨_, rfl⟩
   have Hq102 := Lib.hid hq102
   have LQq102 := Lib.hid (show LQ q102 1800000 by rw [hq102]; exact LQ.mul (LQq.out.up (by decide : _ ≤ 900000)) (LQq101.out.up (by decide : _ ≤ 900000)) (by decide))
   clear hq102
   go_upto_region 5 with (fail)
   refine Go.FreshS.wp_region_fresh 7 [] (Go.FreshS.spOf [(3, Go.FreshS.Sp.made (fun x : FV => x.v) (fun x w' => DF w' V.heap.size x q101) FV.blk), (4, Go.FreshS.Sp.made (fun x : FV => x.v) (fun x w' => DF w' V.heap.size x q102) FV.blk)])
    (fun w' => Below V.heap.size V w') (by kernel_rfl) (by kernel_rfl) (by kernel_rfl)
    (Go.FreshS.spOf_cons (Go.FreshS.Sp.made_keeps _ (fun _ _ _ h _ hk => h.kept hk) (Go.FreshS.notTaken (by kernel_rfl))) (Go.FreshS.spOf_cons (Go.FreshS.Sp.made_keeps _ (fun _ _ _ h _ hk => h.kept hk) (Go.FreshS.notTaken (by kernel_rfl))) (Go.FreshS.spOf_nil))) (fun _ _ h hb => h.trans (hb.mono h.size)) ((Below.refl _ _).drew) ?_
   simp only [List.append_eq, List.cons_append, List.nil_append, List.take_succ_cons, List.take_zero, List.drop_succ_cons, List.drop_zero]
   refine Go.FreshS.wpF_reads rfl rfl rfl ?_ (fun w' hw' => ?_) ?_
   rotate_left
   ·have hb' := hw'.world
    skip
    clear hw'
    go_simp
    try rfl
   conv => arg 10; simp only [Act.put, List.setIfInBounds_toArray, List.set_cons_succ, List.set_cons_zero]
   refine Go.FreshS.wpF_reads rfl rfl rfl ?_ (fun w' hw' => ?_) ?_
   rotate_left
   ·have hb' := hw'.world
    skip
    clear hw'
    go_simp
    try rfl
   conv => arg 10; simp only [Act.put, List.setIfInBounds_toArray, List.set_cons_succ, List.set_cons_zero]
   refine Go.FreshS.wpF_reads rfl rfl rfl ?_ (fun w' hw' => ?_) ?_
   rotate_left
   ·have hb' := hw'.world
    have hs0 := (B7.out.below hb' B7.out.lt).cell (i := 0) rfl
    have hs1 := (B7.out.below hb' B7.out.lt).cell (i := 1) rfl
    have hs2 := (B7.out.below hb' B7.out.lt).cell (i := 2) rfl
    have hs3 := (B7.out.below hb' B7.out.lt).cell (i := 3) rfl
    have hs4 := (B7.out.below hb' B7.out.lt).cell (i := 4) rfl
    have hs5 := (B7.out.below hb' B7.out.lt).cell (i := 5) rfl
    have hs6 := (B7.out.below hb' B7.out.lt).cell (i := 6) rfl
    have hs7 := (B7.out.below hb' B7.out.lt).cell (i := 7) rfl
    have hsf := (B7.out.below hb' B7.out.lt).fz
    have hsl := (B7.out.below hb' B7.out.lt).lt
    clear hw'
    go_simp
    try rfl
   conv => arg 10; simp only [Act.put, List.setIfInBounds_toArray, List.set_cons_succ, List.set_cons_zero]
   refine Go.FreshS.wpF_spec rfl rfl rfl (fun w' hw' => ?_) ?_
   ·have hb' := hw'.world
    refine Go.FreshS.gives_of (Go.FreshS.PM (fun x : FV => x.v) (fun x w' => DF w' V.heap.size x q101) FV.blk w'.heap.size) ?_ (fun _ _ h => h.post (fun _ _ => FV.inj))
    go_simp
    have CT := qof 1 w' (by decide) (by decide)
    rw [show ((1 : Int) : Rat) = q101 from Hq101.out.symm] at CT
    refine CT.mono ?_
    rintro e w'' ⟨za, rfl, ho, hb⟩
    exact ⟨_, rfl, ⟨za, rfl, ho.mono hb'.size, ho.blks⟩, hb⟩
   rintro _ ⟨y3, rfl⟩
   conv => arg 10; simp only [Act.put, List.setIfInBounds_toArray, List.set_cons_succ, List.set_cons_zero]
   refine Go.FreshS.wpF_spec rfl rfl rfl (fun w' hw' => ?_) ?_
   ·have hb' := hw'.world
    refine Go.FreshS.gives_of (Go.FreshS.PM (fun x : FV => x.v) (fun x w' => DF w' V.heap.size x q102) FV.blk w'.heap.size) ?_ (fun _ _ h => h.post (fun _ _ => FV.inj))
    go_simp
    have f3 := Go.FreshS.made_of (val := (fun x : FV => x.v)) (Φ := fun x w' => DF w' V.heap.size x q101) (fun _ _ => FV.inj) (hw'.fact 3 (by kernel_rfl))
    have CT := qmul ((NF.out.below hb')).any (((NF.out.below hb')).len LQq.out (by decide : _ ≤ 900000)) (f3).k.any (((f3).k).len LQq101.out (by decide : _ ≤ 900000))
    rw [show q * q101 = q102 from Hq102.out.symm] at CT
    refine CT.mono ?_
    rintro e w'' ⟨za, rfl, ho, hb⟩
    exact ⟨_, rfl, ⟨za, rfl, ho.mono hb'.size, ho.blks⟩, hb⟩
   rintro _ ⟨y4, rfl⟩
   conv => arg 10; simp only [Act.put, List.setIfInBounds_toArray, List.set_cons_succ, List.set_cons_zero]
   refine Go.FreshS.wpF_reads rfl rfl rfl ?_ (fun w' hw' => ?_) ?_
   rotate_left
   ·have hb' := hw'.world
    skip
    clear hw'
    go_simp
    try rfl
   conv => arg 10; simp only [Act.put, List.setIfInBounds_toArray, List.set_cons_succ, List.set_cons_zero]
   refine Go.FreshS.wpF_reads rfl rfl rfl ?_ (fun w' hw' => ?_) ?_
   rotate_left
   ·have hb' := hw'.world
    have hs0 := (B7.out.below hb' B7.out.lt).cell (i := 0) rfl
    have hs1 := (B7.out.below hb' B7.out.lt).cell (i := 1) rfl
    have hs2 := (B7.out.below hb' B7.out.lt).cell (i := 2) rfl
    have hs3 := (B7.out.below hb' B7.out.lt).cell (i := 3) rfl
    have hs4 := (B7.out.below hb' B7.out.lt).cell (i := 4) rfl
    have hs5 := (B7.out.below hb' B7.out.lt).cell (i := 5) rfl
    have hs6 := (B7.out.below hb' B7.out.lt).cell (i := 6) rfl
    have hs7 := (B7.out.below hb' B7.out.lt).cell (i := 7) rfl
    have hsf := (B7.out.below hb' B7.out.lt).fz
    have hsl := (B7.out.below hb' B7.out.lt).lt
    clear hw'
    go_simp
    try rfl
   conv => arg 10; simp only [Act.put, List.setIfInBounds_toArray, List.set_cons_succ, List.set_cons_zero]
   refine Go.FreshS.wpF_nil (fun w103 hb hF => ?_)
   have N104 := Lib.hid (show DF w103 V.heap.size y4 q102 from (Go.FreshS.made_of (val := (fun x : FV => x.v)) (Φ := fun x w' => DF w' V.heap.size x q102) (fun _ _ => FV.inj) (hF.all 4)))
   clear hF
   have NF := Lib.hid (NF.out.below hb)
   have HM := Lib.hid (HM.out.below hb)
   have HO := Lib.hid (HO.out.below hb)
   have B7 := Lib.hid (B7.out.below hb B7.out.lt)
   have KG := Lib.hid (KG.out.trans (hb.mono KG.out.size))
   clear hb
   have HAP := Lib.hid (show ∀ e ∈ M, FV.apart e.1.c y4 from fun e he b hb1 hb2 => Nat.not_lt_of_le (N104.out.blks b hb2).1 (HMV.out e he b hb1))
   have AD := Lib.hid (add_likes w.heap.size w.heap.size M y4 q t.m w103 HM.out (show DF w103 w.heap.size y4 q by have h := N104.out.mono HSZ.out; rwa [show q102 = q by rw [Hq102.out, Hq101.out]; grind] at h) HAP.out HS1.out LQq.out HLK.out KG.out.size)
   go_wp2_with fail
   with_reducible refine AD.out.mono ?_
   rintro e w9 ⟨rfl, ⟨M', hM', hv'⟩, hOn⟩
   have HM' := Lib.hid hM'; have HV' := Lib.hid hv'
   have HO := Lib.hid (show OT w9 w.heap.size _ (L.map Prod.fst) from OT.only HO.out hOn (fun cur h => by rw [HM.out.blk] at h; cases h))
   have KG := Lib.hid (Only.bel KG.out hOn (Nat.le_refl _) KG.out.size)
   clear hM' hv' hOn AD
   go_wp2_with fail
   go_roundw
   case rel =>
    refine ⟨j + 1, M', by have := HJN.out; omega, rfl, HM'.out, fun f => ?_, ?_, HO.out, KG.out⟩
    ·rw [HV'.out, ev_putT, HEV.out, List.take_add_one, HE.out, List.map_append, ev_append]
     show _ = _ + (q * f t.m + 0)
     grind
    ·have h1 := congrArg List.length HV'.out
     have h2 := putT_len t.m q (M.map tm)
     rw [List.length_map] at h1 h2
     have := HML.out
     omega
   case measure => simp [intOf]; have := HJN.out; omega
  ·have HJE := Lib.hid (show j = rn by have := HJ.out; omega)
   have hge : ¬ ((j : Int) < (rn : Int)) := by omega
   have SM := Lib.hid (sum_likes w.heap.size w.heap.size M wr HM.out HLK.out KG.out.size (by have h1 := HML.out; have h2 := HJ.out; have h3 := HRN.out; have h4 := HLP.out; have h5 := HN.out; omega))
   clear hjn
   go_wp2_with fail
   with_reducible refine SM.out.mono ?_
   rintro e w9 ⟨z, rfl, hz, hb⟩
   have HZ := Lib.hid hz
   have KG := Lib.hid (KG.out.trans (hb.mono KG.out.size))
   clear hz hb SM
   go_wp2_with fail
   go_ret
   refine ⟨z, rfl, ?_, KG.out⟩
   have e1 : nf (M.map tm) = addP P Q := nf_of_ev fun f => by
    rw [HEV.out, List.take_of_length_le (by rw [HRN.out, HJE.out]; exact Nat.le_refl _), HLL.out]
   rw [← e1]
   exact HZ.out
theorem lq_neg : LQ ((-1 : Int) : Rat) 3 := LQ.int (by decide) (by decide)
set_option maxRecDepth 100000 in
set_option maxHeartbeats 16000000 in
theorem psub_any (x y : PV) (P Q : List Tm) (k n : Nat) (w : World) (hx : AP w x P) (hy : AP w y Q) (hxn : x.n ≤ 1000000) (hyn : y.n ≤ 1000000) (hp : ∀ t ∈ P, LQ t.2 k) (hq : PB Q n k 65535)
  (hk : 2 * k + 8 ≤ 900000) (hkk : n * (k + 4) ≤ 900000) (hn : P.length + n ≤ 1000000) :
  Calls Tryz.prog 35 #[x.v, y.v] w fun e w' => ∃ z : PV, e = .returned z.v ∧ DP w' w.heap.size z (subP P Q) ∧ Below w.heap.size w w' := by
 have HX := Lib.hid hx; have HY := Lib.hid hy; have HXN := Lib.hid hxn; have HYN := Lib.hid hyn; have HP := Lib.hid hp; have HQ := Lib.hid hq; have HK := Lib.hid hk; have HKK := Lib.hid hkk; have HN := Lib.hid hn
 have OF := Lib.hid (qof (-1) w (by decide) (by decide))
 obtain ⟨xa, xn, xc⟩ := x
 obtain ⟨ya, yn, yc⟩ := y
 change Calls Tryz.prog 35 #[.slice xa xn xc, .slice ya yn yc] w _
 clear hx hy hxn hyn hp hq hk hkk hn
 go_enter Tryz.func35, Tryz.ntmps35
 go_wp2_with fail
 with_reducible refine OF.out.mono ?_
 rintro e w1 ⟨c, rfl, hc, hb⟩
 have HC := Lib.hid hc
 have KG := Lib.hid hb
 clear hc hb OF
 have SC := Lib.hid (scale_any ⟨ya, yn, yc⟩ Q c ((-1 : Int) : Rat) k n 3 w1 (HY.out.below KG.out) HQ.out HYN.out HC.out.k.any ((HC.out.k).len lq_neg (by decide)) lq_neg (by have := HK.out; omega) HKK.out)
 go_wp2_with fail
 with_reducible refine SC.out.mono ?_
 rintro e w2 ⟨⟨za, zn, zc⟩, he, hz, hb⟩
 obtain rfl : e = .returned (.slice za zn zc) := he
 have HZ := Lib.hid (show DP w2 w1.heap.size ⟨za, zn, zc⟩ (scaleP (-1) Q) from by rw [show ((-1 : Rat)) = ((-1 : Int) : Rat) by decide +kernel]; exact hz)
 have KG := Lib.hid (KG.out.trans (hb.mono KG.out.size))
 clear hz hb SC
 have hPS := PB.scale HY.out.canon HQ.out (c := (-1 : Rat)) (k2 := 3) (by rw [show ((-1 : Rat)) = ((-1 : Int) : Rat) by decide +kernel]; exact lq_neg)
 have hzl := HZ.out.k.len
 have h1 := hPS.len
 have AD := Lib.hid (add_any ⟨xa, xn, xc⟩ ⟨za, zn, zc⟩ P (scaleP (-1) Q) (k + 3) w2 (HX.out.below KG.out) HZ.out.k.any HXN.out (by have := HN.out; omega) (fun t ht => (HP.out t ht).up (by omega)) hPS.lq (by have := HK.out; omega) (by have := HN.out; omega))
 clear hPS hzl h1
 go_wp2_with fail
 with_reducible refine AD.out.mono ?_
 rintro e w3 ⟨z, rfl, hz, hb⟩
 have HR := Lib.hid (hz.mono KG.out.size)
 have KG := Lib.hid (KG.out.trans (hb.mono KG.out.size))
 clear hz hb AD
 go_wp2_with fail
 go_ret
 exact ⟨z, rfl, HR.out, KG.out⟩
theorem mono_mul (a b : Mo) (w : World) (h : (a.mul b).Small) : Calls Tryz.prog 60 #[Mo.v a, Mo.v b] w fun e w' => e = .returned (.tuple #[Mo.v (a.mul b), .int .i64 0]) ∧ Below w.heap.size w w' := by
 obtain ⟨h1, h2, h3, h4⟩ := h
 change a.x + b.x ≤ 65535 at h1
 change a.y + b.y ≤ 65535 at h2
 change a.z + b.z ≤ 65535 at h3
 change a.t + b.t ≤ 65535 at h4
 have hs : ∀ m : Mo, m.Small → Mono.Small (fun i => ((m.at i : Nat) : Int)) := fun m hm i hi => by
  obtain ⟨g1, g2, g3, g4⟩ := hm
  match i, hi with
  | 0, _ => exact ⟨Int.natCast_nonneg _, by show (m.x : Int) ≤ _; omega⟩
  | 1, _ => exact ⟨Int.natCast_nonneg _, by show (m.y : Int) ≤ _; omega⟩
  | 2, _ => exact ⟨Int.natCast_nonneg _, by show (m.z : Int) ≤ _; omega⟩
  | 3, _ => exact ⟨Int.natCast_nonneg _, by show (m.t : Int) ≤ _; omega⟩
 have hB : Mono.mulB (fun i => ((a.at i : Nat) : Int)) (fun i => ((b.at i : Nat) : Int)) = true := decide_eq_true (by
  show (a.x : Int) + b.x ≤ 65535 ∧ (a.y : Int) + b.y ≤ 65535 ∧ (a.z : Int) + b.z ≤ 65535 ∧ (a.t : Int) + b.t ≤ 65535
  omega)
 refine (Mono.mul_any (fun i => ((a.at i : Nat) : Int)) (fun i => ((b.at i : Nat) : Int)) w (hs a ⟨by omega, by omega, by omega, by omega⟩) (hs b ⟨by omega, by omega, by omega, by omega⟩)).mono ?_
 rintro e w' ⟨rfl, hb⟩
 refine ⟨?_, hb⟩
 unfold Mono.mulE Mono.mulM
 simp only [hB, if_true]
 rfl
theorem mono_mulX (a b : Mo) (w : World) (ha : a.Small) (hb : b.Small) (h : ¬ (a.mul b).Small) : Calls Tryz.prog 60 #[Mo.v a, Mo.v b] w fun e w' => e = .returned (.tuple #[.agg #[.int .u16 0, .int .u16 0, .int .u16 0, .int .u16 0], .int .i64 3]) ∧ Below w.heap.size w w' := by
 have hs : ∀ m : Mo, m.Small → Mono.Small (fun i => ((m.at i : Nat) : Int)) := fun m hm i hi => by
  obtain ⟨g1, g2, g3, g4⟩ := hm
  match i, hi with
  | 0, _ => exact ⟨Int.natCast_nonneg _, by show (m.x : Int) ≤ _; omega⟩
  | 1, _ => exact ⟨Int.natCast_nonneg _, by show (m.y : Int) ≤ _; omega⟩
  | 2, _ => exact ⟨Int.natCast_nonneg _, by show (m.z : Int) ≤ _; omega⟩
  | 3, _ => exact ⟨Int.natCast_nonneg _, by show (m.t : Int) ≤ _; omega⟩
 have hB : Mono.mulB (fun i => ((a.at i : Nat) : Int)) (fun i => ((b.at i : Nat) : Int)) = false := decide_eq_false (by
  show ¬ ((a.x : Int) + b.x ≤ 65535 ∧ (a.y : Int) + b.y ≤ 65535 ∧ (a.z : Int) + b.z ≤ 65535 ∧ (a.t : Int) + b.t ≤ 65535)
  intro h2
  refine h ⟨?_, ?_, ?_, ?_⟩
  ·show a.x + b.x ≤ 65535; omega
  ·show a.y + b.y ≤ 65535; omega
  ·show a.z + b.z ≤ 65535; omega
  ·show a.t + b.t ≤ 65535; omega)
 refine (Mono.mul_any (fun i => ((a.at i : Nat) : Int)) (fun i => ((b.at i : Nat) : Int)) w (hs a ha) (hs b hb)).mono ?_
 rintro e w' ⟨rfl, hb⟩
 refine ⟨?_, hb⟩
 unfold Mono.mulE Mono.mulM
 simp only [hB]
 rfl
def Ovf (P Q : List Tm) : Prop := ∃ s ∈ P, ∃ t ∈ Q, ¬ (s.1.mul t.1).Small
def MulR (w : World) (P Q : List Tm) (e : Ending) (w' : World) : Prop :=
 (∃ z : PV, e = .returned (.tuple #[z.v, .int .i64 0]) ∧ ¬ Ovf P Q ∧ DP w' w.heap.size z (mulP P Q) ∧ Below w.heap.size w w') ∨ (e = .returned (.tuple #[.slice none 0 0, .int .i64 3]) ∧ Ovf P Q ∧ Below w.heap.size w w')
theorem Bxs.only {w w' : World} {b g : Nat} {t : TypeId} {l : List Value} {es : Array MapEntry} {k : Nat} (h : Bxs w g t l) (ho : Only b w w') (hm : w.heap[b]? = some (.map es k)) : Bxs w' g t l :=
 h.of (ho.2.2.2.2 g h.lt fun e => by subst e; have h2 : w.heap[g]? = some (.cells l.toArray t (0, 0)) := h; rw [hm] at h2; cases h2)
set_option maxRecDepth 100000 in
set_option maxHeartbeats 16000000 in
theorem mul_g (x y : PV) (P Q : List Tm) (k1 k2 : Nat) (w : World) (hx : KP w x P) (hy : KP w y Q) (hp : ∀ t ∈ P, LQ t.2 k1) (hq : ∀ t ∈ Q, LQ t.2 k2) (hk : k1 + k2 ≤ 900000)
  (hc : ∀ (i : Nat) (s : Tm) (j : Nat) (m : Mo), P[i]? = some s → cf (mulL (P.take i) Q ++ rowL s (Q.take j)) m = 0 ∨ LQ (cf (mulL (P.take i) Q ++ rowL s (Q.take j)) m) 900000)
  (hd : ∀ (i : Nat) (m : Mo), cf (mulL (P.take i) Q) m = 0 ∨ LQ (cf (mulL (P.take i) Q) m) 900000)
  (hn : P.length * Q.length ≤ 1000000) (hpn : P.length ≤ 1000000) (hqn : Q.length ≤ 1000000) :
  Calls Tryz.prog 20 #[x.v, y.v] w (MulR w P Q) := by
 have HX := Lib.hid hx; have HY := Lib.hid hy; have HP := Lib.hid hp; have HQ := Lib.hid hq; have HK := Lib.hid hk; have HC := Lib.hid hc; have HD := Lib.hid hd; have HN := Lib.hid hn
 have HPN := Lib.hid hpn; have HQN := Lib.hid hqn
 have hxl := hx.len
 have hyl := hy.len
 have hmm := fun (t : TypeId) (w : World) => run_makeMap (P := Tryz.prog) t w
 have C1 := Lib.hid (check_k hx (fun t ht => (hp t ht).up (by omega)) (by omega))
 obtain ⟨xa, xn, xc⟩ := x
 obtain ⟨ya, yn, yc⟩ := y
 change Calls Tryz.prog 20 #[.slice xa xn xc, .slice ya yn yc] w _
 change xn = P.length at hxl
 change yn = Q.length at hyl
 have HXL := Lib.hid hxl; have HYL := Lib.hid hyl
 obtain ⟨L1, g1, g2, g3, g4⟩ := hx.ex
 obtain ⟨L2, k3, k4, k5, k6⟩ := hy.ex
 have R1 := Lib.hid g1; have R2 := Lib.hid k3; have F1 := Lib.hid g3; have F2 := Lib.hid k5; have T1 := Lib.hid g4; have T2 := Lib.hid k6
 have N1 := Lib.hid (show L1.length = xn from g2); have N2 := Lib.hid (show L2.length = yn from k4)
 clear hx hy hp hq hk hc hd hn hpn hqn hxl hyl g1 g2 g3 g4 k3 k4 k5 k6
 go_enter Tryz.func20, Tryz.ntmps20
 go_wp2_with fail
 with_reducible refine C1.out.mono ?_
 rintro e w1 ⟨rfl, hb⟩
 have KG := Lib.hid hb
 clear hb C1
 have C2 := Lib.hid (check_k (HY.out.below KG.out) (fun t ht => (HQ.out t ht).up (by have := HK.out; omega)) (by have h := HYL.out; have := HQN.out; show yn ≤ _; omega))
 go_wp2_with fail
 with_reducible refine C2.out.mono ?_
 rintro e w2 ⟨rfl, hb⟩
 have KG := Lib.hid (KG.out.trans (hb.mono KG.out.size))
 clear hb C2
 go_upto_region 4 with (fail)
 obtain ⟨V0, hV⟩ : ∃ V, V = w2.alloc (.map #[] 0) := ⟨_, rfl⟩
 have hbV : Below w2.heap.size w2 V0 := by rw [hV]; exact (Below.refl _ _).alloc (Nat.le_refl _) _
 obtain ⟨b, hb⟩ : ∃ b, b = w2.heap.size := ⟨_, rfl⟩
 have HM0 := Lib.hid (show MK V0 w.heap.size b [] by rw [hV, hb]; exact ⟨heap_alloc_new w2 _, KG.out.size, fun e he => (by cases he), List.Pairwise.nil, List.nodup_nil, fun e he => (by cases he)⟩)
 rw [← hV, ← hb]
 have HB := Lib.hid (show w.heap.size ≤ b by rw [hb]; exact KG.out.size)
 have KG := Lib.hid (KG.out.trans (hbV.mono KG.out.size))
 clear hV hbV hmm hb
 go_wp2_with fail
 go_loopw [24] (fun i wr => ∃ (j : Nat) (M : List TE), j ≤ xn ∧ i = .int .i64 j ∧ MK wr w.heap.size b M ∧ (∀ f, ev (M.map tm) f = ev (mulL (P.take j) Q) f) ∧ M.length ≤ j * Q.length ∧ (∀ s ∈ P.take j, ∀ u ∈ Q, (s.1.mul u.1).Small) ∧ Below w.heap.size w wr) (fun i _ => xn - (intOf i).toNat)
 case atStart =>
  exact ⟨0, [], Nat.zero_le _, rfl, HM0.out, fun f => (by rw [List.take_zero]; rfl), by simp, (fun s hs => by rw [List.take_zero] at hs; cases hs), KG.out⟩
 case round =>
  obtain ⟨j, M, hj, rfl, hM, hev, hml, hso, hb0⟩ := hrel
  have HSO := Lib.hid hso
  have HJ := Lib.hid hj; have HM := Lib.hid hM; have HEV := Lib.hid hev; have HML := Lib.hid hml; have KG := Lib.hid hb0
  clear hj hM hev hml hso hb0
  by_cases hjn : j < xn
  ·have HJN := Lib.hid hjn
   have hjl : j < L1.length := by rw [N1.out]; exact hjn
   obtain ⟨pb, po, rfl, hpb, hcs⟩ := (R1.out.below KG.out).off (i := j) (by rw [List.length_map]; exact hjl)
   obtain ⟨e, he⟩ : ∃ e, L1[j]? = some e := ⟨_, List.getElem?_eq_getElem hjl⟩
   obtain ⟨t, q⟩ := e
   obtain ⟨c0, c1, c2, c3, c4, c5, c6, c7⟩ := RT.eight hcs (i := j) (t := t) (by rw [List.getElem?_map, he]; rfl)
   have hmem := List.mem_of_getElem? he
   have HPJ := Lib.hid (show P[j]? = some (t.m, q) by rw [← T1.out, List.getElem?_map, he]; rfl)
   have NT := Lib.hid (show KF w t.c q from F1.out _ hmem)
   clear hcs he hpb hjl hmem
   go_upto_region 7 with (fail)
   obtain ⟨V, hV⟩ : ∃ V, V = wr.alloc (.cells #[.bool t.c.t.s, .slice t.c.t.a t.c.t.n t.c.t.c, .bool t.c.l.s, .slice t.c.l.a t.c.l.n t.c.l.c, .int .u16 t.m.x, .int .u16 t.m.y, .int .u16 t.m.z, .int .u16 t.m.t] 50) := ⟨_, rfl⟩
   have hbV : Below wr.heap.size wr V := by rw [hV]; exact (Below.refl _ _).alloc (Nat.le_refl _) _
   have B8 := Lib.hid (show Bxs V wr.heap.size 50 [.bool t.c.t.s, .slice t.c.t.a t.c.t.n t.c.t.c, .bool t.c.l.s, .slice t.c.l.a t.c.l.n t.c.l.c, .int .u16 t.m.x, .int .u16 t.m.y, .int .u16 t.m.z, .int .u16 t.m.t] by rw [hV]; exact Bxs.new wr 50 [.bool t.c.t.s, .slice t.c.t.a t.c.t.n t.c.t.c, .bool t.c.l.s, .slice t.c.l.a t.c.l.n t.c.l.c, .int .u16 t.m.x, .int .u16 t.m.y, .int .u16 t.m.z, .int .u16 t.m.t])
   obtain ⟨A8, hA8⟩ : ∃ A, A = wr.heap.size := ⟨_, rfl⟩
   rw [← hV, ← hA8]
   rw [← hA8] at B8
   have HM := Lib.hid (HM.out.below hbV)
   have KG := Lib.hid (KG.out.trans (hbV.mono KG.out.size))
   have ek : IntKind.i64.wrap ((j : Int) + 1) = (j : Int) + 1 := IntWalk.i64_in _ (by have := HJN.out; have := HXL.out; have := HPN.out; omega)
   clear hV hbV hA8 c0 c1 c2 c3 c4 c5 c6 c7 hjn
   go_wp2_with fail
   go_loopw [30] (fun i wi => ∃ (l : Nat) (M' : List TE), l ≤ yn ∧ i = .int .i64 l ∧ MK wi w.heap.size b M' ∧ Bxs wi A8 50 [.bool t.c.t.s, .slice t.c.t.a t.c.t.n t.c.t.c, .bool t.c.l.s, .slice t.c.l.a t.c.l.n t.c.l.c, .int .u16 t.m.x, .int .u16 t.m.y, .int .u16 t.m.z, .int .u16 t.m.t] ∧ (∀ f, ev (M'.map tm) f = ev (mulL (P.take j) Q ++ rowL (t.m, q) (Q.take l)) f) ∧ M'.length ≤ j * Q.length + l ∧ (∀ v ∈ Q.take l, (t.m.mul v.1).Small) ∧ Below w.heap.size w wi) (fun i _ => yn - (intOf i).toNat)
   case atStart =>
    exact ⟨0, M, Nat.zero_le _, rfl, HM.out, B8.out, fun f => (by rw [HEV.out, List.take_zero]; show _ = ev (_ ++ []) f; rw [List.append_nil]), HML.out, (fun v hv => by rw [List.take_zero] at hv; cases hv), KG.out⟩
   case round =>
    obtain ⟨l, M', hl, rfl, hM, hB8, hev, hml, hsi, hb0⟩ := hrel
    have HSI := Lib.hid hsi
    have HL := Lib.hid hl; have HM := Lib.hid hM; have B8 := Lib.hid hB8; have HEV := Lib.hid hev; have HML := Lib.hid hml; have KG := Lib.hid hb0
    clear hl hM hB8 hev hml hsi hb0
    by_cases hln : l < yn
    ·have HLN := Lib.hid hln
     have hll : l < L2.length := by rw [N2.out]; exact hln
     obtain ⟨qb, qo, rfl, hqb, hcs⟩ := (R2.out.below KG.out).off (i := l) (by rw [List.length_map]; exact hll)
     obtain ⟨e, he⟩ : ∃ e, L2[l]? = some e := ⟨_, List.getElem?_eq_getElem hll⟩
     obtain ⟨u, r⟩ := e
     obtain ⟨c0, c1, c2, c3, c4, c5, c6, c7⟩ := RT.eight hcs (i := l) (t := u) (by rw [List.getElem?_map, he]; rfl)
     have hmem := List.mem_of_getElem? he
     have HQL := Lib.hid (show Q[l]? = some (u.m, r) by rw [← T2.out, List.getElem?_map, he]; rfl)
     have NU := Lib.hid (show KF w u.c r from F2.out _ hmem)
     clear hcs he hqb hll hmem
     go_upto_region 10 with (fail)
     obtain ⟨V, hV⟩ : ∃ V, V = wr.alloc (.cells #[.bool u.c.t.s, .slice u.c.t.a u.c.t.n u.c.t.c, .bool u.c.l.s, .slice u.c.l.a u.c.l.n u.c.l.c, .int .u16 u.m.x, .int .u16 u.m.y, .int .u16 u.m.z, .int .u16 u.m.t] 50) := ⟨_, rfl⟩
     have hbV : Below wr.heap.size wr V := by rw [hV]; exact (Below.refl _ _).alloc (Nat.le_refl _) _
     have B10 := Lib.hid (show Bxs V wr.heap.size 50 [.bool u.c.t.s, .slice u.c.t.a u.c.t.n u.c.t.c, .bool u.c.l.s, .slice u.c.l.a u.c.l.n u.c.l.c, .int .u16 u.m.x, .int .u16 u.m.y, .int .u16 u.m.z, .int .u16 u.m.t] by rw [hV]; exact Bxs.new wr 50 [.bool u.c.t.s, .slice u.c.t.a u.c.t.n u.c.t.c, .bool u.c.l.s, .slice u.c.l.a u.c.l.n u.c.l.c, .int .u16 u.m.x, .int .u16 u.m.y, .int .u16 u.m.z, .int .u16 u.m.t])
     obtain ⟨A10, hA10⟩ : ∃ A, A = wr.heap.size := ⟨_, rfl⟩
     rw [← hV, ← hA10]
     rw [← hA10] at B10
     have HM := Lib.hid (HM.out.below hbV)
     have B8 := Lib.hid (B8.out.below hbV B8.out.lt)
     have KG := Lib.hid (KG.out.trans (hbV.mono KG.out.size))
     have hpm := List.mem_of_getElem? HPJ.out
     have hqm := List.mem_of_getElem? HQL.out
     have LQq := Lib.hid (show LQ q 900000 from (HP.out _ hpm).up (by have := HK.out; omega))
     have LQr := Lib.hid (show LQ r 900000 from (HQ.out _ hqm).up (by have := HK.out; omega))
     have HQR := Lib.hid (show LQ (q * r) 900000 from ((HP.out _ hpm).ls.mul (HQ.out _ hqm).ls).lq HK.out HK.out)
     have HTS := Lib.hid (show t.m.Small from HX.out.small _ hpm)
     have HUS := Lib.hid (show u.m.Small from HY.out.small _ hqm)
     clear hV hbV hA10 hpm hqm c0 c1 c2 c3 c4 c5 c6 c7 hln
     by_cases hsm : (t.m.mul u.m).Small
     ·have HSM := Lib.hid hsm
      clear hsm
      obtain ⟨m, hm⟩ : ∃ m, m = t.m.mul u.m := ⟨_, rfl⟩
      have MU := Lib.hid (mono_mul t.m u.m V HSM.out)
      rw [← hm] at MU HSM
      have HMU := Lib.hid hm
      clear hm
      have c80 := B8.out.cell (i := 0) rfl
      have c81 := B8.out.cell (i := 1) rfl
      have c82 := B8.out.cell (i := 2) rfl
      have c83 := B8.out.cell (i := 3) rfl
      have c84 := B8.out.cell (i := 4) rfl
      have c85 := B8.out.cell (i := 5) rfl
      have c86 := B8.out.cell (i := 6) rfl
      have c87 := B8.out.cell (i := 7) rfl
      have c100 := B10.out.cell (i := 0) rfl
      have c101 := B10.out.cell (i := 1) rfl
      have c102 := B10.out.cell (i := 2) rfl
      have c103 := B10.out.cell (i := 3) rfl
      have c104 := B10.out.cell (i := 4) rfl
      have c105 := B10.out.cell (i := 5) rfl
      have c106 := B10.out.cell (i := 6) rfl
      have c107 := B10.out.cell (i := 7) rfl
      go_wp2_with fail
      with_reducible refine MU.out.mono ?_
      rintro e w5 ⟨rfl, hb⟩
      have HM := Lib.hid (HM.out.below hb)
      have B8 := Lib.hid (B8.out.below hb B8.out.lt)
      have B10 := Lib.hid (B10.out.below hb B10.out.lt)
      have KG := Lib.hid (KG.out.trans (hb.mono KG.out.size))
      clear hb MU c80 c81 c82 c83 c84 c85 c86 c87 c100 c101 c102 c103 c104 c105 c106 c107
      go_upto_region 13 with (fail)
      obtain ⟨V, hV⟩ : ∃ V, V = w5.alloc (.cells #[.int .u16 m.x, .int .u16 m.y, .int .u16 m.z, .int .u16 m.t] 48) := ⟨_, rfl⟩
      have hbV : Below w5.heap.size w5 V := by rw [hV]; exact (Below.refl _ _).alloc (Nat.le_refl _) _
      have B11 := Lib.hid (show Bxs V w5.heap.size 48 [.int .u16 m.x, .int .u16 m.y, .int .u16 m.z, .int .u16 m.t] by rw [hV]; exact Bxs.new w5 48 [.int .u16 m.x, .int .u16 m.y, .int .u16 m.z, .int .u16 m.t])
      obtain ⟨A11, hA11⟩ : ∃ A, A = w5.heap.size := ⟨_, rfl⟩
      rw [← hV, ← hA11]
      rw [← hA11] at B11
      have HM := Lib.hid (HM.out.below hbV)
      have B8 := Lib.hid (B8.out.below hbV B8.out.lt)
      have B10 := Lib.hid (B10.out.below hbV B10.out.lt)
      have KG := Lib.hid (KG.out.trans (hbV.mono KG.out.size))
      have NT := Lib.hid (NT.out.below KG.out)
      have NU := Lib.hid (NU.out.below KG.out)
      have HSZ := Lib.hid (show w.heap.size ≤ V.heap.size from KG.out.size)
      have HLK := Lib.hid (show ∀ e ∈ M', LQ e.2 900000 from fun e he => by
       refine like_lq (l := M'.map tm) (L := mulL (P.take j) Q ++ rowL (t.m, q) (Q.take l)) ?_ HEV.out (fun m => HC.out j _ l m HPJ.out) (Nat.le_refl _) (tm e) (List.mem_map_of_mem he)
       have h := HM.out.keys
       rw [List.map_map]
       exact h)
      have HMV := Lib.hid (show ∀ e ∈ M', ∀ b, FV.blk e.1.c b → b < V.heap.size from fun e he b hb => ((HM.out.df e he).blks b hb).2)
      have el : IntKind.i64.wrap ((l : Int) + 1) = (l : Int) + 1 := IntWalk.i64_in _ (by have := HLN.out; have := HYL.out; have := HQN.out; omega)
      clear hV hbV hA11
      obtain ⟨q101, hq101⟩ : ∃ z : Rat, z = q * r := ⟨_, rfl⟩
      have Hq101 := Lib.hid hq101
      have LQq101 := Lib.hid (show LQ q101 1800000 by rw [hq101]; exact LQ.mul (LQq.out.up (by decide : _ ≤ 900000)) (LQr.out.up (by decide : _ ≤ 900000)) (by decide))
      clear hq101
      go_upto_region 13 with (fail)
      refine Go.FreshS.wp_region_fresh 7 [] (Go.FreshS.spOf [(5, Go.FreshS.Sp.made (fun x : FV => x.v) (fun x w' => DF w' V.heap.size x q101) FV.blk)])
       (fun w' => Below V.heap.size V w') (by kernel_rfl) (by kernel_rfl) (by kernel_rfl)
       (Go.FreshS.spOf_cons (Go.FreshS.Sp.made_keeps _ (fun _ _ _ h _ hk => h.kept hk) (Go.FreshS.notTaken (by kernel_rfl))) (Go.FreshS.spOf_nil)) (fun _ _ h hb => h.trans (hb.mono h.size)) ((Below.refl _ _).drew) ?_
      simp only [List.append_eq, List.cons_append, List.nil_append, List.take_succ_cons, List.take_zero, List.drop_succ_cons, List.drop_zero]
      refine Go.FreshS.wpF_reads rfl rfl rfl ?_ (fun w' hw' => ?_) ?_
      rotate_left
      ·have hb' := hw'.world
       skip
       clear hw'
       go_simp
       try rfl
      conv => arg 10; simp only [Act.put, List.setIfInBounds_toArray, List.set_cons_succ, List.set_cons_zero]
      refine Go.FreshS.wpF_reads rfl rfl rfl ?_ (fun w' hw' => ?_) ?_
      rotate_left
      ·have hb' := hw'.world
       skip
       clear hw'
       go_simp
       try rfl
      conv => arg 10; simp only [Act.put, List.setIfInBounds_toArray, List.set_cons_succ, List.set_cons_zero]
      refine Go.FreshS.wpF_reads rfl rfl rfl ?_ (fun w' hw' => ?_) ?_
      rotate_left
      ·have hb' := hw'.world
       have hs0 := (B8.out.below hb' B8.out.lt).cell (i := 0) rfl
       have hs1 := (B8.out.below hb' B8.out.lt).cell (i := 1) rfl
       have hs2 := (B8.out.below hb' B8.out.lt).cell (i := 2) rfl
       have hs3 := (B8.out.below hb' B8.out.lt).cell (i := 3) rfl
       have hs4 := (B8.out.below hb' B8.out.lt).cell (i := 4) rfl
       have hs5 := (B8.out.below hb' B8.out.lt).cell (i := 5) rfl
       have hs6 := (B8.out.below hb' B8.out.lt).cell (i := 6) rfl
       have hs7 := (B8.out.below hb' B8.out.lt).cell (i := 7) rfl
       have hsf := (B8.out.below hb' B8.out.lt).fz
       have hsl := (B8.out.below hb' B8.out.lt).lt
       clear hw'
       go_simp
       try rfl
      conv => arg 10; simp only [Act.put, List.setIfInBounds_toArray, List.set_cons_succ, List.set_cons_zero]
      refine Go.FreshS.wpF_reads rfl rfl rfl ?_ (fun w' hw' => ?_) ?_
      rotate_left
      ·have hb' := hw'.world
       skip
       clear hw'
       go_simp
       try rfl
      conv => arg 10; simp only [Act.put, List.setIfInBounds_toArray, List.set_cons_succ, List.set_cons_zero]
      refine Go.FreshS.wpF_reads rfl rfl rfl ?_ (fun w' hw' => ?_) ?_
      rotate_left
      ·have hb' := hw'.world
       have hs0 := (B10.out.below hb' B10.out.lt).cell (i := 0) rfl
       have hs1 := (B10.out.below hb' B10.out.lt).cell (i := 1) rfl
       have hs2 := (B10.out.below hb' B10.out.lt).cell (i := 2) rfl
       have hs3 := (B10.out.below hb' B10.out.lt).cell (i := 3) rfl
       have hs4 := (B10.out.below hb' B10.out.lt).cell (i := 4) rfl
       have hs5 := (B10.out.below hb' B10.out.lt).cell (i := 5) rfl
       have hs6 := (B10.out.below hb' B10.out.lt).cell (i := 6) rfl
       have hs7 := (B10.out.below hb' B10.out.lt).cell (i := 7) rfl
       have hsf := (B10.out.below hb' B10.out.lt).fz
       have hsl := (B10.out.below hb' B10.out.lt).lt
       clear hw'
       go_simp
       try rfl
      conv => arg 10; simp only [Act.put, List.setIfInBounds_toArray, List.set_cons_succ, List.set_cons_zero]
      refine Go.FreshS.wpF_spec rfl rfl rfl (fun w' hw' => ?_) ?_
      ·have hb' := hw'.world
       refine Go.FreshS.gives_of (Go.FreshS.PM (fun x : FV => x.v) (fun x w' => DF w' V.heap.size x q101) FV.blk w'.heap.size) ?_ (fun _ _ h => h.post (fun _ _ => FV.inj))
       go_simp
       have CT := qmul ((NT.out.below hb')).any (((NT.out.below hb')).len LQq.out (by decide : _ ≤ 900000)) ((NU.out.below hb')).any (((NU.out.below hb')).len LQr.out (by decide : _ ≤ 900000))
       rw [show q * r = q101 from Hq101.out.symm] at CT
       refine CT.mono ?_
       rintro e w'' ⟨za, rfl, ho, hb⟩
       exact ⟨_, rfl, ⟨za, rfl, ho.mono hb'.size, ho.blks⟩, hb⟩
      rintro _ ⟨y5, rfl⟩
      conv => arg 10; simp only [Act.put, List.setIfInBounds_toArray, List.set_cons_succ, List.set_cons_zero]
      refine Go.FreshS.wpF_reads rfl rfl rfl ?_ (fun w' hw' => ?_) ?_
      rotate_left
      ·have hb' := hw'.world
       have hs0 := (B11.out.below hb' B11.out.lt).cell (i := 0) rfl
       have hs1 := (B11.out.below hb' B11.out.lt).cell (i := 1) rfl
       have hs2 := (B11.out.below hb' B11.out.lt).cell (i := 2) rfl
       have hs3 := (B11.out.below hb' B11.out.lt).cell (i := 3) rfl
       have hsf := (B11.out.below hb' B11.out.lt).fz
       have hsl := (B11.out.below hb' B11.out.lt).lt
       clear hw'
       go_simp
       try rfl
      conv => arg 10; simp only [Act.put, List.setIfInBounds_toArray, List.set_cons_succ, List.set_cons_zero]
      refine Go.FreshS.wpF_nil (fun w102 hb hF => ?_)
      have N103 := Lib.hid (show DF w102 V.heap.size y5 q101 from (Go.FreshS.made_of (val := (fun x : FV => x.v)) (Φ := fun x w' => DF w' V.heap.size x q101) (fun _ _ => FV.inj) (hF.all 5)))
      clear hF
      have NT := Lib.hid (NT.out.below hb)
      have NU := Lib.hid (NU.out.below hb)
      have HM := Lib.hid (HM.out.below hb)
      have B8 := Lib.hid (B8.out.below hb B8.out.lt)
      have B10 := Lib.hid (B10.out.below hb B10.out.lt)
      have B11 := Lib.hid (B11.out.below hb B11.out.lt)
      have KG := Lib.hid (KG.out.trans (hb.mono KG.out.size))
      clear hb
      have HAP := Lib.hid (show ∀ e ∈ M', FV.apart e.1.c y5 from fun e he b hb1 hb2 => Nat.not_lt_of_le (N103.out.blks b hb2).1 (HMV.out e he b hb1))
      have AD := Lib.hid (add_likes b w.heap.size M' y5 (q * r) m w102 HM.out (show DF w102 w.heap.size y5 (q * r) by have h := N103.out.mono HSZ.out; rwa [show q101 = q * r from Hq101.out] at h) HAP.out HSM.out HQR.out HLK.out KG.out.size)
      have c110 := B11.out.cell (i := 0) rfl
      have c111 := B11.out.cell (i := 1) rfl
      have c112 := B11.out.cell (i := 2) rfl
      have c113 := B11.out.cell (i := 3) rfl
      go_wp2_with fail
      with_reducible refine AD.out.mono ?_
      rintro e w9 ⟨rfl, ⟨M2, hM2, hv'⟩, hOn⟩
      have HM2 := Lib.hid hM2; have HV' := Lib.hid hv'
      have B8 := Lib.hid (Bxs.only B8.out hOn HM.out.blk)
      have KG := Lib.hid (Only.bel KG.out hOn HB.out KG.out.size)
      clear hM2 hv' hOn AD c110 c111 c112 c113
      go_wp2_with fail
      go_roundw
      case rel =>
       refine ⟨l + 1, M2, by have := HLN.out; omega, rfl, HM2.out, B8.out, fun f => ?_, ?_, fun v hv => ?_, KG.out⟩
       ·rw [HV'.out, ev_putT, HEV.out, List.take_add_one, HQL.out]
        unfold rowL
        rw [List.map_append, ← List.append_assoc, ev_append (_ ++ _)]
        show _ = _ + (q * r * f (t.m.mul u.m) + 0)
        rw [HMU.out]
        grind
       ·have h1 := congrArg List.length HV'.out
        have h2 := putT_len m (q * r) (M'.map tm)
        rw [List.length_map] at h1 h2
        have := HML.out
        omega
       ·rw [List.take_add_one, HQL.out] at hv
        rcases List.mem_append.1 hv with hv | hv
        ·exact HSI.out v hv
        ·rw [List.mem_singleton.1 hv]
         show (t.m.mul u.m).Small
         rw [← HMU.out]
         exact HSM.out
      case measure => simp [intOf]; have := HLN.out; omega
     ·have MU := Lib.hid (mono_mulX t.m u.m V HTS.out HUS.out hsm)
      have HOV := Lib.hid (show Ovf P Q from ⟨_, List.mem_of_getElem? HPJ.out, _, List.mem_of_getElem? HQL.out, hsm⟩)
      clear hsm
      have c80 := B8.out.cell (i := 0) rfl
      have c81 := B8.out.cell (i := 1) rfl
      have c82 := B8.out.cell (i := 2) rfl
      have c83 := B8.out.cell (i := 3) rfl
      have c84 := B8.out.cell (i := 4) rfl
      have c85 := B8.out.cell (i := 5) rfl
      have c86 := B8.out.cell (i := 6) rfl
      have c87 := B8.out.cell (i := 7) rfl
      have c100 := B10.out.cell (i := 0) rfl
      have c101 := B10.out.cell (i := 1) rfl
      have c102 := B10.out.cell (i := 2) rfl
      have c103 := B10.out.cell (i := 3) rfl
      have c104 := B10.out.cell (i := 4) rfl
      have c105 := B10.out.cell (i := 5) rfl
      have c106 := B10.out.cell (i := 6) rfl
      have c107 := B10.out.cell (i := 7) rfl
      go_wp2_with fail
      with_reducible refine MU.out.mono ?_
      rintro e w5 ⟨rfl, hb⟩
      have KG := Lib.hid (KG.out.trans (hb.mono KG.out.size))
      clear hb MU c80 c81 c82 c83 c84 c85 c86 c87 c100 c101 c102 c103 c104 c105 c106 c107
      go_wp2_with fail
      go_ret2
      exact Or.inr ⟨rfl, HOV.out, KG.out.alloc KG.out.size _⟩
    ·have HLE := Lib.hid (show l = yn by have := HL.out; omega)
     have hge : ¬ ((l : Int) < (yn : Int)) := by omega
     clear hln
     go_wp2_with fail
     go_roundw
     case rel =>
      refine ⟨j + 1, M', by have := HJN.out; omega, rfl, HM.out, fun f => ?_, ?_, fun s hs => ?_, KG.out⟩
      ·rw [HEV.out, List.take_of_length_le (l := Q) (by rw [HLE.out, HYL.out]; exact Nat.le_refl _), List.take_add_one, HPJ.out]
       show _ = ev (mulL (P.take j ++ [(t.m, q)]) Q) f
       rw [mulL_snoc]
      ·rw [Nat.add_mul, Nat.one_mul, ← HYL.out, ← HLE.out, HLE.out, HYL.out]; have h := HML.out; have h2 := HLE.out; have h3 := HYL.out; omega
      ·rw [List.take_add_one, HPJ.out] at hs
       rcases List.mem_append.1 hs with hs | hs
       ·exact HSO.out s hs
       ·rw [List.mem_singleton.1 hs]
        intro v hv
        refine HSI.out v ?_
        rw [List.take_of_length_le (by rw [HLE.out, HYL.out]; exact Nat.le_refl _)]
        exact hv
     case measure => simp [intOf]; have := HJN.out; omega
  ·have HJE := Lib.hid (show j = xn by have := HJ.out; omega)
   have hge : ¬ ((j : Int) < (xn : Int)) := by omega
   have HLK := Lib.hid (show ∀ e ∈ M, LQ e.2 900000 from fun e he => by
    refine like_lq (l := M.map tm) (L := mulL (P.take j) Q) ?_ HEV.out (fun m => HD.out j m) (Nat.le_refl _) (tm e) (List.mem_map_of_mem he)
    have h := HM.out.keys
    rw [List.map_map]
    exact h)
   have SM := Lib.hid (sum_likes b w.heap.size M wr HM.out HLK.out KG.out.size (by have h1 := HML.out; rw [HJE.out, HXL.out] at h1; have h4 := HN.out; omega))
   clear hjn
   go_wp2_with fail
   with_reducible refine SM.out.mono ?_
   rintro e w9 ⟨z, rfl, hz, hb⟩
   have HZ := Lib.hid hz
   have KG := Lib.hid (KG.out.trans (hb.mono KG.out.size))
   clear hz hb SM
   go_wp2_with fail
   go_ret2
   refine Or.inl ⟨z, rfl, ?_, ?_, KG.out⟩
   ·rintro ⟨s, hs, u, hu, hov⟩
    refine hov (HSO.out s ?_ u hu)
    rw [List.take_of_length_le (by rw [HJE.out, HXL.out]; exact Nat.le_refl _)]
    exact hs
   have e1 : nf (M.map tm) = mulP P Q := nf_of_ev fun f => by
    rw [HEV.out, List.take_of_length_le (by rw [HJE.out, HXL.out]; exact Nat.le_refl _)]
   rw [← e1]
   exact HZ.out
theorem no_ovf {P Q : List Tm} {e1 e2 : Nat} (hp : ∀ t ∈ P, t.1.le e1) (hq : ∀ t ∈ Q, t.1.le e2) (he : e1 + e2 ≤ 65535) : ¬ Ovf P Q := fun ⟨s, hs, t, ht, h⟩ => h (by
 obtain ⟨a1, a2, a3, a4⟩ := hp s hs
 obtain ⟨b1, b2, b3, b4⟩ := hq t ht
 exact ⟨by show s.1.x + t.1.x ≤ _; omega, by show s.1.y + t.1.y ≤ _; omega, by show s.1.z + t.1.z ≤ _; omega, by show s.1.t + t.1.t ≤ _; omega⟩)
theorem mul_o (x y : PV) (P Q : List Tm) (k1 k2 : Nat) (w : World) (hx : KP w x P) (hy : KP w y Q) (hp : ∀ t ∈ P, LQ t.2 k1) (hq : ∀ t ∈ Q, LQ t.2 k2)
  (hk : P.length * (k1 + k2 + 1) ≤ 900000) (h2 : k2 ≤ 900000) (hn : P.length * Q.length ≤ 1000000) (hpn : P.length ≤ 1000000) (hqn : Q.length ≤ 1000000) :
  Calls Tryz.prog 20 #[x.v, y.v] w (MulR w P Q) := by
 match P, hx, hp, hk, hn, hpn with
 | [], hx, _, _, hn, hpn => exact mul_g x y [] Q 0 k2 w hx hy (fun t ht => by cases ht) hq (by omega) (fun i s j m hs => by cases hs) (fun i m => by rw [List.take_nil]; exact Or.inl rfl) hn hpn hqn
 | t :: r, hx, hp, hk, hn, hpn =>
  exact mul_g x y (t :: r) Q k1 k2 w hx hy hp hq (by have := Nat.le_mul_of_pos_left (k1 + k2 + 1) (show 0 < r.length + 1 by omega); rw [List.length_cons] at hk; omega) (fun i s j m hs => part_cf hy.canon hp hq hs j m hk) (fun i m => all_cf hy.canon hp hq i m hk) hn hpn hqn
theorem mul_k (x y : PV) (P Q : List Tm) (k1 k2 e1 e2 : Nat) (w : World) (hx : KP w x P) (hy : KP w y Q) (hp : ∀ t ∈ P, LQ t.2 k1 ∧ t.1.le e1) (hq : ∀ t ∈ Q, LQ t.2 k2 ∧ t.1.le e2)
  (hk : P.length * (k1 + k2 + 1) ≤ 900000) (_h1 : k1 ≤ 900000) (h2 : k2 ≤ 900000) (hn : P.length * Q.length ≤ 1000000) (hpn : P.length ≤ 1000000) (hqn : Q.length ≤ 1000000) (he : e1 + e2 ≤ 65535) :
  Calls Tryz.prog 20 #[x.v, y.v] w fun e w' => ∃ z : PV, e = .returned (.tuple #[z.v, .int .i64 0]) ∧ DP w' w.heap.size z (mulP P Q) ∧ Below w.heap.size w w' :=
 (mul_o x y P Q k1 k2 w hx hy (fun t ht => (hp t ht).1) (fun t ht => (hq t ht).1) hk h2 hn hpn hqn).mono fun e w' h => h.elim (fun ⟨z, h1, _, h2, h3⟩ => ⟨z, h1, h2, h3⟩) (fun ⟨_, h, _⟩ => absurd h (no_ovf (fun t ht => (hp t ht).2) (fun t ht => (hq t ht).2) he))
end Go.Proofs.YthcccdjfedbnfaaGreatDoor.Pol
