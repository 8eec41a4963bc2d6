/-
  The law's helpers on fractions: SameFrac, LeftFrac, TwinFrac, great.
-/
import Derived.Test.YtklidpbdgliemaaGreatDoorQwH
set_option linter.unusedSimpArgs false
set_option linter.unusedVariables false
namespace Go.Proofs.YtklidpbdgliemaaGreatDoor.Limb
open Go.RowKit Go.Sort Go.Fresh
def OwnAll (lo : Nat) (w : World) (L : List Num1) : Prop := (∀ x ∈ L, Own 80 w lo x.a x.n x.c x.o) ∧ L.Pairwise Asunder
theorem OwnAll.nil (lo : Nat) (w : World) : OwnAll lo w [] := ⟨fun x h => (by cases h), List.Pairwise.nil⟩
theorem OwnAll.below {lo : Nat} {w w' : World} {L : List Num1} (h : OwnAll lo w L) (hb : Below w.heap.size w w') : OwnAll lo w' L := ⟨fun x hx => (h.1 x hx).below hb, h.2⟩
theorem OwnAll.more {lo : Nat} {w w1 : World} {L : List Num1} (h : OwnAll lo w L) (hlo : lo ≤ w.heap.size) (hb : Below w.heap.size w w1) {x : Num1} (ho : Own 80 w1 w.heap.size x.a x.n x.c x.o) : OwnAll lo w1 (L ++ [x]) := by
  refine ⟨fun y hy => ?_, List.pairwise_append.2 ⟨h.2, List.pairwise_singleton _ _, fun y hy z hz => ?_⟩⟩
  · rcases List.mem_append.1 hy with hy | hy
    · exact (h.1 y hy).below hb
    · obtain rfl := List.mem_singleton.1 hy
      exact ho.mono hlo
  · obtain rfl := List.mem_singleton.1 hz
    intro p q hp hq e
    have h3 := ((h.1 y hy).blk hp).2.2
    have h4 := (ho.blk hq).2.1
    omega
theorem OwnAll.more2 {lo : Nat} {w w1 : World} {L : List Num1} (h : OwnAll lo w L) (hlo : lo ≤ w.heap.size) (hb : Below w.heap.size w w1) {x y : Num1} (ho : Own 80 w1 w.heap.size x.a x.n x.c x.o) (ho2 : Own 80 w1 w.heap.size y.a y.n y.c y.o) (hap : Apart2 x.a y.a) : OwnAll lo w1 (L ++ [x] ++ [y]) := by
  have h1 := h.more hlo hb ho
  refine ⟨fun z hz => ?_, List.pairwise_append.2 ⟨h1.2, List.pairwise_singleton _ _, fun z hz u hu => ?_⟩⟩
  · rcases List.mem_append.1 hz with hz | hz
    · exact h1.1 z hz
    · obtain rfl := List.mem_singleton.1 hz
      exact ho2.mono hlo
  · obtain rfl := List.mem_singleton.1 hu
    rcases List.mem_append.1 hz with hz | hz
    · intro p q hp hq e
      have h3 := ((h.1 z hz).blk hp).2.2
      have h4 := (ho2.blk hq).2.1
      omega
    · obtain rfl := List.mem_singleton.1 hz
      exact hap
theorem apart_own {lo B : Nat} {w0 V W : World} {L : List Num1} {v : Value} {xs : List Value} (hV : OwnAll lo V L) (hVB : V.heap.size = B) (hb : Below B V W) (hB : Book.Bk W B B L.length v xs) (hxs : xs = heldL L 0) (h0 : 0 < L.length) (hk : L.length ≤ 1000) (hN : ∀ x ∈ L, x.n ≤ 900000000) (hlo : w0.heap.size ≤ lo)
    (hlo2 : lo ≤ B) (hw : Below w0.heap.size w0 W) (hsz : w0.heap.size ≤ W.heap.size) :
    Calls Tryz.prog 23 #[.pointer (some ⟨B, 0, none⟩)] W fun e w' => e = .returned (.bool true) ∧ Below w0.heap.size w0 w' := by
  subst hVB
  subst hxs
  have hW := hV.below hb
  obtain ⟨g, cap, cur, rfl, hbg, hg, hnc, hcm, hcs, htake⟩ : ∃ g cap cur, v = .slice (some ⟨g, 0, none⟩) L.length cap ∧ V.heap.size ≤ g ∧ W.heap[g]? = some (.cells cur 120 (0, 0)) ∧ L.length ≤ cap ∧ cap ≤ maxLen ∧ cur.size = cap * 3 ∧ cur.toList.take (L.length * 3) = heldL L 0 := by
    rcases hB.row.2 with ⟨_, h⟩ | h
    · omega
    · exact h
  have cell : ∀ j d, j < L.length → d < 3 → cur[3 * j + d]? = (Book.held ((L.getD j ⟨0, false, none, 0, 0, fun _ => 0⟩).a) ((L.getD j ⟨0, false, none, 0, 0, fun _ => 0⟩).n) ((L.getD j ⟨0, false, none, 0, 0, fun _ => 0⟩).c) j)[d]? := by
    intro j d hj hd
    have hx : L[j]? = some (L.getD j ⟨0, false, none, 0, 0, fun _ => 0⟩) := by rw [List.getD_eq_getElem?_getD, List.getElem?_eq_getElem hj]; rfl
    have h := heldL_get L 0 j d _ hx hd
    rw [← htake, List.getElem?_take, if_pos (by omega), Array.getElem?_toList, Nat.zero_add] at h
    exact h
  have mem : ∀ j, j < L.length → L.getD j ⟨0, false, none, 0, 0, fun _ => 0⟩ ∈ L := by
    intro j hj
    rw [List.getD_eq_getElem?_getD, List.getElem?_eq_getElem hj]
    exact List.getElem_mem hj
  have hA : Book.Arr W g L.length (fun j => (L.getD j ⟨0, false, none, 0, 0, fun _ => 0⟩).a) (fun j => (L.getD j ⟨0, false, none, 0, 0, fun _ => 0⟩).n) (fun j => (L.getD j ⟨0, false, none, 0, 0, fun _ => 0⟩).c) (fun _ => .slice none 0 0) := by
    refine ⟨cap * 3, fun i => cur[i]?.getD undef, ⟨cur, hg, hcs, fun i hi => ?_⟩, fun j hj => ⟨by omega, ?_, ?_, ?_⟩⟩
    · show cur[i]? = some ((cur[i]?).getD undef)
      rw [Array.getElem?_eq_getElem (by omega)]; rfl
    · have h := cell j 0 hj (by omega)
      rw [Nat.add_zero] at h
      show (cur[3 * j]?).getD undef = _
      rw [h]; rfl
    · show (cur[3 * j + 1]?).getD undef = _
      rw [cell j 1 hj (by omega)]; rfl
    · show (cur[3 * j + 2]?).getD undef = _
      rw [cell j 2 hj (by omega)]; rfl
  have hUlt : ∀ q, Book.UA L.length (fun j => (L.getD j ⟨0, false, none, 0, 0, fun _ => 0⟩).a) q → lo ≤ q ∧ q < V.heap.size := by
    rintro q ⟨j, hj, p, hp, rfl⟩
    exact ((hV.1 _ (mem j hj)).blk hp).2
  refine (Book.apart_any V.heap.size g L.length cap _ _ _ (fun j => (L.getD j ⟨0, false, none, 0, 0, fun _ => 0⟩).o) W hk hB.box hA (fun j hj => ((hW.1 _ (mem j hj)).mono (Nat.zero_le _))) (fun j hj => hN _ (mem j hj))
    ⟨fun h => by have := (hUlt _ h).2; omega, fun h => by have := (hUlt _ h).2; omega⟩ ?_ (fun e => hB.ne (by rw [e]; rfl))).mono ?_
  · intro i hi j hj hij p q hp hq
    have key : ∀ i j, i < j → i < L.length → j < L.length → ∀ p q, (L.getD i ⟨0, false, none, 0, 0, fun _ => 0⟩).a = some p → (L.getD j ⟨0, false, none, 0, 0, fun _ => 0⟩).a = some q → p.block ≠ q.block := by
      intro i j hij hi hj p q hp hq
      have h := List.pairwise_iff_getElem.1 hV.2 i j hi hj hij
      rw [List.getD_eq_getElem?_getD, List.getElem?_eq_getElem hi] at hp
      rw [List.getD_eq_getElem?_getD, List.getElem?_eq_getElem hj] at hq
      exact h p q hp hq
    rcases Nat.lt_or_ge i j with h | h
    · exact key i j h hi hj p q hp hq
    · exact fun e => key j i (by omega) hj hi q p hq hp e.symm
  · rintro e w' ⟨rfl, hT⟩
    refine ⟨rfl, hw.trans (hT.to_below hsz fun k hk hu => ?_)⟩
    rcases hu with hu | rfl
    · have := (hUlt _ hu).1; omega
    · omega
theorem kept_nxt {W W' : World} {B k : Nat} {v : Value} {xs : List Value} {a : Option Addr} {n c : Nat} {e : Ending} (h : Book.Kept W B B k v xs a n c e W') (hB : Book.Bk W B B k v xs) (hb : B ≤ W.heap.size) :
    (∃ u, e = .returned u) ∧ ∃ v', Book.Bk W' B B (k + 1) v' (xs ++ Book.held a n c k) ∧ Below B W W' := by
  obtain ⟨hu, v', h1, -, h3⟩ := h
  refine ⟨hu, v', h1, h3.to_below hb fun q hq hU => ?_⟩
  rcases hU with rfl | hU
  · omega
  · have := (hB.row.lt q hU).1; omega
theorem book_nw (w : World) : Book.Bk (w.alloc (.cells #[.int .i64 0, .slice none 0 0, .slice none 0 0, .slice none 0 0, .slice none 0 0, .slice none 0 0, .slice none 0 0, .slice none 0 0, .slice none 0 0, .slice none 0 0, .slice none 0 0, .slice none 0 0, .slice none 0 0] 48)) w.heap.size w.heap.size 0 (.slice none 0 0) [] := by
  refine ⟨World.rowIs_alloc w #[Value.int .i64 0, .slice none 0 0, .slice none 0 0, .slice none 0 0, .slice none 0 0, .slice none 0 0, .slice none 0 0, .slice none 0 0, .slice none 0 0, .slice none 0 0, .slice none 0 0, .slice none 0 0, .slice none 0 0] 48 (Book.bkf 0 (.slice none 0 0)) (fun i hi => ?_), World.ownsRow_nil _ _ _ _, fun e => by cases e⟩
  match i, hi with
  | 0, _ => rfl
  | 1, _ => rfl
  | 2, _ => rfl
  | 3, _ => rfl
  | 4, _ => rfl
  | 5, _ => rfl
  | 6, _ => rfl
  | 7, _ => rfl
  | 8, _ => rfl
  | 9, _ => rfl
  | 10, _ => rfl
  | 11, _ => rfl
  | 12, _ => rfl
set_option maxRecDepth 100000 in
set_option maxHeartbeats 1000000 in
theorem bookFrac_any (B k : Nat) (v : Value) (xs : List Value) (s1 : Bool) (a1 : Option Addr) (n1 c1 : Nat) (s2 : Bool) (a2 : Option Addr) (n2 c2 : Nat) (w : World) (hk : k ≤ 999) (hB : Book.Bk w B B k v xs) (hbase : B ≤ w.heap.size) :
    Calls Tryz.prog 22 #[.pointer (some ⟨B, 0, none⟩), fracV s1 a1 n1 c1 s2 a2 n2 c2] w fun e w' => (∃ u, e = .returned u) ∧ ∃ v', Book.Bk w' B B (k + 2) v' (xs ++ Book.held a1 n1 c1 k ++ Book.held a2 n2 c2 (k + 1)) ∧ Below B w w' := by
  have hlt := hB.box.lt
  have hrow := hB.row.lt
  have HB1 := Lib.hid (Bxs.new w 26 [.bool s1, .slice a1 n1 c1, .bool s2, .slice a2 n2 c2])
  obtain ⟨W, hW⟩ : ∃ W, W = w.alloc (.cells #[.bool s1, .slice a1 n1 c1, .bool s2, .slice a2 n2 c2] 26) := ⟨_, rfl⟩
  have HB1 := Lib.hid (show Bxs W w.heap.size 26 [.bool s1, .slice a1 n1 c1, .bool s2, .slice a2 n2 c2] by rw [hW]; exact HB1.out)
  have HK := Lib.hid (show Book.Bk W B B k v xs by rw [hW]; exact hB.alloc _)
  have KG := Lib.hid (show Below w.heap.size w W by rw [hW]; exact (Below.refl _ _).alloc (Nat.le_refl _) _)
  have HBZ := Lib.hid (Nat.le_trans hbase KG.out.size)
  have HLT := Lib.hid (And.intro hlt hrow)
  have HBS := Lib.hid hbase
  have HW := Lib.hid hW
  clear hW hB hbase hlt hrow
  have N1 := Lib.hid (Book.num_any B B k v xs s1 a1 n1 c1 W (by omega) HK.out HBZ.out)
  go_enter Tryz.func22, Tryz.ntmps22
  go_upto_region 1 with (fail)
  rw [show w.alloc (.cells #[.bool s1, .slice a1 n1 c1, .bool s2, .slice a2 n2 c2] 26) = W from HW.out.symm]
  clear HW
  obtain ⟨x0, x1, x2, x3, x4, x5⟩ := frac_box HB1.out
  go_wp2_with fail
  with_reducible refine N1.out.mono ?_
  rintro e w1 hk
  have HB2 := Lib.hid (show Bxs w1 w.heap.size 26 [.bool s1, .slice a1 n1 c1, .bool s2, .slice a2 n2 c2] by
    obtain ⟨-, v', -, -, ht⟩ := hk
    refine HB1.out.of (ht.block _ HB1.out.lt ?_)
    rintro (h | h)
    · have := HLT.out.1; omega
    · have := (HLT.out.2 _ h).2; omega)
  obtain ⟨⟨u, rfl⟩, v', hk1, hk2⟩ := kept_nxt hk HK.out HBZ.out
  have HK := Lib.hid hk1
  have HBZ := Lib.hid (Nat.le_trans HBZ.out hk2.size)
  have KB := Lib.hid (Below.trans (KG.out.mono HBS.out) hk2)
  clear hk hk1 hk2 N1 x0 x1 x2 x3 x4 x5
  have N2 := Lib.hid (Book.num_any B B (k + 1) v' _ s2 a2 n2 c2 w1 (by omega) HK.out HBZ.out)
  obtain ⟨x0, x1, x2, x3, x4, x5⟩ := frac_box HB2.out
  go_wp2_with fail
  with_reducible refine N2.out.mono ?_
  rintro e w2 hk
  obtain ⟨⟨u2, rfl⟩, v2, hk1, hk2⟩ := kept_nxt hk HK.out HBZ.out
  have H := Lib.hid (And.intro hk1 (KB.out.trans hk2))
  clear hk hk1 hk2 N2 x0 x1 x2 x3 x4 x5
  go_wp2_with fail
  (try simp only [Exit.inBlock, Exit.then])
  refine bodyPost_end (results_none rfl _ _ _) rfl ?_
  exact ⟨⟨_, rfl⟩, v2, H.out.1, H.out.2⟩
theorem one_iff (s : Bool) (n : Nat) (o : Nat → Int) (h : okN s n o) (h0 : ∀ i, i < n → 0 ≤ o i ∧ o i ≤ 4294967295) : valN s n o = 1 ↔ s = false ∧ n = 1 ∧ o 0 = 1 := by
  obtain ⟨f1, f2, f3⟩ := of_facts s n o h h0
  constructor
  · intro e
    rw [e] at f1 f2 f3
    have hl : lenB (Int.natAbs 1) = 1 := by rw [show Int.natAbs 1 = 1 from rfl, lenB_pos (by decide), show 1 / 1000000000 = 0 from rfl, lenB_zero]
    have hn : n = 1 := by omega
    subst hn
    refine ⟨by rw [← f1]; rfl, rfl, ?_⟩
    rw [f3 0 (by omega)]
    show ((dg 1 0 : Nat) : Int) = 1
    rw [dg_zero]; rfl
  · rintro ⟨rfl, rfl, e⟩
    unfold valN
    rw [if_pos h, if_neg (by simp)]
    show (0 : Int) + o 0 * ((pw 0 : Nat) : Int) = 1
    rw [e, pw_zero]; rfl
def FracF (w : World) (p q : Int) (e : Ending) (w' : World) : Prop :=
  ∃ a1 c1 a2 c2, e = .returned (fracV (decide (p < 0)) a1 (lenB p.natAbs) c1 (decide (q < 0)) a2 (lenB q.natAbs) c2) ∧ Own 80 w' w.heap.size a1 (lenB p.natAbs) c1 (dgi p.natAbs) ∧
    Own 80 w' w.heap.size a2 (lenB q.natAbs) c2 (dgi q.natAbs) ∧ Below w.heap.size w w'
open Classical in
set_option maxRecDepth 100000 in
set_option maxHeartbeats 2000000 in
theorem rone_any (s1 : Bool) (a1 : Option Addr) (n1 c1 : Nat) (o1 : Nat → Int) (w : World) (h1 : Rd w a1 n1 o1) (hn1 : n1 ≤ 100000000) (hc1 : n1 ≤ c1) (hk : okN s1 n1 o1) :
    Calls Tryz.prog 49 #[numV s1 a1 n1 c1] w fun e w' => e = .returned (.bool (decide (valN s1 n1 o1 = 1))) ∧ Below w.heap.size w w' := by
  have RES := Lib.hid (one_iff s1 n1 o1 hk h1.rng)
  have HB1 := Lib.hid (Bxs.new (w) 24 [.bool s1, .slice a1 n1 c1])
  obtain ⟨W, hW⟩ : ∃ W, W = w.alloc (.cells #[.bool s1, .slice a1 n1 c1] 24) := ⟨_, rfl⟩
  have KG := Lib.hid (show Below w.heap.size w W by rw [hW]; exact (Below.refl _ _).alloc (Nat.le_refl _) _)
  have HWS := Lib.hid (show w.heap.size + 1 ≤ W.heap.size by rw [hW]; simp only [World.size_alloc]; omega)
  have HB1 := Lib.hid (show Bxs W (w.heap.size) 24 [.bool s1, .slice a1 n1 c1] by have h := HB1.out; rw [hW]; exact h)
  have HW := Lib.hid hW
  clear hW
  have HR := Lib.hid (h1.below KG.out)
  clear h1 hk
  cases s1 with
  | true =>
    rw [decide_eq_false (fun h => by cases (RES.out.1 h).1)]
    clear RES
    go_enter Tryz.func49, Tryz.ntmps49
    go_upto_region 1 with (fail)
    rw [show w.alloc (.cells #[.bool true, .slice a1 n1 c1] 24) = W from HW.out.symm]
    clear HW
    have b1c0 := HB1.out.cell (i := 0) rfl
    have b1c1 := HB1.out.cell (i := 1) rfl
    have b1f := HB1.out.fz
    have b1l := HB1.out.lt
    go_wp2_with fail
    clear b1c0 b1c1 b1f b1l
    go_ret
    exact ⟨rfl, KG.out⟩
  | false =>
    by_cases hn : n1 = 1
    · subst hn
      obtain ⟨b, off, rfl, hc⟩ := HR.out.cells (by omega)
      have hc := hc 0 (by omega)
      rw [show decide (valN false 1 o1 = 1) = decide (o1 0 = 1) from decide_eq_decide.2 ⟨fun h => (RES.out.1 h).2.2, fun h => RES.out.2 ⟨rfl, rfl, h⟩⟩]
      clear RES
      change _ = some (Value.int .u32 (o1 0)) at hc
      obtain ⟨t, ht⟩ : ∃ t, t = o1 0 := ⟨_, rfl⟩
      rw [← ht] at hc ⊢
      clear ht
      simp only [Nat.add_zero] at hc
      go_enter Tryz.func49, Tryz.ntmps49
      go_upto_region 1 with (fail)
      rw [show w.alloc (.cells #[.bool false, .slice (some ⟨b, off, none⟩) 1 c1] 24) = W from HW.out.symm]
      clear HW
      have b1c0 := HB1.out.cell (i := 0) rfl
      have b1c1 := HB1.out.cell (i := 1) rfl
      have b1f := HB1.out.fz
      have b1l := HB1.out.lt
      go_wp2_with fail
      clear b1c0 b1c1 b1f b1l
      go_ret
      exact ⟨by first | rfl | (congr 1; simp), KG.out⟩
    · rw [decide_eq_false (fun h => hn (RES.out.1 h).2.1)]
      clear RES
      have hn' : ¬ (n1 : Int) = 1 := by omega
      clear hn
      go_enter Tryz.func49, Tryz.ntmps49
      go_upto_region 1 with (fail)
      rw [show w.alloc (.cells #[.bool false, .slice a1 n1 c1] 24) = W from HW.out.symm]
      clear HW
      have b1c0 := HB1.out.cell (i := 0) rfl
      have b1c1 := HB1.out.cell (i := 1) rfl
      have b1f := HB1.out.fz
      have b1l := HB1.out.lt
      go_wp2_with fail
      clear b1c0 b1c1 b1f b1l
      go_ret
      exact ⟨rfl, KG.out⟩
open Classical in
set_option maxRecDepth 100000 in
set_option maxHeartbeats 2000000 in
theorem rfcheck_any (s1 : Bool) (a1 : Option Addr) (n1 c1 : Nat) (o1 : Nat → Int) (s2 : Bool) (a2 : Option Addr) (n2 c2 : Nat) (o2 : Nat → Int) (w : World)
    (h1 : Rd w a1 n1 o1) (hn1 : n1 ≤ 5000000) (hc1 : n1 ≤ c1) (h2 : Rd w a2 n2 o2) (hn2 : n2 ≤ 5000000) (hc2 : n2 ≤ c2) :
    Calls Tryz.prog 15 #[fracV s1 a1 n1 c1 s2 a2 n2 c2] w fun e w' => e = .returned (.bool (decide (okF s1 n1 o1 s2 n2 o2))) ∧ Below w.heap.size w w' := by
  have HB := Lib.hid (Bxs.new w 26 [.bool s1, .slice a1 n1 c1, .bool s2, .slice a2 n2 c2])
  obtain ⟨W, hW⟩ : ∃ W, W = w.alloc (.cells #[.bool s1, .slice a1 n1 c1, .bool s2, .slice a2 n2 c2] 26) := ⟨_, rfl⟩
  have HBW := Lib.hid (show Below w.heap.size w W by rw [hW]; exact (Below.refl _ _).alloc (Nat.le_refl _) _)
  rw [show w.alloc (.cells (List.toArray [.bool s1, .slice a1 n1 c1, .bool s2, .slice a2 n2 c2]) 26) = W from hW.symm] at HB
  have HW := Lib.hid hW
  have GB := Lib.hid (Below.refl W.heap.size W)
  have CK1 := Lib.hid (fun (w' : World) (hb : Below W.heap.size W w') => rcheck_any s1 a1 n1 c1 o1 w' (h1.below (HBW.out.trans (hb.mono HBW.out.size))) (by omega))
  have CK2 := Lib.hid (fun (w' : World) (hb : Below W.heap.size W w') => rcheck_any s2 a2 n2 c2 o2 w' (h2.below (HBW.out.trans (hb.mono HBW.out.size))) (by omega))
  have SG := Lib.hid (fun (w' : World) (hb : Below W.heap.size W w') => rsign_any s2 a2 n2 c2 o2 w' (h2.below (HBW.out.trans (hb.mono HBW.out.size))) (by omega) hc2)
  have GC := Lib.hid (fun (w' : World) (hb : Below W.heap.size W w') => rgcd_any s1 a1 n1 c1 o1 s2 a2 n2 c2 o2 w' (h1.below (HBW.out.trans (hb.mono HBW.out.size))) (by omega) hc1 (h2.below (HBW.out.trans (hb.mono HBW.out.size))) (by omega) hc2)
  have HGL := Lib.hid (show lenB (Int.gcd (valN s1 n1 o1) (valN s2 n2 o2)) ≤ 10000000 from by
    obtain ⟨_, _, _, l1, _⟩ := fit_any s1 a1 n1 c1 o1 w h1 (by omega) hc1
    obtain ⟨_, _, _, l2, _⟩ := fit_any s2 a2 n2 c2 o2 w h2 (by omega) hc2
    have := gcd_len (valN s1 n1 o1) (valN s2 n2 o2)
    omega)
  have HRD := Lib.hid (fun (w' : World) (hb : Below W.heap.size W w') => h2.below (HBW.out.trans (hb.mono HBW.out.size)))
  clear h1 h2 hW
  by_cases k1 : okN s1 n1 o1
  · rw [decide_eq_true k1] at CK1
    by_cases k2 : okN s2 n2 o2
    · rw [decide_eq_true k2] at CK2
      obtain ⟨cs, hcs⟩ : ∃ cs, cs = cmpZ (valN s2 n2 o2) 0 := ⟨_, rfl⟩
      rw [← hcs] at SG
      by_cases k3 : 0 < valN s2 n2 o2
      · have hc3 : decide (0 < cs) = true := by rw [hcs, cmpZ_gt k3]; rfl
        obtain ⟨G, hG⟩ : ∃ G : Int, G = ((Int.gcd (valN s1 n1 o1) (valN s2 n2 o2) : Nat) : Int) := ⟨_, rfl⟩
        rw [← hG] at GC
        have HGN := Lib.hid (show lenB G.natAbs ≤ 10000000 by rw [hG, Int.natAbs_natCast]; exact HGL.out)
        have RES := Lib.hid (okF_dec s1 n1 o1 s2 n2 o2 k1 k2 k3)
        rw [← hG] at RES
        have RO := Lib.hid (fun (w' : World) (hb : Below W.heap.size W w') => rone_any s2 a2 n2 c2 o2 w' (HRD.out w' hb) (by omega) hc2 k2)
        have HD := Lib.hid (show (decide (valN s2 n2 o2 = 1) = true ∧ decide (okF s1 n1 o1 s2 n2 o2) = true) ∨ decide (valN s2 n2 o2 = 1) = false by
          by_cases h1 : valN s2 n2 o2 = 1
          · exact Or.inl ⟨decide_eq_true h1, by rw [RES.out, hG, h1]; exact decide_eq_true (by rw [Int.gcd_one_right]; rfl)⟩
          · exact Or.inr (decide_eq_false h1))
        obtain ⟨dv, hdv⟩ : ∃ dv, dv = decide (valN s2 n2 o2 = 1) := ⟨_, rfl⟩
        rw [← hdv] at RO HD
        clear hdv hG hcs k1 k2 k3 HRD
        go_enter Tryz.func15, Tryz.ntmps15
        go_upto_region 1 with (fail)
        rw [show w.alloc (.cells #[.bool s1, .slice a1 n1 c1, .bool s2, .slice a2 n2 c2] 26) = W from HW.out.symm]
        obtain ⟨x0, x1, x2, x3, x4, x5⟩ := frac_box HB.out
        go_wp2_with fail
        refine (CK1.out _ GB.out).mono ?_
        rintro e w' ⟨rfl, hb⟩
        have GB := Lib.hid (GB.out.trans (hb.mono GB.out.size))
        clear hb x0 x1 x2 x3 x4 x5
        obtain ⟨x0, x1, x2, x3, x4, x5⟩ := frac_box (HB.out.below GB.out HB.out.lt)
        obtain ⟨w1, rfl⟩ : ∃ w1, w1 = w' := ⟨_, rfl⟩
        go_wp2_with fail
        refine (CK2.out _ GB.out).mono ?_
        rintro e w' ⟨rfl, hb⟩
        have GB := Lib.hid (GB.out.trans (hb.mono GB.out.size))
        clear hb x0 x1 x2 x3 x4 x5
        obtain ⟨x0, x1, x2, x3, x4, x5⟩ := frac_box (HB.out.below GB.out HB.out.lt)
        obtain ⟨w1, rfl⟩ : ∃ w1, w1 = w' := ⟨_, rfl⟩
        go_wp2_with fail
        refine (SG.out _ GB.out).mono ?_
        rintro e w' ⟨rfl, hb⟩
        have GB := Lib.hid (GB.out.trans (hb.mono GB.out.size))
        clear hb x0 x1 x2 x3 x4 x5
        obtain ⟨x0, x1, x2, x3, x4, x5⟩ := frac_box (HB.out.below GB.out HB.out.lt)
        obtain ⟨w1, rfl⟩ : ∃ w1, w1 = w' := ⟨_, rfl⟩
        go_wp2_with fail
        refine (RO.out _ GB.out).mono ?_
        rintro e w' ⟨rfl, hb⟩
        have GB := Lib.hid (GB.out.trans (hb.mono GB.out.size))
        clear hb RO x0 x1 x2 x3 x4 x5
        rcases HD.out with ⟨h1, hr⟩ | h1
        · subst h1
          have RES := Lib.hid hr
          clear hr HD
          go_wp2_with fail
          go_ret
          exact ⟨by rw [RES.out]; rfl, HBW.out.trans (GB.out.mono HBW.out.size)⟩
        · subst h1
          clear HD
          obtain ⟨x0, x1, x2, x3, x4, x5⟩ := frac_box (HB.out.below GB.out HB.out.lt)
          go_wp2_with fail
          refine (GC.out _ GB.out).mono ?_
          rintro e w2 ⟨x, xc, rfl, ho, hb⟩
          have UN := Lib.hid (rone_any (decide (G < 0)) x (lenB G.natAbs) xc (dgi G.natAbs) w2 ho.rd (by have := HGN.out; omega) ho.le (canon_ok G))
          rw [canon_val] at UN
          have GB := Lib.hid (GB.out.trans (hb.mono GB.out.size))
          clear hb ho x0 x1 x2 x3 x4 x5
          go_wp2_with fail
          refine UN.out.mono ?_
          rintro e w3 ⟨rfl, hb⟩
          have GB := Lib.hid (GB.out.trans (hb.mono GB.out.size))
          clear hb UN
          go_wp2_with fail
          go_ret
          exact ⟨by rw [RES.out]; first | rfl | (congr 1; simp), HBW.out.trans (GB.out.mono HBW.out.size)⟩
      · have hc3 : decide (0 < cs) = false := by
          rw [hcs]
          refine decide_eq_false ?_
          rcases Int.lt_trichotomy (valN s2 n2 o2) 0 with h | h | h
          · rw [cmpZ_lt h]; omega
          · rw [cmpZ_eq h]; omega
          · exact absurd h k3
        have RES := Lib.hid (show decide (okF s1 n1 o1 s2 n2 o2) = false from decide_eq_false fun h => k3 h.2.2.1)
        clear hcs k1 k2 k3
        go_enter Tryz.func15, Tryz.ntmps15
        go_upto_region 1 with (fail)
        rw [show w.alloc (.cells #[.bool s1, .slice a1 n1 c1, .bool s2, .slice a2 n2 c2] 26) = W from HW.out.symm]
        obtain ⟨x0, x1, x2, x3, x4, x5⟩ := frac_box HB.out
        go_wp2_with fail
        refine (CK1.out _ GB.out).mono ?_
        rintro e w' ⟨rfl, hb⟩
        have GB := Lib.hid (GB.out.trans (hb.mono GB.out.size))
        clear hb x0 x1 x2 x3 x4 x5
        obtain ⟨x0, x1, x2, x3, x4, x5⟩ := frac_box (HB.out.below GB.out HB.out.lt)
        obtain ⟨w1, rfl⟩ : ∃ w1, w1 = w' := ⟨_, rfl⟩
        go_wp2_with fail
        refine (CK2.out _ GB.out).mono ?_
        rintro e w' ⟨rfl, hb⟩
        have GB := Lib.hid (GB.out.trans (hb.mono GB.out.size))
        clear hb x0 x1 x2 x3 x4 x5
        obtain ⟨x0, x1, x2, x3, x4, x5⟩ := frac_box (HB.out.below GB.out HB.out.lt)
        obtain ⟨w1, rfl⟩ : ∃ w1, w1 = w' := ⟨_, rfl⟩
        go_wp2_with fail
        refine (SG.out _ GB.out).mono ?_
        rintro e w' ⟨rfl, hb⟩
        have GB := Lib.hid (GB.out.trans (hb.mono GB.out.size))
        clear hb x0 x1 x2 x3 x4 x5
        obtain ⟨x0, x1, x2, x3, x4, x5⟩ := frac_box (HB.out.below GB.out HB.out.lt)
        obtain ⟨w1, rfl⟩ : ∃ w1, w1 = w' := ⟨_, rfl⟩
        go_wp2_with fail
        go_ret
        exact ⟨by rw [RES.out]; rfl, HBW.out.trans (GB.out.mono HBW.out.size)⟩
    · rw [decide_eq_false k2] at CK2
      have RES := Lib.hid (show decide (okF s1 n1 o1 s2 n2 o2) = false from decide_eq_false fun h => k2 h.2.1)
      clear k1 k2
      go_enter Tryz.func15, Tryz.ntmps15
      go_upto_region 1 with (fail)
      rw [show w.alloc (.cells #[.bool s1, .slice a1 n1 c1, .bool s2, .slice a2 n2 c2] 26) = W from HW.out.symm]
      obtain ⟨x0, x1, x2, x3, x4, x5⟩ := frac_box HB.out
      go_wp2_with fail
      refine (CK1.out _ GB.out).mono ?_
      rintro e w' ⟨rfl, hb⟩
      have GB := Lib.hid (GB.out.trans (hb.mono GB.out.size))
      clear hb x0 x1 x2 x3 x4 x5
      obtain ⟨x0, x1, x2, x3, x4, x5⟩ := frac_box (HB.out.below GB.out HB.out.lt)
      obtain ⟨w1, rfl⟩ : ∃ w1, w1 = w' := ⟨_, rfl⟩
      go_wp2_with fail
      refine (CK2.out _ GB.out).mono ?_
      rintro e w' ⟨rfl, hb⟩
      have GB := Lib.hid (GB.out.trans (hb.mono GB.out.size))
      clear hb x0 x1 x2 x3 x4 x5
      obtain ⟨x0, x1, x2, x3, x4, x5⟩ := frac_box (HB.out.below GB.out HB.out.lt)
      obtain ⟨w1, rfl⟩ : ∃ w1, w1 = w' := ⟨_, rfl⟩
      go_wp2_with fail
      go_ret
      exact ⟨by rw [RES.out]; rfl, HBW.out.trans (GB.out.mono HBW.out.size)⟩
  · rw [decide_eq_false k1] at CK1
    have RES := Lib.hid (show decide (okF s1 n1 o1 s2 n2 o2) = false from decide_eq_false fun h => k1 h.1)
    clear k1
    go_enter Tryz.func15, Tryz.ntmps15
    go_upto_region 1 with (fail)
    rw [show w.alloc (.cells #[.bool s1, .slice a1 n1 c1, .bool s2, .slice a2 n2 c2] 26) = W from HW.out.symm]
    obtain ⟨x0, x1, x2, x3, x4, x5⟩ := frac_box HB.out
    go_wp2_with fail
    refine (CK1.out _ GB.out).mono ?_
    rintro e w' ⟨rfl, hb⟩
    have GB := Lib.hid (GB.out.trans (hb.mono GB.out.size))
    clear hb x0 x1 x2 x3 x4 x5
    obtain ⟨x0, x1, x2, x3, x4, x5⟩ := frac_box (HB.out.below GB.out HB.out.lt)
    obtain ⟨w1, rfl⟩ : ∃ w1, w1 = w' := ⟨_, rfl⟩
    go_wp2_with fail
    go_ret
    exact ⟨by rw [RES.out]; rfl, HBW.out.trans (GB.out.mono HBW.out.size)⟩
open Classical in
set_option maxRecDepth 100000 in
set_option maxHeartbeats 1000000 in
theorem rfof_any (n : Int) (w : World) (h1 : -9223372036854775808 ≤ n) (h2 : n ≤ 9223372036854775807) :
    Calls Tryz.prog 121 #[.int .i64 n] w (FracF w n 1) := by
  obtain ⟨one, hone⟩ : ∃ one : Int, one = 1 := ⟨_, rfl⟩
  have OF1 := Lib.hid (fun (w' : World) => rof64_any n w' h1 h2)
  have OF2 := Lib.hid (show ∀ w', Calls Tryz.prog 175 #[.int .i64 1] w' (ResF w' one) from fun w' => by rw [hone]; exact rof64_any 1 w' (by omega) (by omega))
  rw [← hone]
  have HB := Lib.hid (Bxs.new w 26 [.bool false, .slice none 0 0, .bool false, .slice none 0 0])
  have HBW := Lib.hid (show Below w.heap.size w (w.alloc (.cells #[.bool false, .slice none 0 0, .bool false, .slice none 0 0] 26)) from (Below.refl _ _).alloc (Nat.le_refl _) _)
  obtain ⟨W, hW⟩ : ∃ W, W = w.alloc (.cells #[.bool false, .slice none 0 0, .bool false, .slice none 0 0] 26) := ⟨_, rfl⟩
  rw [show w.alloc (.cells (List.toArray [.bool false, .slice none 0 0, .bool false, .slice none 0 0]) 26) = W from hW.symm] at HB
  rw [← hW] at HBW
  have HW := Lib.hid hW
  clear h1 h2 hone hW
  go_enter Tryz.func121, Tryz.ntmps121
  go_upto_region 1 with (fail)
  rw [show w.alloc (.cells #[.bool false, .slice none 0 0, .bool false, .slice none 0 0] 26) = W from HW.out.symm]
  go_wp2_with fail
  refine (OF1.out _).mono ?_
  rintro e w1 ⟨a1, d1, rfl, ho1, hb1⟩
  have HO1 := Lib.hid ho1
  have GB := Lib.hid hb1
  clear ho1 hb1
  go_wp2_with fail
  refine (OF2.out _).mono ?_
  rintro e w2 ⟨a2, d2, rfl, ho2, hb2⟩
  have HO1 := Lib.hid (HO1.out.below hb2)
  have HO2 := Lib.hid (ho2.mono GB.out.size)
  have GB := Lib.hid (GB.out.trans (hb2.mono GB.out.size))
  have HB2 := Lib.hid (HB.out.below GB.out HB.out.lt)
  clear ho2 hb2
  obtain ⟨x0, x1, x2, x3, x4, x5⟩ := frac_box HB2.out
  go_wp2_with fail
  have hlt := HB.out.lt
  have hG := HBW.out.trans (GB.out.mono HBW.out.size)
  refine bodyPost_ret (results_cell rfl _ _ _ _ _ _ _ rfl ((((HB2.out.put 0 _).put 1 _).put 2 _).put 3 _) Tryz.underlying26 rfl (by kernel_rfl)) rfl ⟨a1, d1, a2, d2, rfl, ?_, ?_, ?_⟩
  · exact ((((HO1.out.other (by dsimp only; omega) _).other (by dsimp only; omega) _).other (by dsimp only; omega) _).other (by dsimp only; omega) _).mono (by omega)
  · exact ((((HO2.out.other (by dsimp only; omega) _).other (by dsimp only; omega) _).other (by dsimp only; omega) _).other (by dsimp only; omega) _).mono (by omega)
  · exact (((hG.setCell (by dsimp only; omega) _).setCell (by dsimp only; omega) _).setCell (by dsimp only; omega) _).setCell (by dsimp only; omega) _
open Classical in
set_option maxRecDepth 100000 in
set_option maxHeartbeats 2000000 in
theorem rfit_ok (s1 : Bool) (a1 : Option Addr) (n1 c1 : Nat) (o1 : Nat → Int) (s2 : Bool) (a2 : Option Addr) (n2 c2 : Nat) (o2 : Nat → Int) (w : World) (B0 : Nat) (hB0 : B0 ≤ w.heap.size)
    (h1 : Rd w a1 n1 o1) (hn1 : n1 ≤ 5000000) (hc1 : n1 ≤ c1) (f1 : 0 < n1 → ∀ p, a1 = some p → p.block < B0) (h2 : Rd w a2 n2 o2) (hn2 : n2 ≤ 5000000) (hc2 : n2 ≤ c2) (f2 : 0 < n2 → ∀ p, a2 = some p → p.block < B0) (hk : okF s1 n1 o1 s2 n2 o2) :
    Calls Tryz.prog 52 #[fracV s1 a1 n1 c1 s2 a2 n2 c2] w (FracS w B0 (valN s1 n1 o1) (valN s2 n2 o2)) := by
  have CK := Lib.hid (fun (w' : World) (hb : Below w.heap.size w w') => rfcheck_any s1 a1 n1 c1 o1 s2 a2 n2 c2 o2 w' (h1.below hb) hn1 hc1 (h2.below hb) hn2 hc2)
  rw [decide_eq_true hk] at CK
  obtain ⟨t1, t2, t3⟩ := of_facts s1 n1 o1 hk.1 h1.rng
  obtain ⟨u1, u2, u3⟩ := of_facts s2 n2 o2 hk.2.1 h2.rng
  generalize valN s1 n1 o1 = z1 at t1 t2 t3 ⊢
  generalize valN s2 n2 o2 = z2 at u1 u2 u3 ⊢
  have HR := Lib.hid (And.intro (And.intro h1 f1) (And.intro h2 f2))
  have HT := Lib.hid (And.intro (And.intro t1 (And.intro t2 t3)) (And.intro u1 (And.intro u2 u3)))
  clear hk h1 h2 f1 f2 t1 t2 t3 u1 u2 u3
  have HB := Lib.hid ((Bxs.new w 26 [.bool s1, .slice a1 n1 c1, .bool s2, .slice a2 n2 c2]).alloc (.cells #[.bool false, .slice none 0 0, .bool false, .slice none 0 0] 26))
  have HBR := Lib.hid (Bxs.new (w.alloc (.cells #[.bool s1, .slice a1 n1 c1, .bool s2, .slice a2 n2 c2] 26)) 26 [.bool false, .slice none 0 0, .bool false, .slice none 0 0])
  obtain ⟨W, hW⟩ : ∃ W, W = (w.alloc (.cells #[.bool s1, .slice a1 n1 c1, .bool s2, .slice a2 n2 c2] 26)).alloc (.cells #[.bool false, .slice none 0 0, .bool false, .slice none 0 0] 26) := ⟨_, rfl⟩
  have HBW := Lib.hid (show Below w.heap.size w W by rw [hW]; exact ((Below.refl _ _).alloc (Nat.le_refl _) _).alloc (by simp) _)
  rw [show (w.alloc (.cells (List.toArray [.bool s1, .slice a1 n1 c1, .bool s2, .slice a2 n2 c2]) 26)).alloc (.cells #[.bool false, .slice none 0 0, .bool false, .slice none 0 0] 26) = W from hW.symm] at HB
  rw [show (w.alloc (.cells #[.bool s1, .slice a1 n1 c1, .bool s2, .slice a2 n2 c2] 26)).alloc (.cells (List.toArray [.bool false, .slice none 0 0, .bool false, .slice none 0 0]) 26) = W from hW.symm, World.size_alloc] at HBR
  have HW := Lib.hid hW
  clear hW
  go_enter Tryz.func52, Tryz.ntmps52
  go_upto_region 1 with (fail)
  rw [show (w.alloc (.cells #[.bool s1, .slice a1 n1 c1, .bool s2, .slice a2 n2 c2] 26)).alloc (.cells #[.bool false, .slice none 0 0, .bool false, .slice none 0 0] 26) = W from HW.out.symm]
  obtain ⟨x0, x1, x2, x3, x4, x5⟩ := frac_box HB.out
  go_wp2_with fail
  refine (CK.out _ HBW.out).mono ?_
  rintro e w1 ⟨rfl, hb1⟩
  have GB := Lib.hid hb1
  have HB1 := Lib.hid (HB.out.below hb1 HB.out.lt)
  have HR1 := Lib.hid (HBR.out.below hb1 HBR.out.lt)
  clear hb1 CK x0 x1 x2 x3 x4 x5
  obtain ⟨x0, x1, x2, x3, x4, x5⟩ := frac_box HB1.out
  obtain ⟨y0, y1, y2, y3, y4, y5⟩ := frac_box HR1.out
  go_wp2_with fail
  have hlt := HB.out.lt
  have hlt2 := HBR.out.lt
  have hG := HBW.out.trans (GB.out.mono HBW.out.size)
  refine bodyPost_ret (results_cell rfl _ _ _ _ _ _ _ rfl ((((HR1.out.put 0 _).put 1 _).put 2 _).put 3 _) Tryz.underlying26 rfl (by kernel_rfl)) rfl ⟨a1, c1, a2, c2, ?_, ?_, ?_, ?_, ?_, ?_⟩
  · rw [HT.out.1.1, HT.out.1.2.1, HT.out.2.1, HT.out.2.2.1]; rfl
  · rw [HT.out.1.2.1]
    have r : RdS w1 B0 (w.heap.size + 2) a1 n1 (dgi z1.natAbs) := ⟨(HR.out.1.1.congr HT.out.1.2.2).below hG, fun h0 p hp => Or.inl (HR.out.1.2 h0 p hp)⟩
    exact ((((r.set (by dsimp only; omega) (by dsimp only; omega) _).set (by dsimp only; omega) (by dsimp only; omega) _).set (by dsimp only; omega) (by dsimp only; omega) _).set (by dsimp only; omega) (by dsimp only; omega) _).up (by omega)
  · rw [HT.out.1.2.1]; exact hc1
  · rw [HT.out.2.2.1]
    have r : RdS w1 B0 (w.heap.size + 2) a2 n2 (dgi z2.natAbs) := ⟨(HR.out.2.1.congr HT.out.2.2.2).below hG, fun h0 p hp => Or.inl (HR.out.2.2 h0 p hp)⟩
    exact ((((r.set (by dsimp only; omega) (by dsimp only; omega) _).set (by dsimp only; omega) (by dsimp only; omega) _).set (by dsimp only; omega) (by dsimp only; omega) _).set (by dsimp only; omega) (by dsimp only; omega) _).up (by omega)
  · rw [HT.out.2.2.1]; exact hc2
  · exact (((hG.setCell (by dsimp only; omega) _).setCell (by dsimp only; omega) _).setCell (by dsimp only; omega) _).setCell (by dsimp only; omega) _
open Classical in
set_option maxRecDepth 100000 in
set_option maxHeartbeats 2000000 in
theorem rfit_not (s1 : Bool) (a1 : Option Addr) (n1 c1 : Nat) (o1 : Nat → Int) (s2 : Bool) (a2 : Option Addr) (n2 c2 : Nat) (o2 : Nat → Int) (w : World) (B0 : Nat)
    (h1 : Rd w a1 n1 o1) (hn1 : n1 ≤ 5000000) (hc1 : n1 ≤ c1) (h2 : Rd w a2 n2 o2) (hn2 : n2 ≤ 5000000) (hc2 : n2 ≤ c2) (hk : ¬ okF s1 n1 o1 s2 n2 o2) :
    Calls Tryz.prog 52 #[fracV s1 a1 n1 c1 s2 a2 n2 c2] w (FracS w B0 0 1) := by
  have CK := Lib.hid (fun (w' : World) (hb : Below w.heap.size w w') => rfcheck_any s1 a1 n1 c1 o1 s2 a2 n2 c2 o2 w' (h1.below hb) hn1 hc1 (h2.below hb) hn2 hc2)
  rw [decide_eq_false hk] at CK
  obtain ⟨one, hone⟩ : ∃ one : Int, one = 1 := ⟨_, rfl⟩
  obtain ⟨zer, hzer⟩ : ∃ zer : Int, zer = 0 := ⟨_, rfl⟩
  have OF := Lib.hid (fun (w' : World) => rfof_any 0 w' (by omega) (by omega))
  rw [← hone, ← hzer]
  have OF := Lib.hid (show ∀ w', Calls Tryz.prog 121 #[.int .i64 0] w' (FracF w' zer one) from fun w' => by rw [hone, hzer]; exact OF.out w')
  clear hk h1 h2 hone hzer
  have HB := Lib.hid ((Bxs.new w 26 [.bool s1, .slice a1 n1 c1, .bool s2, .slice a2 n2 c2]).alloc (.cells #[.bool false, .slice none 0 0, .bool false, .slice none 0 0] 26))
  have HBR := Lib.hid (Bxs.new (w.alloc (.cells #[.bool s1, .slice a1 n1 c1, .bool s2, .slice a2 n2 c2] 26)) 26 [.bool false, .slice none 0 0, .bool false, .slice none 0 0])
  obtain ⟨W, hW⟩ : ∃ W, W = (w.alloc (.cells #[.bool s1, .slice a1 n1 c1, .bool s2, .slice a2 n2 c2] 26)).alloc (.cells #[.bool false, .slice none 0 0, .bool false, .slice none 0 0] 26) := ⟨_, rfl⟩
  have HBW := Lib.hid (show Below w.heap.size w W by rw [hW]; exact ((Below.refl _ _).alloc (Nat.le_refl _) _).alloc (by simp) _)
  rw [show (w.alloc (.cells (List.toArray [.bool s1, .slice a1 n1 c1, .bool s2, .slice a2 n2 c2]) 26)).alloc (.cells #[.bool false, .slice none 0 0, .bool false, .slice none 0 0] 26) = W from hW.symm] at HB
  rw [show (w.alloc (.cells #[.bool s1, .slice a1 n1 c1, .bool s2, .slice a2 n2 c2] 26)).alloc (.cells (List.toArray [.bool false, .slice none 0 0, .bool false, .slice none 0 0]) 26) = W from hW.symm, World.size_alloc] at HBR
  have HW := Lib.hid hW
  clear hW
  go_enter Tryz.func52, Tryz.ntmps52
  go_upto_region 1 with (fail)
  rw [show (w.alloc (.cells #[.bool s1, .slice a1 n1 c1, .bool s2, .slice a2 n2 c2] 26)).alloc (.cells #[.bool false, .slice none 0 0, .bool false, .slice none 0 0] 26) = W from HW.out.symm]
  obtain ⟨x0, x1, x2, x3, x4, x5⟩ := frac_box HB.out
  go_wp2_with fail
  refine (CK.out _ HBW.out).mono ?_
  rintro e w1 ⟨rfl, hb1⟩
  have GB := Lib.hid hb1
  clear hb1 CK x0 x1 x2 x3 x4 x5
  go_wp2_with fail
  refine (OF.out w1).mono ?_
  rintro e w2 ⟨t1, d1, t2, d2, rfl, ho1, ho2, hb2⟩
  have HO := Lib.hid (And.intro ho1 ho2)
  have hs1 := GB.out.size
  have GB := Lib.hid (GB.out.trans (hb2.mono GB.out.size))
  have HR1 := Lib.hid (HBR.out.below GB.out HBR.out.lt)
  have HS1 := Lib.hid hs1
  clear ho1 ho2 hb2 hs1
  obtain ⟨y0, y1, y2, y3, y4, y5⟩ := frac_box HR1.out
  go_wp2_with fail
  have hlt := HB.out.lt
  have hlt2 := HBR.out.lt
  have hs1 := HS1.out
  have hG := HBW.out.trans (GB.out.mono HBW.out.size)
  refine bodyPost_ret (results_cell rfl _ _ _ _ _ _ _ rfl ((((HR1.out.put 0 _).put 1 _).put 2 _).put 3 _) Tryz.underlying26 rfl (by kernel_rfl)) rfl ⟨t1, d1, t2, d2, rfl, ?_, HO.out.1.le, ?_, HO.out.2.le, ?_⟩
  · exact (((((HO.out.1.other (by dsimp only; omega) _).other (by dsimp only; omega) _).other (by dsimp only; omega) _).other (by dsimp only; omega) _).rdS B0 w.heap.size (by omega))
  · exact (((((HO.out.2.other (by dsimp only; omega) _).other (by dsimp only; omega) _).other (by dsimp only; omega) _).other (by dsimp only; omega) _).rdS B0 w.heap.size (by omega))
  · exact (((hG.setCell (by dsimp only; omega) _).setCell (by dsimp only; omega) _).setCell (by dsimp only; omega) _).setCell (by dsimp only; omega) _
theorem rfit_any (s1 : Bool) (a1 : Option Addr) (n1 c1 : Nat) (o1 : Nat → Int) (s2 : Bool) (a2 : Option Addr) (n2 c2 : Nat) (o2 : Nat → Int) (w : World) (B0 : Nat) (hB0 : B0 ≤ w.heap.size)
    (h1 : Rd w a1 n1 o1) (hn1 : n1 ≤ 5000000) (hc1 : n1 ≤ c1) (f1 : 0 < n1 → ∀ p, a1 = some p → p.block < B0) (h2 : Rd w a2 n2 o2) (hn2 : n2 ≤ 5000000) (hc2 : n2 ≤ c2) (f2 : 0 < n2 → ∀ p, a2 = some p → p.block < B0) :
    Calls Tryz.prog 52 #[fracV s1 a1 n1 c1 s2 a2 n2 c2] w (FracS w B0 (valF s1 n1 o1 s2 n2 o2).num ((valF s1 n1 o1 s2 n2 o2).den : Int)) := by
  by_cases hk : okF s1 n1 o1 s2 n2 o2
  · obtain ⟨e1, e2⟩ := valF_ok hk
    rw [e1, e2]
    exact rfit_ok s1 a1 n1 c1 o1 s2 a2 n2 c2 o2 w B0 hB0 h1 hn1 hc1 f1 h2 hn2 hc2 f2 hk
  · rw [valF_not hk]
    exact rfit_not s1 a1 n1 c1 o1 s2 a2 n2 c2 o2 w B0 h1 hn1 hc1 h2 hn2 hc2 hk
def Sin (lo hi : Nat) (w V : World) : Prop := ∀ b, (b < lo ∨ hi ≤ b) → V.heap[b]? = w.heap[b]?
theorem Sin.refl (lo hi : Nat) (w : World) : Sin lo hi w w := fun _ _ => rfl
theorem Sin.set {lo hi : Nat} {w V : World} (h : Sin lo hi w V) {p : Addr} (h1 : lo ≤ p.block) (h2 : p.block < hi) (v : Value) : Sin lo hi w (V.setCell p v) := fun b hb =>
  (Below.heap_setCell _ _ _ _ (by omega)).trans (h b hb)
theorem RdS.sin {w V : World} {lo hi : Nat} {a : Option Addr} {n : Nat} {o : Nat → Int} (h : RdS w lo hi a n o) (hs : Sin lo hi w V) : RdS V lo hi a n o := by
  refine ⟨⟨fun hn => ?_, h.rd.rng⟩, h.far⟩
  obtain ⟨b, off, ha, hc⟩ := h.rd.cells hn
  exact ⟨b, off, ha, fun i hi => (World.cell?_of_block (hs b (h.far hn _ ha))).trans (hc i hi)⟩
theorem FracI.sin {w V : World} {lo hi : Nat} {p q : Int} {x : Option Addr × Nat × Option Addr × Nat} (h : FracI w lo hi p q x) (hs : Sin lo hi w V) : FracI V lo hi p q x := ⟨h.r1.sin hs, h.c1, h.r2.sin hs, h.c2⟩
theorem Own.sin {T : Nat} {w V : World} {lo hi : Nat} {a : Option Addr} {n cap : Nat} {o : Nat → Int} (h : Own T w hi a n cap o) (hs : Sin lo hi w V) : Own T V hi a n cap o := by
  refine ⟨h.le, h.place.imp id fun ⟨g, cur, ha, hg, hc, hr⟩ => ⟨g, cur, ha, hg, (hs g (Or.inr hg)).trans hc, hr⟩, h.rng⟩
theorem low_tl (z1 z2 t l : Int) (hz : z2 ≠ 0) (h : (z2 < 0 ∧ t = -z1 ∧ l = -z2) ∨ (¬ z2 < 0 ∧ t = z1 ∧ l = z2)) :
    0 < l ∧ ((Int.gcd t l : Nat) : Int) ≠ 0 ∧ t / ((Int.gcd t l : Nat) : Int) = (Rat.divInt z1 z2).num ∧ l / ((Int.gcd t l : Nat) : Int) = ((Rat.divInt z1 z2).den : Int) ∧ (l = 1 → (Rat.divInt z1 z2).num = t ∧ ((Rat.divInt z1 z2).den : Int) = l) := by
  have hl : 0 < l := by omega
  have e : Rat.divInt t l = Rat.divInt z1 z2 := by
    rcases h with ⟨_, rfl, rfl⟩ | ⟨_, rfl, rfl⟩
    · exact Rat.neg_divInt_neg _ _
    · rfl
  have h1 := low_num t l (by omega)
  have h2 := low_den t l (by omega)
  have h3 := low_gcd t l (by omega)
  rw [if_neg (by omega)] at h1 h2 h3
  rw [e] at h1 h2
  refine ⟨hl, h3, h1, h2, fun h => ?_⟩
  rw [← e]
  exact div_one_num hl (by rw [h]; exact Int.gcd_one_right _)
open Classical in
set_option maxRecDepth 100000 in
set_option maxHeartbeats 4000000 in
theorem rlowest_any (z1 z2 : Int) (a1 a2 : Option Addr) (c1 c2 : Nat) (w : World) (h1 : Rd w a1 (lenB z1.natAbs) (dgi z1.natAbs)) (hn1 : lenB z1.natAbs ≤ 4000000) (hc1 : lenB z1.natAbs ≤ c1) (h2 : Rd w a2 (lenB z2.natAbs) (dgi z2.natAbs)) (hn2 : lenB z2.natAbs ≤ 4000000) (hc2 : lenB z2.natAbs ≤ c2) (hz : z2 ≠ 0) :
    Calls Tryz.prog 44 #[numV (decide (z1 < 0)) a1 (lenB z1.natAbs) c1, numV (decide (z2 < 0)) a2 (lenB z2.natAbs) c2] w (FracF w (Rat.divInt z1 z2).num ((Rat.divInt z1 z2).den : Int)) := by
  have hfar : ∀ {a : Option Addr} {n : Nat} {o : Nat → Int}, Rd w a n o → 0 < n → ∀ p, a = some p → p.block < w.heap.size := fun h h0 p hp => by
    obtain ⟨b, off, e, hc⟩ := h.cells h0
    rw [e] at hp; cases hp
    exact block_lt_of_cell (hc 0 h0)
  obtain ⟨P, hP⟩ : ∃ P, P = (Rat.divInt z1 z2).num := ⟨_, rfl⟩
  obtain ⟨Q, hQ⟩ : ∃ Q : Int, Q = ((Rat.divInt z1 z2).den : Int) := ⟨_, rfl⟩
  rw [← hP, ← hQ]
  have HPE := Lib.hid (And.intro hP hQ)
  clear hP hQ
  have HB1 := Lib.hid (((Bxs.new (w) 24 [.bool (decide (z1 < 0)), .slice a1 (lenB z1.natAbs) c1]).alloc (.cells #[.bool (decide (z2 < 0)), .slice a2 (lenB z2.natAbs) c2] 24)).alloc (.cells #[.bool false, .slice none 0 0, .bool false, .slice none 0 0] 26))
  have HB2 := Lib.hid ((Bxs.new (w.alloc (.cells #[.bool (decide (z1 < 0)), .slice a1 (lenB z1.natAbs) c1] 24)) 24 [.bool (decide (z2 < 0)), .slice a2 (lenB z2.natAbs) c2]).alloc (.cells #[.bool false, .slice none 0 0, .bool false, .slice none 0 0] 26))
  have HB3 := Lib.hid (Bxs.new ((w.alloc (.cells #[.bool (decide (z1 < 0)), .slice a1 (lenB z1.natAbs) c1] 24)).alloc (.cells #[.bool (decide (z2 < 0)), .slice a2 (lenB z2.natAbs) c2] 24)) 26 [.bool false, .slice none 0 0, .bool false, .slice none 0 0])
  obtain ⟨W, hW⟩ : ∃ W, W = ((w.alloc (.cells #[.bool (decide (z1 < 0)), .slice a1 (lenB z1.natAbs) c1] 24)).alloc (.cells #[.bool (decide (z2 < 0)), .slice a2 (lenB z2.natAbs) c2] 24)).alloc (.cells #[.bool false, .slice none 0 0, .bool false, .slice none 0 0] 26) := ⟨_, rfl⟩
  have KG := Lib.hid (show Below w.heap.size w W by rw [hW]; exact (((Below.refl _ _).alloc (Nat.le_refl _) _).alloc (by go_size) _).alloc (by go_size) _)
  have HWS := Lib.hid (show w.heap.size + 3 ≤ W.heap.size by rw [hW]; simp only [World.size_alloc]; omega)
  have HB1 := Lib.hid (show Bxs W (w.heap.size) 24 [.bool (decide (z1 < 0)), .slice a1 (lenB z1.natAbs) c1] by have h := HB1.out; rw [hW]; exact h)
  have HB2 := Lib.hid (show Bxs W (w.heap.size + 1) 24 [.bool (decide (z2 < 0)), .slice a2 (lenB z2.natAbs) c2] by have h := HB2.out; simp only [World.size_alloc] at h; rw [hW]; exact h)
  have HB3 := Lib.hid (show Bxs W (w.heap.size + 1 + 1) 26 [.bool false, .slice none 0 0, .bool false, .slice none 0 0] by have h := HB3.out; simp only [World.size_alloc] at h; rw [hW]; exact h)
  have HW := Lib.hid hW
  clear hW
  have HX1 := Lib.hid (show RdS W w.heap.size (w.heap.size + 3) a1 (lenB z1.natAbs) (dgi z1.natAbs) from ⟨h1.below KG.out, fun h0 p hp => Or.inl (hfar h1 h0 p hp)⟩)
  have HX2 := Lib.hid (show RdS W w.heap.size (w.heap.size + 3) a2 (lenB z2.natAbs) (dgi z2.natAbs) from ⟨h2.below KG.out, fun h0 p hp => Or.inl (hfar h2 h0 p hp)⟩)
  have HC1 := Lib.hid hc1
  have HC2 := Lib.hid hc2
  clear h1 h2 hc1 hc2 hfar
  obtain ⟨cs, hcs⟩ : ∃ cs, cs = cmpZ z2 0 := ⟨_, rfl⟩
  have SG := Lib.hid (rsign_any (decide (z2 < 0)) a2 (lenB z2.natAbs) c2 (dgi z2.natAbs) W HX2.out.rd (by omega) HC2.out)
  rw [canon_val, ← hcs] at SG
  by_cases hneg : z2 < 0
  · have hc : cs < 0 := by rw [hcs, cmpZ_lt hneg]; omega
    obtain ⟨t, ht⟩ : ∃ t, t = -z1 := ⟨_, rfl⟩
    obtain ⟨l, hl⟩ : ∃ l, l = -z2 := ⟨_, rfl⟩
    have HLOW := Lib.hid (low_tl z1 z2 t l hz (Or.inl ⟨hneg, ht, hl⟩))
    have HT := Lib.hid (And.intro ht hl)
    have HN0 := Lib.hid (And.intro hn1 hn2)
    have HN := Lib.hid (show lenB t.natAbs ≤ 4000000 ∧ lenB l.natAbs ≤ 4000000 by rw [ht, hl, Int.natAbs_neg, Int.natAbs_neg]; exact HN0.out)
    clear hcs hneg hz hn1 hn2 ht hl
    go_enter Tryz.func44, Tryz.ntmps44
    go_upto_region 1 with (fail)
    rw [show ((w.alloc (.cells #[.bool (decide (z1 < 0)), .slice a1 (lenB z1.natAbs) c1] 24)).alloc (.cells #[.bool (decide (z2 < 0)), .slice a2 (lenB z2.natAbs) c2] 24)).alloc (.cells #[.bool false, .slice none 0 0, .bool false, .slice none 0 0] 26) = W from HW.out.symm]
    clear HW
    have b2c0 := HB2.out.cell (i := 0) rfl
    have b2c1 := HB2.out.cell (i := 1) rfl
    have b2f := HB2.out.fz
    have b2l := HB2.out.lt
    go_wp2_with fail
    with_reducible refine (SG.out).mono ?_
    rintro e w1 ⟨rfl, hb⟩
    clear b2c0 b2c1 b2f b2l
    have HB1 := Lib.hid (HB1.out.below hb HB1.out.lt)
    have HB2 := Lib.hid (HB2.out.below hb HB2.out.lt)
    have HB3 := Lib.hid (HB3.out.below hb HB3.out.lt)
    have HX1 := Lib.hid (HX1.out.below hb)
    have HX2 := Lib.hid (HX2.out.below hb)
    have HWS := Lib.hid (Nat.le_trans HWS.out hb.size)
    have KG := Lib.hid (KG.out.trans (hb.mono KG.out.size))
    clear hb
    clear SG
    have NG := Lib.hid (fun (w' : World) (hb : Below w1.heap.size w1 w') => rneg_any (decide (z1 < 0)) a1 (lenB z1.natAbs) c1 (dgi z1.natAbs) w' (HX1.out.rd.below hb) (by have := HN0.out; omega) HC1.out)
    rw [canon_val, ← HT.out.1] at NG
    have b1c0 := HB1.out.cell (i := 0) rfl
    have b1c1 := HB1.out.cell (i := 1) rfl
    have b1f := HB1.out.fz
    have b1l := HB1.out.lt
    go_wp2_with fail
    with_reducible refine (NG.out _ (Below.refl _ _)).mono ?_
    rintro e w2 ⟨x1, d1, rfl, ho, hb⟩
    have HX1 := Lib.hid (ho.rdS w.heap.size (w.heap.size + 3) HWS.out)
    have HC1 := Lib.hid ho.le
    clear ho
    clear b1c0 b1c1 b1f b1l
    have HB1 := Lib.hid (HB1.out.below hb HB1.out.lt)
    have HB2 := Lib.hid (HB2.out.below hb HB2.out.lt)
    have HB3 := Lib.hid (HB3.out.below hb HB3.out.lt)
    have HX2 := Lib.hid (HX2.out.below hb)
    have HWS := Lib.hid (Nat.le_trans HWS.out hb.size)
    have KG := Lib.hid (KG.out.trans (hb.mono KG.out.size))
    clear hb
    clear NG
    have b1c0 := HB1.out.cell (i := 0) rfl
    have b1c1 := HB1.out.cell (i := 1) rfl
    have b1f := HB1.out.fz
    have b1l := HB1.out.lt
    go_upto_region 3 with (fail)
    obtain ⟨v3, hV⟩ : ∃ V, V = (w2.setCell ⟨w.heap.size, 0, none⟩ (.bool (decide (t < 0)))).setCell ⟨w.heap.size, 1, none⟩ (.slice x1 (lenB t.natAbs) d1) := ⟨_, rfl⟩
    have HB1 := Lib.hid (show Bxs v3 (w.heap.size) 24 [.bool (decide (t < 0)), .slice x1 (lenB t.natAbs) d1] by rw [hV]; exact ((HB1.out).put 0 _).put 1 _)
    have HB2 := Lib.hid (show Bxs v3 (w.heap.size + 1) 24 [.bool (decide (z2 < 0)), .slice a2 (lenB z2.natAbs) c2] by rw [hV]; exact ((HB2.out).other (by dsimp only; omega) _).other (by dsimp only; omega) _)
    have HB3 := Lib.hid (show Bxs v3 (w.heap.size + 1 + 1) 26 [.bool false, .slice none 0 0, .bool false, .slice none 0 0] by rw [hV]; exact ((HB3.out).other (by dsimp only; omega) _).other (by dsimp only; omega) _)
    have hsin : Sin w.heap.size (w.heap.size + 3) w2 v3 := by rw [hV]; exact ((Sin.refl _ _ _).set (by dsimp only; omega) (by dsimp only; omega) _).set (by dsimp only; omega) (by dsimp only; omega) _
    have HX2 := Lib.hid (HX2.out.sin hsin)
    have HX1 := Lib.hid (HX1.out.sin hsin)
    clear hsin
    have KG := Lib.hid (show Below w.heap.size w v3 by rw [hV]; exact ((KG.out).setCell (by dsimp only; omega) _).setCell (by dsimp only; omega) _)
    have HWS := Lib.hid (show w.heap.size + 3 ≤ v3.heap.size by rw [hV]; simp only [World.size_setCell]; have := HWS.out; omega)
    rw [show (w2.setCell ⟨w.heap.size, 0, none⟩ (.bool (decide (t < 0)))).setCell ⟨w.heap.size, 1, none⟩ (.slice x1 (lenB t.natAbs) d1) = v3 from hV.symm]
    clear hV
    clear b1c0 b1c1 b1f b1l
    have NG := Lib.hid (fun (w' : World) (hb : Below v3.heap.size v3 w') => rneg_any (decide (z2 < 0)) a2 (lenB z2.natAbs) c2 (dgi z2.natAbs) w' (HX2.out.rd.below hb) (by have := HN0.out; omega) HC2.out)
    rw [canon_val, ← HT.out.2] at NG
    have b2c0 := HB2.out.cell (i := 0) rfl
    have b2c1 := HB2.out.cell (i := 1) rfl
    have b2f := HB2.out.fz
    have b2l := HB2.out.lt
    go_wp2_with fail
    with_reducible refine (NG.out _ (Below.refl _ _)).mono ?_
    rintro e w4 ⟨x2, d2, rfl, ho, hb⟩
    have HX2 := Lib.hid (ho.rdS w.heap.size (w.heap.size + 3) HWS.out)
    have HC2 := Lib.hid ho.le
    clear ho
    clear b2c0 b2c1 b2f b2l
    have HB1 := Lib.hid (HB1.out.below hb HB1.out.lt)
    have HB2 := Lib.hid (HB2.out.below hb HB2.out.lt)
    have HB3 := Lib.hid (HB3.out.below hb HB3.out.lt)
    have HX1 := Lib.hid (HX1.out.below hb)
    have HWS := Lib.hid (Nat.le_trans HWS.out hb.size)
    have KG := Lib.hid (KG.out.trans (hb.mono KG.out.size))
    clear hb
    clear NG
    have b2c0 := HB2.out.cell (i := 0) rfl
    have b2c1 := HB2.out.cell (i := 1) rfl
    have b2f := HB2.out.fz
    have b2l := HB2.out.lt
    go_upto_region 4 with (fail)
    obtain ⟨v5, hV⟩ : ∃ V, V = (w4.setCell ⟨w.heap.size + 1, 0, none⟩ (.bool (decide (l < 0)))).setCell ⟨w.heap.size + 1, 1, none⟩ (.slice x2 (lenB l.natAbs) d2) := ⟨_, rfl⟩
    have HB1 := Lib.hid (show Bxs v5 (w.heap.size) 24 [.bool (decide (t < 0)), .slice x1 (lenB t.natAbs) d1] by rw [hV]; exact ((HB1.out).other (by dsimp only; omega) _).other (by dsimp only; omega) _)
    have HB2 := Lib.hid (show Bxs v5 (w.heap.size + 1) 24 [.bool (decide (l < 0)), .slice x2 (lenB l.natAbs) d2] by rw [hV]; exact ((HB2.out).put 0 _).put 1 _)
    have HB3 := Lib.hid (show Bxs v5 (w.heap.size + 1 + 1) 26 [.bool false, .slice none 0 0, .bool false, .slice none 0 0] by rw [hV]; exact ((HB3.out).other (by dsimp only; omega) _).other (by dsimp only; omega) _)
    have hsin : Sin w.heap.size (w.heap.size + 3) w4 v5 := by rw [hV]; exact ((Sin.refl _ _ _).set (by dsimp only; omega) (by dsimp only; omega) _).set (by dsimp only; omega) (by dsimp only; omega) _
    have HX1 := Lib.hid (HX1.out.sin hsin)
    have HX2 := Lib.hid (HX2.out.sin hsin)
    clear hsin
    have KG := Lib.hid (show Below w.heap.size w v5 by rw [hV]; exact ((KG.out).setCell (by dsimp only; omega) _).setCell (by dsimp only; omega) _)
    have HWS := Lib.hid (show w.heap.size + 3 ≤ v5.heap.size by rw [hV]; simp only [World.size_setCell]; have := HWS.out; omega)
    rw [show (w4.setCell ⟨w.heap.size + 1, 0, none⟩ (.bool (decide (l < 0)))).setCell ⟨w.heap.size + 1, 1, none⟩ (.slice x2 (lenB l.natAbs) d2) = v5 from hV.symm]
    clear hV
    clear b2c0 b2c1 b2f b2l
    obtain ⟨G, hG⟩ : ∃ G : Int, G = ((Int.gcd t l : Nat) : Int) := ⟨_, rfl⟩
    have HGL := Lib.hid (show lenB G.natAbs ≤ 8000000 by rw [hG, Int.natAbs_natCast]; have := gcd_len t l; have := HN.out; omega)
    rw [← hG, ← HPE.out.1, ← HPE.out.2] at HLOW
    have HG := Lib.hid hG
    clear hG
    by_cases hl1 : l = 1
    · have HPQ := Lib.hid (HLOW.out.2.2.2.2 hl1)
      have RO := Lib.hid (fun (w' : World) (hb : Below v5.heap.size v5 w') => rone_any (decide (l < 0)) x2 (lenB l.natAbs) d2 (dgi l.natAbs) w' (HX2.out.rd.below hb) (by have := HN.out; omega) HC2.out (canon_ok l))
      rw [canon_val, decide_eq_true hl1] at RO
      clear hl1
      have b2c0 := HB2.out.cell (i := 0) rfl
      have b2c1 := HB2.out.cell (i := 1) rfl
      have b2f := HB2.out.fz
      have b2l := HB2.out.lt
      go_wp2_with fail
      with_reducible refine (RO.out _ (Below.refl _ _)).mono ?_
      rintro e w6 ⟨rfl, hb⟩
      clear b2c0 b2c1 b2f b2l
      have HB1 := Lib.hid (HB1.out.below hb HB1.out.lt)
      have HB2 := Lib.hid (HB2.out.below hb HB2.out.lt)
      have HB3 := Lib.hid (HB3.out.below hb HB3.out.lt)
      have HX1 := Lib.hid (HX1.out.below hb)
      have HX2 := Lib.hid (HX2.out.below hb)
      have HWS := Lib.hid (Nat.le_trans HWS.out hb.size)
      have KG := Lib.hid (KG.out.trans (hb.mono KG.out.size))
      clear hb
      clear RO
      have TW1 := Lib.hid (fun (w' : World) (hb : Below w6.heap.size w6 w') => twin_any (decide (t < 0)) x1 (lenB t.natAbs) d1 (dgi t.natAbs) w' (HX1.out.rd.below hb) (by have := HN.out; omega))
      go_upto_region 5 with (fail)
      have HS := Lib.hid (fun (w' : World) (hb : Below w6.heap.size w6 w') => And.intro (HB1.out.below hb HB1.out.lt).bx.all ((HB2.out.below hb HB2.out.lt).bx.all))
      refine wp_region_fresh 3 (spOf [(1, Sp.made (fun x : Option Addr × Nat => numV (decide (t < 0)) x.1 (lenB t.natAbs) x.2) (fun x w' => Own 80 w' w6.heap.size x.1 (lenB t.natAbs) x.2 (dgi t.natAbs)))]) (fun w' => Below w6.heap.size w6 w') (by kernel_rfl) (by kernel_rfl)
        (spOf_cons (Sp.made_keeps fun x w w' h hb => h.below hb) (spOf_nil)) (fun _ _ h hb => h.trans (hb.mono h.size)) ((Below.refl _ _).drew) ?_
      simp only [List.take_succ_cons, List.take_zero, List.drop_succ_cons, List.drop_zero]
      (refine wpF_reads rfl rfl ?_ (fun w' hw' => ?_) ?_; rotate_left; · (have hb' := Has.world hw'; (obtain ⟨k0, k1, k2, k3⟩ := (HS.out _ hb').1); clear hw'; go_simp; try rfl))
      conv => arg 9; simp only [Act.put, List.setIfInBounds_toArray, List.set_cons_succ, List.set_cons_zero]
      (refine wpF_spec rfl rfl (fun w' hw' => ?_) ?_; · (have hb' := Has.world hw'; go_simp; ((refine (TW1.out w' hb').mono ?_; rintro e w'' ⟨za, zb, rfl, ho, -, hb⟩; exact ⟨_, rfl, ⟨⟨za, zb, rfl⟩, ⟨za, zb, rfl, ho.mono hb'.size⟩⟩, hb⟩))))
      rintro _ ⟨y1, rfl⟩
      conv => arg 9; simp only [Act.put, List.setIfInBounds_toArray, List.set_cons_succ, List.set_cons_zero]
      (refine wpF_reads rfl rfl ?_ (fun w' hw' => ?_) ?_; rotate_left; · (have hb' := Has.world hw'; (obtain ⟨k0, k1, k2, k3⟩ := (HS.out _ hb').2); clear hw'; go_simp; try rfl))
      conv => arg 9; simp only [Act.put, List.setIfInBounds_toArray, List.set_cons_succ, List.set_cons_zero]
      refine wpF_nil (fun w7 hb hF => ?_)
      have HO1 := Lib.hid (Own.mono (own_numc (T := 80) (x := y1) (b := w6.heap.size) (s := decide (t < 0)) (L := lenB t.natAbs) (o := dgi t.natAbs) (hF 1)) HWS.out)
      clear hF HS
      have HB1 := Lib.hid (HB1.out.below hb HB1.out.lt)
      have HB2 := Lib.hid (HB2.out.below hb HB2.out.lt)
      have HB3 := Lib.hid (HB3.out.below hb HB3.out.lt)
      have HX1 := Lib.hid (HX1.out.below hb)
      have HX2 := Lib.hid (HX2.out.below hb)
      have HWS := Lib.hid (Nat.le_trans HWS.out hb.size)
      have KG := Lib.hid (KG.out.trans (hb.mono KG.out.size))
      clear hb
      clear TW1
      have TW2 := Lib.hid (fun (w' : World) (hb : Below w7.heap.size w7 w') => twin_any (decide (l < 0)) x2 (lenB l.natAbs) d2 (dgi l.natAbs) w' (HX2.out.rd.below hb) (by have := HN.out; omega))
      have b3c0 := HB3.out.cell (i := 0) rfl
      have b3c1 := HB3.out.cell (i := 1) rfl
      have b3c2 := HB3.out.cell (i := 2) rfl
      have b3c3 := HB3.out.cell (i := 3) rfl
      have b3f := HB3.out.fz
      have b3l := HB3.out.lt
      go_wp2_with fail
      with_reducible refine (TW2.out _ (Below.refl _ _)).mono ?_
      rintro e w8 ⟨m2, e2, rfl, ho2, -, hb⟩
      have HO2 := Lib.hid (ho2.mono HWS.out)
      clear ho2
      clear b3c0 b3c1 b3c2 b3c3 b3f b3l
      have HB1 := Lib.hid (HB1.out.below hb HB1.out.lt)
      have HB2 := Lib.hid (HB2.out.below hb HB2.out.lt)
      have HB3 := Lib.hid (HB3.out.below hb HB3.out.lt)
      have HX1 := Lib.hid (HX1.out.below hb)
      have HX2 := Lib.hid (HX2.out.below hb)
      have HO1 := Lib.hid (HO1.out.below hb)
      have HWS := Lib.hid (Nat.le_trans HWS.out hb.size)
      have KG := Lib.hid (KG.out.trans (hb.mono KG.out.size))
      clear hb
      have b3c0 := HB3.out.cell (i := 0) rfl
      have b3c1 := HB3.out.cell (i := 1) rfl
      have b3c2 := HB3.out.cell (i := 2) rfl
      have b3c3 := HB3.out.cell (i := 3) rfl
      have b3f := HB3.out.fz
      have b3l := HB3.out.lt
      go_wp2_with fail
      have hws := HWS.out
      refine bodyPost_ret (results_cell rfl _ _ _ _ _ _ _ rfl (((((HB3.out).put 0 _).put 1 _).put 2 _).put 3 _) Tryz.underlying26 rfl (by kernel_rfl)) rfl ?_
      rw [HPQ.out.1, HPQ.out.2]
      refine ⟨y1.1, y1.2, m2, e2, rfl, ?_, ?_, ?_⟩
      · exact (((((HO1.out).other (by dsimp only; omega) _).other (by dsimp only; omega) _).other (by dsimp only; omega) _).other (by dsimp only; omega) _).mono (by omega)
      · exact (((((HO2.out).other (by dsimp only; omega) _).other (by dsimp only; omega) _).other (by dsimp only; omega) _).other (by dsimp only; omega) _).mono (by omega)
      · exact ((((KG.out).setCell (by dsimp only; omega) _).setCell (by dsimp only; omega) _).setCell (by dsimp only; omega) _).setCell (by dsimp only; omega) _
    · have HL1 := Lib.hid hl1
      have RO := Lib.hid (fun (w' : World) (hb : Below v5.heap.size v5 w') => rone_any (decide (l < 0)) x2 (lenB l.natAbs) d2 (dgi l.natAbs) w' (HX2.out.rd.below hb) (by have := HN.out; omega) HC2.out (canon_ok l))
      rw [canon_val, decide_eq_false hl1] at RO
      clear hl1
      have b2c0 := HB2.out.cell (i := 0) rfl
      have b2c1 := HB2.out.cell (i := 1) rfl
      have b2f := HB2.out.fz
      have b2l := HB2.out.lt
      go_wp2_with fail
      with_reducible refine (RO.out _ (Below.refl _ _)).mono ?_
      rintro e w9 ⟨rfl, hb⟩
      clear b2c0 b2c1 b2f b2l
      have HB1 := Lib.hid (HB1.out.below hb HB1.out.lt)
      have HB2 := Lib.hid (HB2.out.below hb HB2.out.lt)
      have HB3 := Lib.hid (HB3.out.below hb HB3.out.lt)
      have HX1 := Lib.hid (HX1.out.below hb)
      have HX2 := Lib.hid (HX2.out.below hb)
      have HWS := Lib.hid (Nat.le_trans HWS.out hb.size)
      have KG := Lib.hid (KG.out.trans (hb.mono KG.out.size))
      clear hb
      clear RO
      have GC := Lib.hid (fun (w' : World) (hb : Below w9.heap.size w9 w') => rgcd_any (decide (t < 0)) x1 (lenB t.natAbs) d1 (dgi t.natAbs) (decide (l < 0)) x2 (lenB l.natAbs) d2 (dgi l.natAbs) w' (HX1.out.rd.below hb) (by have := HN.out; omega) HC1.out (HX2.out.rd.below hb) (by have := HN.out; omega) HC2.out)
      rw [canon_val, canon_val, ← HG.out] at GC
      have b1c0 := HB1.out.cell (i := 0) rfl
      have b1c1 := HB1.out.cell (i := 1) rfl
      have b1f := HB1.out.fz
      have b1l := HB1.out.lt
      have b2c0 := HB2.out.cell (i := 0) rfl
      have b2c1 := HB2.out.cell (i := 1) rfl
      have b2f := HB2.out.fz
      have b2l := HB2.out.lt
      go_wp2_with fail
      with_reducible refine (GC.out _ (Below.refl _ _)).mono ?_
      rintro e wg ⟨xg, dg, rfl, ho, hb⟩
      clear b1c0 b1c1 b1f b1l b2c0 b2c1 b2f b2l
      clear GC
      go_upto_region 7 with (fail)
      have hbV := hb.alloc hb.size (.cells #[.bool (decide (G < 0)), .slice xg (lenB G.natAbs) dg] 24)
      have HB4 := Lib.hid (Bxs.new wg 24 [.bool (decide (G < 0)), .slice xg (lenB G.natAbs) dg])
      have HO4 := Lib.hid ((ho.mono HWS.out).allocd (.cells #[.bool (decide (G < 0)), .slice xg (lenB G.natAbs) dg] 24))
      obtain ⟨vg, hV⟩ : ∃ V, V = wg.alloc (.cells #[.bool (decide (G < 0)), .slice xg (lenB G.natAbs) dg] 24) := ⟨_, rfl⟩
      rw [← hV] at hbV HO4
      rw [show wg.alloc (.cells (List.toArray [.bool (decide (G < 0)), .slice xg (lenB G.natAbs) dg]) 24) = vg from hV.symm] at HB4
      rw [show wg.alloc (.cells #[.bool (decide (G < 0)), .slice xg (lenB G.natAbs) dg] 24) = vg from hV.symm]
      obtain ⟨b4, hb4⟩ : ∃ b, b = wg.heap.size := ⟨_, rfl⟩
      rw [← hb4] at HB4 ⊢
      clear hV hb4 ho hb
      have HB1 := Lib.hid (HB1.out.below hbV HB1.out.lt)
      have HB2 := Lib.hid (HB2.out.below hbV HB2.out.lt)
      have HB3 := Lib.hid (HB3.out.below hbV HB3.out.lt)
      have HX1 := Lib.hid (HX1.out.below hbV)
      have HX2 := Lib.hid (HX2.out.below hbV)
      have HWS := Lib.hid (Nat.le_trans HWS.out hbV.size)
      have KG := Lib.hid (KG.out.trans (hbV.mono KG.out.size))
      clear hbV
      have DV := Lib.hid (fun (w' : World) (hb : Below vg.heap.size vg w') => rdiv_ok t G x1 xg d1 dg w' (HX1.out.rd.below hb) (by have := HN.out; omega) HC1.out (HO4.out.rd.below hb) (by have := HGL.out; omega) HO4.out.le HLOW.out.2.1)
      obtain ⟨Qq, hQq⟩ : ∃ Q, Q = t / G := ⟨_, rfl⟩
      obtain ⟨Rq, hRq⟩ : ∃ R, R = t % G := ⟨_, rfl⟩
      unfold DivF at DV
      rw [← hQq, ← hRq] at DV
      rw [← hQq] at HLOW
      clear hQq hRq
      have b1c0 := HB1.out.cell (i := 0) rfl
      have b1c1 := HB1.out.cell (i := 1) rfl
      have b1f := HB1.out.fz
      have b1l := HB1.out.lt
      have b4c0 := HB4.out.cell (i := 0) rfl
      have b4c1 := HB4.out.cell (i := 1) rfl
      have b4f := HB4.out.fz
      have b4l := HB4.out.lt
      go_wp2_with fail
      with_reducible refine (DV.out _ (Below.refl _ _)).mono ?_
      rintro e wq ⟨xq, dq, uq, vq, rfl, ho, -, hb⟩
      clear b1c0 b1c1 b1f b1l b4c0 b4c1 b4f b4l
      clear DV
      go_upto_region 8 with (fail)
      have hbV := (hb.alloc hb.size (.cells #[.bool (decide (Qq < 0)), .slice xq (lenB Qq.natAbs) dq] 24)).alloc (by have := hb.size; go_size) (.cells #[.bool (decide (Rq < 0)), .slice uq (lenB Rq.natAbs) vq] 24)
      have HBn := Lib.hid ((Bxs.new wq 24 [.bool (decide (Qq < 0)), .slice xq (lenB Qq.natAbs) dq]).alloc (.cells #[.bool (decide (Rq < 0)), .slice uq (lenB Rq.natAbs) vq] 24))
      have HOq := Lib.hid (((ho.mono HWS.out).allocd (.cells #[.bool (decide (Qq < 0)), .slice xq (lenB Qq.natAbs) dq] 24)).allocd (.cells #[.bool (decide (Rq < 0)), .slice uq (lenB Rq.natAbs) vq] 24))
      obtain ⟨vq', hV⟩ : ∃ V, V = (wq.alloc (.cells #[.bool (decide (Qq < 0)), .slice xq (lenB Qq.natAbs) dq] 24)).alloc (.cells #[.bool (decide (Rq < 0)), .slice uq (lenB Rq.natAbs) vq] 24) := ⟨_, rfl⟩
      rw [← hV] at hbV HOq
      rw [show (wq.alloc (.cells (List.toArray [.bool (decide (Qq < 0)), .slice xq (lenB Qq.natAbs) dq]) 24)).alloc (.cells #[.bool (decide (Rq < 0)), .slice uq (lenB Rq.natAbs) vq] 24) = vq' from hV.symm] at HBn
      rw [show (wq.alloc (.cells #[.bool (decide (Qq < 0)), .slice xq (lenB Qq.natAbs) dq] 24)).alloc (.cells #[.bool (decide (Rq < 0)), .slice uq (lenB Rq.natAbs) vq] 24) = vq' from hV.symm]
      obtain ⟨bq, hbn⟩ : ∃ b, b = wq.heap.size := ⟨_, rfl⟩
      rw [← hbn] at HBn ⊢
      clear hV hbn ho hb
      have HB1 := Lib.hid (HB1.out.below hbV HB1.out.lt)
      have HB2 := Lib.hid (HB2.out.below hbV HB2.out.lt)
      have HB3 := Lib.hid (HB3.out.below hbV HB3.out.lt)
      have HB4 := Lib.hid (HB4.out.below hbV HB4.out.lt)
      have HX1 := Lib.hid (HX1.out.below hbV)
      have HX2 := Lib.hid (HX2.out.below hbV)
      have HO4 := Lib.hid (HO4.out.below hbV)
      have HWS := Lib.hid (Nat.le_trans HWS.out hbV.size)
      have KG := Lib.hid (KG.out.trans (hbV.mono KG.out.size))
      clear hbV
      have HB5 := Lib.hid HBn.out
      clear HBn
      have DV := Lib.hid (fun (w' : World) (hb : Below vq'.heap.size vq' w') => rdiv_ok l G x2 xg d2 dg w' (HX2.out.rd.below hb) (by have := HN.out; omega) HC2.out (HO4.out.rd.below hb) (by have := HGL.out; omega) HO4.out.le HLOW.out.2.1)
      obtain ⟨Qr, hQr⟩ : ∃ Q, Q = l / G := ⟨_, rfl⟩
      obtain ⟨Rr, hRr⟩ : ∃ R, R = l % G := ⟨_, rfl⟩
      unfold DivF at DV
      rw [← hQr, ← hRr] at DV
      rw [← hQr] at HLOW
      clear hQr hRr
      have b2c0 := HB2.out.cell (i := 0) rfl
      have b2c1 := HB2.out.cell (i := 1) rfl
      have b2f := HB2.out.fz
      have b2l := HB2.out.lt
      have b4c0 := HB4.out.cell (i := 0) rfl
      have b4c1 := HB4.out.cell (i := 1) rfl
      have b4f := HB4.out.fz
      have b4l := HB4.out.lt
      go_wp2_with fail
      with_reducible refine (DV.out _ (Below.refl _ _)).mono ?_
      rintro e wr ⟨xr, dr, ur, vr, rfl, ho, -, hb⟩
      clear b2c0 b2c1 b2f b2l b4c0 b4c1 b4f b4l
      clear DV
      go_upto_region 9 with (fail)
      have hbV := (hb.alloc hb.size (.cells #[.bool (decide (Qr < 0)), .slice xr (lenB Qr.natAbs) dr] 24)).alloc (by have := hb.size; go_size) (.cells #[.bool (decide (Rr < 0)), .slice ur (lenB Rr.natAbs) vr] 24)
      have HBn := Lib.hid ((Bxs.new wr 24 [.bool (decide (Qr < 0)), .slice xr (lenB Qr.natAbs) dr]).alloc (.cells #[.bool (decide (Rr < 0)), .slice ur (lenB Rr.natAbs) vr] 24))
      have HOr := Lib.hid (((ho.mono HWS.out).allocd (.cells #[.bool (decide (Qr < 0)), .slice xr (lenB Qr.natAbs) dr] 24)).allocd (.cells #[.bool (decide (Rr < 0)), .slice ur (lenB Rr.natAbs) vr] 24))
      obtain ⟨vr', hV⟩ : ∃ V, V = (wr.alloc (.cells #[.bool (decide (Qr < 0)), .slice xr (lenB Qr.natAbs) dr] 24)).alloc (.cells #[.bool (decide (Rr < 0)), .slice ur (lenB Rr.natAbs) vr] 24) := ⟨_, rfl⟩
      rw [← hV] at hbV HOr
      rw [show (wr.alloc (.cells (List.toArray [.bool (decide (Qr < 0)), .slice xr (lenB Qr.natAbs) dr]) 24)).alloc (.cells #[.bool (decide (Rr < 0)), .slice ur (lenB Rr.natAbs) vr] 24) = vr' from hV.symm] at HBn
      rw [show (wr.alloc (.cells #[.bool (decide (Qr < 0)), .slice xr (lenB Qr.natAbs) dr] 24)).alloc (.cells #[.bool (decide (Rr < 0)), .slice ur (lenB Rr.natAbs) vr] 24) = vr' from hV.symm]
      obtain ⟨br, hbn⟩ : ∃ b, b = wr.heap.size := ⟨_, rfl⟩
      rw [← hbn] at HBn ⊢
      clear hV hbn ho hb
      have HB1 := Lib.hid (HB1.out.below hbV HB1.out.lt)
      have HB2 := Lib.hid (HB2.out.below hbV HB2.out.lt)
      have HB3 := Lib.hid (HB3.out.below hbV HB3.out.lt)
      have HB4 := Lib.hid (HB4.out.below hbV HB4.out.lt)
      have HB5 := Lib.hid (HB5.out.below hbV HB5.out.lt)
      have HX1 := Lib.hid (HX1.out.below hbV)
      have HX2 := Lib.hid (HX2.out.below hbV)
      have HO4 := Lib.hid (HO4.out.below hbV)
      have HOq := Lib.hid (HOq.out.below hbV)
      have HWS := Lib.hid (Nat.le_trans HWS.out hbV.size)
      have KG := Lib.hid (KG.out.trans (hbV.mono KG.out.size))
      clear hbV
      have HB6 := Lib.hid HBn.out
      clear HBn
      have b5c0 := HB5.out.cell (i := 0) rfl
      have b5c1 := HB5.out.cell (i := 1) rfl
      have b5f := HB5.out.fz
      have b5l := HB5.out.lt
      have b6c0 := HB6.out.cell (i := 0) rfl
      have b6c1 := HB6.out.cell (i := 1) rfl
      have b6f := HB6.out.fz
      have b6l := HB6.out.lt
      have b3c0 := HB3.out.cell (i := 0) rfl
      have b3c1 := HB3.out.cell (i := 1) rfl
      have b3c2 := HB3.out.cell (i := 2) rfl
      have b3c3 := HB3.out.cell (i := 3) rfl
      have b3f := HB3.out.fz
      have b3l := HB3.out.lt
      go_wp2_with fail
      have hws := HWS.out
      refine bodyPost_ret (results_cell rfl _ _ _ _ _ _ _ rfl (((((HB3.out).put 0 _).put 1 _).put 2 _).put 3 _) Tryz.underlying26 rfl (by kernel_rfl)) rfl ?_
      rw [← HLOW.out.2.2.1, ← HLOW.out.2.2.2.1]
      refine ⟨xq, dq, xr, dr, rfl, ?_, ?_, ?_⟩
      · exact (((((HOq.out).other (by dsimp only; omega) _).other (by dsimp only; omega) _).other (by dsimp only; omega) _).other (by dsimp only; omega) _).mono (by omega)
      · exact (((((HOr.out).other (by dsimp only; omega) _).other (by dsimp only; omega) _).other (by dsimp only; omega) _).other (by dsimp only; omega) _).mono (by omega)
      · exact ((((KG.out).setCell (by dsimp only; omega) _).setCell (by dsimp only; omega) _).setCell (by dsimp only; omega) _).setCell (by dsimp only; omega) _
  · have hc : ¬ cs < 0 := by rw [hcs]; unfold cmpZ; rw [if_neg hneg]; split <;> omega
    have HLOW := Lib.hid (low_tl z1 z2 z1 z2 hz (Or.inr ⟨hneg, rfl, rfl⟩))
    have HN := Lib.hid (And.intro hn1 hn2)
    clear hcs hneg hz hn1 hn2
    go_enter Tryz.func44, Tryz.ntmps44
    go_upto_region 1 with (fail)
    rw [show ((w.alloc (.cells #[.bool (decide (z1 < 0)), .slice a1 (lenB z1.natAbs) c1] 24)).alloc (.cells #[.bool (decide (z2 < 0)), .slice a2 (lenB z2.natAbs) c2] 24)).alloc (.cells #[.bool false, .slice none 0 0, .bool false, .slice none 0 0] 26) = W from HW.out.symm]
    clear HW
    have b2c0 := HB2.out.cell (i := 0) rfl
    have b2c1 := HB2.out.cell (i := 1) rfl
    have b2f := HB2.out.fz
    have b2l := HB2.out.lt
    go_wp2_with fail
    with_reducible refine (SG.out).mono ?_
    rintro e w10 ⟨rfl, hb⟩
    clear b2c0 b2c1 b2f b2l
    have HB1 := Lib.hid (HB1.out.below hb HB1.out.lt)
    have HB2 := Lib.hid (HB2.out.below hb HB2.out.lt)
    have HB3 := Lib.hid (HB3.out.below hb HB3.out.lt)
    have HX1 := Lib.hid (HX1.out.below hb)
    have HX2 := Lib.hid (HX2.out.below hb)
    have HWS := Lib.hid (Nat.le_trans HWS.out hb.size)
    have KG := Lib.hid (KG.out.trans (hb.mono KG.out.size))
    clear hb
    clear SG
    obtain ⟨G, hG⟩ : ∃ G : Int, G = ((Int.gcd z1 z2 : Nat) : Int) := ⟨_, rfl⟩
    have HGL := Lib.hid (show lenB G.natAbs ≤ 8000000 by rw [hG, Int.natAbs_natCast]; have := gcd_len z1 z2; have := HN.out; omega)
    rw [← hG, ← HPE.out.1, ← HPE.out.2] at HLOW
    have HG := Lib.hid hG
    clear hG
    by_cases hl1 : z2 = 1
    · have HPQ := Lib.hid (HLOW.out.2.2.2.2 hl1)
      have RO := Lib.hid (fun (w' : World) (hb : Below w10.heap.size w10 w') => rone_any (decide (z2 < 0)) a2 (lenB z2.natAbs) c2 (dgi z2.natAbs) w' (HX2.out.rd.below hb) (by have := HN.out; omega) HC2.out (canon_ok z2))
      rw [canon_val, decide_eq_true hl1] at RO
      clear hl1
      have b2c0 := HB2.out.cell (i := 0) rfl
      have b2c1 := HB2.out.cell (i := 1) rfl
      have b2f := HB2.out.fz
      have b2l := HB2.out.lt
      go_wp2_with fail
      with_reducible refine (RO.out _ (Below.refl _ _)).mono ?_
      rintro e w11 ⟨rfl, hb⟩
      clear b2c0 b2c1 b2f b2l
      have HB1 := Lib.hid (HB1.out.below hb HB1.out.lt)
      have HB2 := Lib.hid (HB2.out.below hb HB2.out.lt)
      have HB3 := Lib.hid (HB3.out.below hb HB3.out.lt)
      have HX1 := Lib.hid (HX1.out.below hb)
      have HX2 := Lib.hid (HX2.out.below hb)
      have HWS := Lib.hid (Nat.le_trans HWS.out hb.size)
      have KG := Lib.hid (KG.out.trans (hb.mono KG.out.size))
      clear hb
      clear RO
      have TW1 := Lib.hid (fun (w' : World) (hb : Below w11.heap.size w11 w') => twin_any (decide (z1 < 0)) a1 (lenB z1.natAbs) c1 (dgi z1.natAbs) w' (HX1.out.rd.below hb) (by have := HN.out; omega))
      go_upto_region 5 with (fail)
      have HS := Lib.hid (fun (w' : World) (hb : Below w11.heap.size w11 w') => And.intro (HB1.out.below hb HB1.out.lt).bx.all ((HB2.out.below hb HB2.out.lt).bx.all))
      refine wp_region_fresh 3 (spOf [(1, Sp.made (fun x : Option Addr × Nat => numV (decide (z1 < 0)) x.1 (lenB z1.natAbs) x.2) (fun x w' => Own 80 w' w11.heap.size x.1 (lenB z1.natAbs) x.2 (dgi z1.natAbs)))]) (fun w' => Below w11.heap.size w11 w') (by kernel_rfl) (by kernel_rfl)
        (spOf_cons (Sp.made_keeps fun x w w' h hb => h.below hb) (spOf_nil)) (fun _ _ h hb => h.trans (hb.mono h.size)) ((Below.refl _ _).drew) ?_
      simp only [List.take_succ_cons, List.take_zero, List.drop_succ_cons, List.drop_zero]
      (refine wpF_reads rfl rfl ?_ (fun w' hw' => ?_) ?_; rotate_left; · (have hb' := Has.world hw'; (obtain ⟨k0, k1, k2, k3⟩ := (HS.out _ hb').1); clear hw'; go_simp; try rfl))
      conv => arg 9; simp only [Act.put, List.setIfInBounds_toArray, List.set_cons_succ, List.set_cons_zero]
      (refine wpF_spec rfl rfl (fun w' hw' => ?_) ?_; · (have hb' := Has.world hw'; go_simp; ((refine (TW1.out w' hb').mono ?_; rintro e w'' ⟨za, zb, rfl, ho, -, hb⟩; exact ⟨_, rfl, ⟨⟨za, zb, rfl⟩, ⟨za, zb, rfl, ho.mono hb'.size⟩⟩, hb⟩))))
      rintro _ ⟨y1, rfl⟩
      conv => arg 9; simp only [Act.put, List.setIfInBounds_toArray, List.set_cons_succ, List.set_cons_zero]
      (refine wpF_reads rfl rfl ?_ (fun w' hw' => ?_) ?_; rotate_left; · (have hb' := Has.world hw'; (obtain ⟨k0, k1, k2, k3⟩ := (HS.out _ hb').2); clear hw'; go_simp; try rfl))
      conv => arg 9; simp only [Act.put, List.setIfInBounds_toArray, List.set_cons_succ, List.set_cons_zero]
      refine wpF_nil (fun w12 hb hF => ?_)
      have HO1 := Lib.hid (Own.mono (own_numc (T := 80) (x := y1) (b := w11.heap.size) (s := decide (z1 < 0)) (L := lenB z1.natAbs) (o := dgi z1.natAbs) (hF 1)) HWS.out)
      clear hF HS
      have HB1 := Lib.hid (HB1.out.below hb HB1.out.lt)
      have HB2 := Lib.hid (HB2.out.below hb HB2.out.lt)
      have HB3 := Lib.hid (HB3.out.below hb HB3.out.lt)
      have HX1 := Lib.hid (HX1.out.below hb)
      have HX2 := Lib.hid (HX2.out.below hb)
      have HWS := Lib.hid (Nat.le_trans HWS.out hb.size)
      have KG := Lib.hid (KG.out.trans (hb.mono KG.out.size))
      clear hb
      clear TW1
      have TW2 := Lib.hid (fun (w' : World) (hb : Below w12.heap.size w12 w') => twin_any (decide (z2 < 0)) a2 (lenB z2.natAbs) c2 (dgi z2.natAbs) w' (HX2.out.rd.below hb) (by have := HN.out; omega))
      have b3c0 := HB3.out.cell (i := 0) rfl
      have b3c1 := HB3.out.cell (i := 1) rfl
      have b3c2 := HB3.out.cell (i := 2) rfl
      have b3c3 := HB3.out.cell (i := 3) rfl
      have b3f := HB3.out.fz
      have b3l := HB3.out.lt
      go_wp2_with fail
      with_reducible refine (TW2.out _ (Below.refl _ _)).mono ?_
      rintro e w13 ⟨m2, e2, rfl, ho2, -, hb⟩
      have HO2 := Lib.hid (ho2.mono HWS.out)
      clear ho2
      clear b3c0 b3c1 b3c2 b3c3 b3f b3l
      have HB1 := Lib.hid (HB1.out.below hb HB1.out.lt)
      have HB2 := Lib.hid (HB2.out.below hb HB2.out.lt)
      have HB3 := Lib.hid (HB3.out.below hb HB3.out.lt)
      have HX1 := Lib.hid (HX1.out.below hb)
      have HX2 := Lib.hid (HX2.out.below hb)
      have HO1 := Lib.hid (HO1.out.below hb)
      have HWS := Lib.hid (Nat.le_trans HWS.out hb.size)
      have KG := Lib.hid (KG.out.trans (hb.mono KG.out.size))
      clear hb
      have b3c0 := HB3.out.cell (i := 0) rfl
      have b3c1 := HB3.out.cell (i := 1) rfl
      have b3c2 := HB3.out.cell (i := 2) rfl
      have b3c3 := HB3.out.cell (i := 3) rfl
      have b3f := HB3.out.fz
      have b3l := HB3.out.lt
      go_wp2_with fail
      have hws := HWS.out
      refine bodyPost_ret (results_cell rfl _ _ _ _ _ _ _ rfl (((((HB3.out).put 0 _).put 1 _).put 2 _).put 3 _) Tryz.underlying26 rfl (by kernel_rfl)) rfl ?_
      rw [HPQ.out.1, HPQ.out.2]
      refine ⟨y1.1, y1.2, m2, e2, rfl, ?_, ?_, ?_⟩
      · exact (((((HO1.out).other (by dsimp only; omega) _).other (by dsimp only; omega) _).other (by dsimp only; omega) _).other (by dsimp only; omega) _).mono (by omega)
      · exact (((((HO2.out).other (by dsimp only; omega) _).other (by dsimp only; omega) _).other (by dsimp only; omega) _).other (by dsimp only; omega) _).mono (by omega)
      · exact ((((KG.out).setCell (by dsimp only; omega) _).setCell (by dsimp only; omega) _).setCell (by dsimp only; omega) _).setCell (by dsimp only; omega) _
    · have HL1 := Lib.hid hl1
      have RO := Lib.hid (fun (w' : World) (hb : Below w10.heap.size w10 w') => rone_any (decide (z2 < 0)) a2 (lenB z2.natAbs) c2 (dgi z2.natAbs) w' (HX2.out.rd.below hb) (by have := HN.out; omega) HC2.out (canon_ok z2))
      rw [canon_val, decide_eq_false hl1] at RO
      clear hl1
      have b2c0 := HB2.out.cell (i := 0) rfl
      have b2c1 := HB2.out.cell (i := 1) rfl
      have b2f := HB2.out.fz
      have b2l := HB2.out.lt
      go_wp2_with fail
      with_reducible refine (RO.out _ (Below.refl _ _)).mono ?_
      rintro e w14 ⟨rfl, hb⟩
      clear b2c0 b2c1 b2f b2l
      have HB1 := Lib.hid (HB1.out.below hb HB1.out.lt)
      have HB2 := Lib.hid (HB2.out.below hb HB2.out.lt)
      have HB3 := Lib.hid (HB3.out.below hb HB3.out.lt)
      have HX1 := Lib.hid (HX1.out.below hb)
      have HX2 := Lib.hid (HX2.out.below hb)
      have HWS := Lib.hid (Nat.le_trans HWS.out hb.size)
      have KG := Lib.hid (KG.out.trans (hb.mono KG.out.size))
      clear hb
      clear RO
      have GC := Lib.hid (fun (w' : World) (hb : Below w14.heap.size w14 w') => rgcd_any (decide (z1 < 0)) a1 (lenB z1.natAbs) c1 (dgi z1.natAbs) (decide (z2 < 0)) a2 (lenB z2.natAbs) c2 (dgi z2.natAbs) w' (HX1.out.rd.below hb) (by have := HN.out; omega) HC1.out (HX2.out.rd.below hb) (by have := HN.out; omega) HC2.out)
      rw [canon_val, canon_val, ← HG.out] at GC
      have b1c0 := HB1.out.cell (i := 0) rfl
      have b1c1 := HB1.out.cell (i := 1) rfl
      have b1f := HB1.out.fz
      have b1l := HB1.out.lt
      have b2c0 := HB2.out.cell (i := 0) rfl
      have b2c1 := HB2.out.cell (i := 1) rfl
      have b2f := HB2.out.fz
      have b2l := HB2.out.lt
      go_wp2_with fail
      with_reducible refine (GC.out _ (Below.refl _ _)).mono ?_
      rintro e wg ⟨xg, dg, rfl, ho, hb⟩
      clear b1c0 b1c1 b1f b1l b2c0 b2c1 b2f b2l
      clear GC
      go_upto_region 7 with (fail)
      have hbV := hb.alloc hb.size (.cells #[.bool (decide (G < 0)), .slice xg (lenB G.natAbs) dg] 24)
      have HB4 := Lib.hid (Bxs.new wg 24 [.bool (decide (G < 0)), .slice xg (lenB G.natAbs) dg])
      have HO4 := Lib.hid ((ho.mono HWS.out).allocd (.cells #[.bool (decide (G < 0)), .slice xg (lenB G.natAbs) dg] 24))
      obtain ⟨vg, hV⟩ : ∃ V, V = wg.alloc (.cells #[.bool (decide (G < 0)), .slice xg (lenB G.natAbs) dg] 24) := ⟨_, rfl⟩
      rw [← hV] at hbV HO4
      rw [show wg.alloc (.cells (List.toArray [.bool (decide (G < 0)), .slice xg (lenB G.natAbs) dg]) 24) = vg from hV.symm] at HB4
      rw [show wg.alloc (.cells #[.bool (decide (G < 0)), .slice xg (lenB G.natAbs) dg] 24) = vg from hV.symm]
      obtain ⟨b4, hb4⟩ : ∃ b, b = wg.heap.size := ⟨_, rfl⟩
      rw [← hb4] at HB4 ⊢
      clear hV hb4 ho hb
      have HB1 := Lib.hid (HB1.out.below hbV HB1.out.lt)
      have HB2 := Lib.hid (HB2.out.below hbV HB2.out.lt)
      have HB3 := Lib.hid (HB3.out.below hbV HB3.out.lt)
      have HX1 := Lib.hid (HX1.out.below hbV)
      have HX2 := Lib.hid (HX2.out.below hbV)
      have HWS := Lib.hid (Nat.le_trans HWS.out hbV.size)
      have KG := Lib.hid (KG.out.trans (hbV.mono KG.out.size))
      clear hbV
      have DV := Lib.hid (fun (w' : World) (hb : Below vg.heap.size vg w') => rdiv_ok z1 G a1 xg c1 dg w' (HX1.out.rd.below hb) (by have := HN.out; omega) HC1.out (HO4.out.rd.below hb) (by have := HGL.out; omega) HO4.out.le HLOW.out.2.1)
      obtain ⟨Qq, hQq⟩ : ∃ Q, Q = z1 / G := ⟨_, rfl⟩
      obtain ⟨Rq, hRq⟩ : ∃ R, R = z1 % G := ⟨_, rfl⟩
      unfold DivF at DV
      rw [← hQq, ← hRq] at DV
      rw [← hQq] at HLOW
      clear hQq hRq
      have b1c0 := HB1.out.cell (i := 0) rfl
      have b1c1 := HB1.out.cell (i := 1) rfl
      have b1f := HB1.out.fz
      have b1l := HB1.out.lt
      have b4c0 := HB4.out.cell (i := 0) rfl
      have b4c1 := HB4.out.cell (i := 1) rfl
      have b4f := HB4.out.fz
      have b4l := HB4.out.lt
      go_wp2_with fail
      with_reducible refine (DV.out _ (Below.refl _ _)).mono ?_
      rintro e wq ⟨xq, dq, uq, vq, rfl, ho, -, hb⟩
      clear b1c0 b1c1 b1f b1l b4c0 b4c1 b4f b4l
      clear DV
      go_upto_region 8 with (fail)
      have hbV := (hb.alloc hb.size (.cells #[.bool (decide (Qq < 0)), .slice xq (lenB Qq.natAbs) dq] 24)).alloc (by have := hb.size; go_size) (.cells #[.bool (decide (Rq < 0)), .slice uq (lenB Rq.natAbs) vq] 24)
      have HBn := Lib.hid ((Bxs.new wq 24 [.bool (decide (Qq < 0)), .slice xq (lenB Qq.natAbs) dq]).alloc (.cells #[.bool (decide (Rq < 0)), .slice uq (lenB Rq.natAbs) vq] 24))
      have HOq := Lib.hid (((ho.mono HWS.out).allocd (.cells #[.bool (decide (Qq < 0)), .slice xq (lenB Qq.natAbs) dq] 24)).allocd (.cells #[.bool (decide (Rq < 0)), .slice uq (lenB Rq.natAbs) vq] 24))
      obtain ⟨vq', hV⟩ : ∃ V, V = (wq.alloc (.cells #[.bool (decide (Qq < 0)), .slice xq (lenB Qq.natAbs) dq] 24)).alloc (.cells #[.bool (decide (Rq < 0)), .slice uq (lenB Rq.natAbs) vq] 24) := ⟨_, rfl⟩
      rw [← hV] at hbV HOq
      rw [show (wq.alloc (.cells (List.toArray [.bool (decide (Qq < 0)), .slice xq (lenB Qq.natAbs) dq]) 24)).alloc (.cells #[.bool (decide (Rq < 0)), .slice uq (lenB Rq.natAbs) vq] 24) = vq' from hV.symm] at HBn
      rw [show (wq.alloc (.cells #[.bool (decide (Qq < 0)), .slice xq (lenB Qq.natAbs) dq] 24)).alloc (.cells #[.bool (decide (Rq < 0)), .slice uq (lenB Rq.natAbs) vq] 24) = vq' from hV.symm]
      obtain ⟨bq, hbn⟩ : ∃ b, b = wq.heap.size := ⟨_, rfl⟩
      rw [← hbn] at HBn ⊢
      clear hV hbn ho hb
      have HB1 := Lib.hid (HB1.out.below hbV HB1.out.lt)
      have HB2 := Lib.hid (HB2.out.below hbV HB2.out.lt)
      have HB3 := Lib.hid (HB3.out.below hbV HB3.out.lt)
      have HB4 := Lib.hid (HB4.out.below hbV HB4.out.lt)
      have HX1 := Lib.hid (HX1.out.below hbV)
      have HX2 := Lib.hid (HX2.out.below hbV)
      have HO4 := Lib.hid (HO4.out.below hbV)
      have HWS := Lib.hid (Nat.le_trans HWS.out hbV.size)
      have KG := Lib.hid (KG.out.trans (hbV.mono KG.out.size))
      clear hbV
      have HB5 := Lib.hid HBn.out
      clear HBn
      have DV := Lib.hid (fun (w' : World) (hb : Below vq'.heap.size vq' w') => rdiv_ok z2 G a2 xg c2 dg w' (HX2.out.rd.below hb) (by have := HN.out; omega) HC2.out (HO4.out.rd.below hb) (by have := HGL.out; omega) HO4.out.le HLOW.out.2.1)
      obtain ⟨Qr, hQr⟩ : ∃ Q, Q = z2 / G := ⟨_, rfl⟩
      obtain ⟨Rr, hRr⟩ : ∃ R, R = z2 % G := ⟨_, rfl⟩
      unfold DivF at DV
      rw [← hQr, ← hRr] at DV
      rw [← hQr] at HLOW
      clear hQr hRr
      have b2c0 := HB2.out.cell (i := 0) rfl
      have b2c1 := HB2.out.cell (i := 1) rfl
      have b2f := HB2.out.fz
      have b2l := HB2.out.lt
      have b4c0 := HB4.out.cell (i := 0) rfl
      have b4c1 := HB4.out.cell (i := 1) rfl
      have b4f := HB4.out.fz
      have b4l := HB4.out.lt
      go_wp2_with fail
      with_reducible refine (DV.out _ (Below.refl _ _)).mono ?_
      rintro e wr ⟨xr, dr, ur, vr, rfl, ho, -, hb⟩
      clear b2c0 b2c1 b2f b2l b4c0 b4c1 b4f b4l
      clear DV
      go_upto_region 9 with (fail)
      have hbV := (hb.alloc hb.size (.cells #[.bool (decide (Qr < 0)), .slice xr (lenB Qr.natAbs) dr] 24)).alloc (by have := hb.size; go_size) (.cells #[.bool (decide (Rr < 0)), .slice ur (lenB Rr.natAbs) vr] 24)
      have HBn := Lib.hid ((Bxs.new wr 24 [.bool (decide (Qr < 0)), .slice xr (lenB Qr.natAbs) dr]).alloc (.cells #[.bool (decide (Rr < 0)), .slice ur (lenB Rr.natAbs) vr] 24))
      have HOr := Lib.hid (((ho.mono HWS.out).allocd (.cells #[.bool (decide (Qr < 0)), .slice xr (lenB Qr.natAbs) dr] 24)).allocd (.cells #[.bool (decide (Rr < 0)), .slice ur (lenB Rr.natAbs) vr] 24))
      obtain ⟨vr', hV⟩ : ∃ V, V = (wr.alloc (.cells #[.bool (decide (Qr < 0)), .slice xr (lenB Qr.natAbs) dr] 24)).alloc (.cells #[.bool (decide (Rr < 0)), .slice ur (lenB Rr.natAbs) vr] 24) := ⟨_, rfl⟩
      rw [← hV] at hbV HOr
      rw [show (wr.alloc (.cells (List.toArray [.bool (decide (Qr < 0)), .slice xr (lenB Qr.natAbs) dr]) 24)).alloc (.cells #[.bool (decide (Rr < 0)), .slice ur (lenB Rr.natAbs) vr] 24) = vr' from hV.symm] at HBn
      rw [show (wr.alloc (.cells #[.bool (decide (Qr < 0)), .slice xr (lenB Qr.natAbs) dr] 24)).alloc (.cells #[.bool (decide (Rr < 0)), .slice ur (lenB Rr.natAbs) vr] 24) = vr' from hV.symm]
      obtain ⟨br, hbn⟩ : ∃ b, b = wr.heap.size := ⟨_, rfl⟩
      rw [← hbn] at HBn ⊢
      clear hV hbn ho hb
      have HB1 := Lib.hid (HB1.out.below hbV HB1.out.lt)
      have HB2 := Lib.hid (HB2.out.below hbV HB2.out.lt)
      have HB3 := Lib.hid (HB3.out.below hbV HB3.out.lt)
      have HB4 := Lib.hid (HB4.out.below hbV HB4.out.lt)
      have HB5 := Lib.hid (HB5.out.below hbV HB5.out.lt)
      have HX1 := Lib.hid (HX1.out.below hbV)
      have HX2 := Lib.hid (HX2.out.below hbV)
      have HO4 := Lib.hid (HO4.out.below hbV)
      have HOq := Lib.hid (HOq.out.below hbV)
      have HWS := Lib.hid (Nat.le_trans HWS.out hbV.size)
      have KG := Lib.hid (KG.out.trans (hbV.mono KG.out.size))
      clear hbV
      have HB6 := Lib.hid HBn.out
      clear HBn
      have b5c0 := HB5.out.cell (i := 0) rfl
      have b5c1 := HB5.out.cell (i := 1) rfl
      have b5f := HB5.out.fz
      have b5l := HB5.out.lt
      have b6c0 := HB6.out.cell (i := 0) rfl
      have b6c1 := HB6.out.cell (i := 1) rfl
      have b6f := HB6.out.fz
      have b6l := HB6.out.lt
      have b3c0 := HB3.out.cell (i := 0) rfl
      have b3c1 := HB3.out.cell (i := 1) rfl
      have b3c2 := HB3.out.cell (i := 2) rfl
      have b3c3 := HB3.out.cell (i := 3) rfl
      have b3f := HB3.out.fz
      have b3l := HB3.out.lt
      go_wp2_with fail
      have hws := HWS.out
      refine bodyPost_ret (results_cell rfl _ _ _ _ _ _ _ rfl (((((HB3.out).put 0 _).put 1 _).put 2 _).put 3 _) Tryz.underlying26 rfl (by kernel_rfl)) rfl ?_
      rw [← HLOW.out.2.2.1, ← HLOW.out.2.2.2.1]
      refine ⟨xq, dq, xr, dr, rfl, ?_, ?_, ?_⟩
      · exact (((((HOq.out).other (by dsimp only; omega) _).other (by dsimp only; omega) _).other (by dsimp only; omega) _).other (by dsimp only; omega) _).mono (by omega)
      · exact (((((HOr.out).other (by dsimp only; omega) _).other (by dsimp only; omega) _).other (by dsimp only; omega) _).other (by dsimp only; omega) _).mono (by omega)
      · exact ((((KG.out).setCell (by dsimp only; omega) _).setCell (by dsimp only; omega) _).setCell (by dsimp only; omega) _).setCell (by dsimp only; omega) _
theorem Own.setBox {T : Nat} {w : World} {base : Nat} {a : Option Addr} {n cap : Nat} {o : Nat → Int} (h : Own T w base a n cap o) {b : Nat} {t : TypeId} {l : List Value} (hb : Bxs w b t l) (ht : T ≠ t) (i : Nat) (v : Value) : Own T (w.setCell ⟨b, i, none⟩ v) base a n cap o := by
  refine ⟨h.le, h.place.imp id fun ⟨g, cur, ha, hg, hc, hr⟩ => ⟨g, cur, ha, hg, ?_, hr⟩, h.rng⟩
  rw [Below.heap_setCell _ _ _ _ ?_]
  · exact hc
  · intro e
    have e : g = b := e
    subst e
    have hb' : w.heap[g]? = some (.cells l.toArray t (0, 0)) := hb
    rw [hc] at hb'
    cases hb'
    exact ht rfl
theorem divInt_len (t l : Int) (hl : l ≠ 0) : lenB (Rat.divInt t l).num.natAbs ≤ lenB t.natAbs ∧ lenB ((Rat.divInt t l).den : Int).natAbs ≤ lenB l.natAbs := by
  rw [← low_num t l hl, ← low_den t l hl]
  exact ⟨lenB_mono (Int.natAbs_ediv_le_natAbs _ _), lenB_mono (Int.natAbs_ediv_le_natAbs _ _)⟩
theorem add_len {x y : Rat} {k : Nat} (h1 : lenB x.num.natAbs ≤ k) (h2 : lenB (x.den : Int).natAbs ≤ k) (h3 : lenB y.num.natAbs ≤ k) (h4 : lenB (y.den : Int).natAbs ≤ k) : lenB (x + y).num.natAbs ≤ 2 * k + 1 ∧ lenB ((x + y).den : Int).natAbs ≤ 2 * k := by
  rw [← rat_add x y]
  have h := divInt_len (x.num * (y.den : Int) + y.num * (x.den : Int)) ((x.den : Int) * (y.den : Int)) (Int.ne_of_gt (Int.mul_pos (rat_pos x) (rat_pos y)))
  have hl1 := lenB_mul_le x.num.natAbs (y.den : Int).natAbs
  have hl2 := lenB_mul_le y.num.natAbs (x.den : Int).natAbs
  have hl3 := lenB_mul_le (x.den : Int).natAbs (y.den : Int).natAbs
  rw [← Int.natAbs_mul] at hl1 hl2 hl3
  have hl5 := lenB_add (x.num * (y.den : Int)) (y.num * (x.den : Int))
  omega
set_option maxRecDepth 100000 in
set_option maxHeartbeats 2000000 in
theorem sameFrac_any (s1 : Bool) (a1 b1 : Option Addr) (n1 c1 d1 : Nat) (o1 : Nat → Int) (s2 : Bool) (a2 b2 : Option Addr) (n2 c2 d2 : Nat) (o2 : Nat → Int) (w : World) (h1 : Rd w a1 n1 o1) (g1 : Rd w b1 n1 o1) (hn1 : n1 ≤ 1000000000) (h2 : Rd w a2 n2 o2) (g2 : Rd w b2 n2 o2) (hn2 : n2 ≤ 1000000000) :
    Calls Tryz.prog 20 #[fracV s1 a1 n1 c1 s2 a2 n2 c2, fracV s1 b1 n1 d1 s2 b2 n2 d2] w fun e w' => e = .returned (.bool true) ∧ Below w.heap.size w w' := by
  have HB1 := Lib.hid ((Bxs.new (w) 26 [.bool s1, .slice a1 n1 c1, .bool s2, .slice a2 n2 c2]).alloc (.cells #[.bool s1, .slice b1 n1 d1, .bool s2, .slice b2 n2 d2] 26))
  have HB2 := Lib.hid (Bxs.new (w.alloc (.cells #[.bool s1, .slice a1 n1 c1, .bool s2, .slice a2 n2 c2] 26)) 26 [.bool s1, .slice b1 n1 d1, .bool s2, .slice b2 n2 d2])
  obtain ⟨W, hW⟩ : ∃ W, W = (w.alloc (.cells #[.bool s1, .slice a1 n1 c1, .bool s2, .slice a2 n2 c2] 26)).alloc (.cells #[.bool s1, .slice b1 n1 d1, .bool s2, .slice b2 n2 d2] 26) := ⟨_, rfl⟩
  have KG := Lib.hid (show Below w.heap.size w W by rw [hW]; exact ((Below.refl _ _).alloc (Nat.le_refl _) _).alloc (by go_size) _)
  have HWS := Lib.hid (show w.heap.size + 2 ≤ W.heap.size by rw [hW]; simp only [World.size_alloc]; omega)
  have HB1 := Lib.hid (show Bxs W (w.heap.size) 26 [.bool s1, .slice a1 n1 c1, .bool s2, .slice a2 n2 c2] by have h := HB1.out; rw [hW]; exact h)
  have HB2 := Lib.hid (show Bxs W (w.heap.size + 1) 26 [.bool s1, .slice b1 n1 d1, .bool s2, .slice b2 n2 d2] by have h := HB2.out; simp only [World.size_alloc] at h; rw [hW]; exact h)
  have HW := Lib.hid hW
  clear hW
  have SA := Lib.hid (fun (w' : World) (hb : Below w.heap.size w w') => sameNum_any s1 a1 b1 n1 c1 d1 o1 w' (h1.below hb) (g1.below hb) hn1)
  have SB := Lib.hid (fun (w' : World) (hb : Below w.heap.size w w') => sameNum_any s2 a2 b2 n2 c2 d2 o2 w' (h2.below hb) (g2.below hb) hn2)
  clear h1 g1 h2 g2
  go_enter Tryz.func20, Tryz.ntmps20
  go_upto_region 1 with (fail)
  rw [show (w.alloc (.cells #[.bool s1, .slice a1 n1 c1, .bool s2, .slice a2 n2 c2] 26)).alloc (.cells #[.bool s1, .slice b1 n1 d1, .bool s2, .slice b2 n2 d2] 26) = W from HW.out.symm]
  clear HW
  have b1c0 := HB1.out.cell (i := 0) rfl
  have b1c1 := HB1.out.cell (i := 1) rfl
  have b1c2 := HB1.out.cell (i := 2) rfl
  have b1c3 := HB1.out.cell (i := 3) rfl
  have b1f := HB1.out.fz
  have b1l := HB1.out.lt
  have b2c0 := HB2.out.cell (i := 0) rfl
  have b2c1 := HB2.out.cell (i := 1) rfl
  have b2c2 := HB2.out.cell (i := 2) rfl
  have b2c3 := HB2.out.cell (i := 3) rfl
  have b2f := HB2.out.fz
  have b2l := HB2.out.lt
  go_wp2_with fail
  with_reducible refine (SA.out _ KG.out).mono ?_
  rintro e w1 ⟨rfl, hb⟩
  clear b1c0 b1c1 b1c2 b1c3 b1f b1l b2c0 b2c1 b2c2 b2c3 b2f b2l
  have HB1 := Lib.hid (HB1.out.below hb HB1.out.lt)
  have HB2 := Lib.hid (HB2.out.below hb HB2.out.lt)
  have HWS := Lib.hid (Nat.le_trans HWS.out hb.size)
  have KG := Lib.hid (KG.out.trans (hb.mono KG.out.size))
  clear hb
  clear SA
  have b1c0 := HB1.out.cell (i := 0) rfl
  have b1c1 := HB1.out.cell (i := 1) rfl
  have b1c2 := HB1.out.cell (i := 2) rfl
  have b1c3 := HB1.out.cell (i := 3) rfl
  have b1f := HB1.out.fz
  have b1l := HB1.out.lt
  have b2c0 := HB2.out.cell (i := 0) rfl
  have b2c1 := HB2.out.cell (i := 1) rfl
  have b2c2 := HB2.out.cell (i := 2) rfl
  have b2c3 := HB2.out.cell (i := 3) rfl
  have b2f := HB2.out.fz
  have b2l := HB2.out.lt
  go_wp2_with fail
  with_reducible refine (SB.out _ KG.out).mono ?_
  rintro e w2 ⟨rfl, hb⟩
  clear b1c0 b1c1 b1c2 b1c3 b1f b1l b2c0 b2c1 b2c2 b2c3 b2f b2l
  have HB1 := Lib.hid (HB1.out.below hb HB1.out.lt)
  have HB2 := Lib.hid (HB2.out.below hb HB2.out.lt)
  have HWS := Lib.hid (Nat.le_trans HWS.out hb.size)
  have KG := Lib.hid (KG.out.trans (hb.mono KG.out.size))
  clear hb
  clear SB
  go_wp2_with fail
  go_ret
  exact ⟨rfl, KG.out⟩
set_option maxRecDepth 100000 in
set_option maxHeartbeats 2000000 in
theorem leftFrac_any (s1 : Bool) (p1 : Nat) (a1 : Option Addr) (n1 c1 : Nat) (o1 : Nat → Int) (s2 : Bool) (p2 : Nat) (a2 : Option Addr) (n2 c2 : Nat) (o2 : Nat → Int) (w : World) (g1 : Rd w (some ⟨p1, 0, none⟩) (n1 + 1) (tw o1 n1)) (h1 : Rd w a1 n1 o1) (hn1 : n1 ≤ 1000000000) (g2 : Rd w (some ⟨p2, 0, none⟩) (n2 + 1) (tw o2 n2)) (h2 : Rd w a2 n2 o2) (hn2 : n2 ≤ 1000000000) :
    Calls Tryz.prog 21 #[fracV s1 (some ⟨p1, 0, none⟩) n1 (n1 + 1) s2 (some ⟨p2, 0, none⟩) n2 (n2 + 1), fracV s1 a1 n1 c1 s2 a2 n2 c2] w fun e w' => e = .returned (.bool true) ∧ Below w.heap.size w w' := by
  have HB1 := Lib.hid ((Bxs.new (w) 26 [.bool s1, .slice (some ⟨p1, 0, none⟩) n1 (n1 + 1), .bool s2, .slice (some ⟨p2, 0, none⟩) n2 (n2 + 1)]).alloc (.cells #[.bool s1, .slice a1 n1 c1, .bool s2, .slice a2 n2 c2] 26))
  have HB2 := Lib.hid (Bxs.new (w.alloc (.cells #[.bool s1, .slice (some ⟨p1, 0, none⟩) n1 (n1 + 1), .bool s2, .slice (some ⟨p2, 0, none⟩) n2 (n2 + 1)] 26)) 26 [.bool s1, .slice a1 n1 c1, .bool s2, .slice a2 n2 c2])
  obtain ⟨W, hW⟩ : ∃ W, W = (w.alloc (.cells #[.bool s1, .slice (some ⟨p1, 0, none⟩) n1 (n1 + 1), .bool s2, .slice (some ⟨p2, 0, none⟩) n2 (n2 + 1)] 26)).alloc (.cells #[.bool s1, .slice a1 n1 c1, .bool s2, .slice a2 n2 c2] 26) := ⟨_, rfl⟩
  have KG := Lib.hid (show Below w.heap.size w W by rw [hW]; exact ((Below.refl _ _).alloc (Nat.le_refl _) _).alloc (by go_size) _)
  have HWS := Lib.hid (show w.heap.size + 2 ≤ W.heap.size by rw [hW]; simp only [World.size_alloc]; omega)
  have HB1 := Lib.hid (show Bxs W (w.heap.size) 26 [.bool s1, .slice (some ⟨p1, 0, none⟩) n1 (n1 + 1), .bool s2, .slice (some ⟨p2, 0, none⟩) n2 (n2 + 1)] by have h := HB1.out; rw [hW]; exact h)
  have HB2 := Lib.hid (show Bxs W (w.heap.size + 1) 26 [.bool s1, .slice a1 n1 c1, .bool s2, .slice a2 n2 c2] by have h := HB2.out; simp only [World.size_alloc] at h; rw [hW]; exact h)
  have HW := Lib.hid hW
  clear hW
  have SA := Lib.hid (fun (w' : World) (hb : Below w.heap.size w w') => leftNum_any s1 p1 a1 n1 c1 o1 w' (g1.below hb) (h1.below hb) hn1)
  have SB := Lib.hid (fun (w' : World) (hb : Below w.heap.size w w') => leftNum_any s2 p2 a2 n2 c2 o2 w' (g2.below hb) (h2.below hb) hn2)
  clear h1 g1 h2 g2
  go_enter Tryz.func21, Tryz.ntmps21
  go_upto_region 1 with (fail)
  rw [show (w.alloc (.cells #[.bool s1, .slice (some ⟨p1, 0, none⟩) n1 (n1 + 1), .bool s2, .slice (some ⟨p2, 0, none⟩) n2 (n2 + 1)] 26)).alloc (.cells #[.bool s1, .slice a1 n1 c1, .bool s2, .slice a2 n2 c2] 26) = W from HW.out.symm]
  clear HW
  have b1c0 := HB1.out.cell (i := 0) rfl
  have b1c1 := HB1.out.cell (i := 1) rfl
  have b1c2 := HB1.out.cell (i := 2) rfl
  have b1c3 := HB1.out.cell (i := 3) rfl
  have b1f := HB1.out.fz
  have b1l := HB1.out.lt
  have b2c0 := HB2.out.cell (i := 0) rfl
  have b2c1 := HB2.out.cell (i := 1) rfl
  have b2c2 := HB2.out.cell (i := 2) rfl
  have b2c3 := HB2.out.cell (i := 3) rfl
  have b2f := HB2.out.fz
  have b2l := HB2.out.lt
  go_wp2_with fail
  with_reducible refine (SA.out _ KG.out).mono ?_
  rintro e w1 ⟨rfl, hb⟩
  clear b1c0 b1c1 b1c2 b1c3 b1f b1l b2c0 b2c1 b2c2 b2c3 b2f b2l
  have HB1 := Lib.hid (HB1.out.below hb HB1.out.lt)
  have HB2 := Lib.hid (HB2.out.below hb HB2.out.lt)
  have HWS := Lib.hid (Nat.le_trans HWS.out hb.size)
  have KG := Lib.hid (KG.out.trans (hb.mono KG.out.size))
  clear hb
  clear SA
  have b1c0 := HB1.out.cell (i := 0) rfl
  have b1c1 := HB1.out.cell (i := 1) rfl
  have b1c2 := HB1.out.cell (i := 2) rfl
  have b1c3 := HB1.out.cell (i := 3) rfl
  have b1f := HB1.out.fz
  have b1l := HB1.out.lt
  have b2c0 := HB2.out.cell (i := 0) rfl
  have b2c1 := HB2.out.cell (i := 1) rfl
  have b2c2 := HB2.out.cell (i := 2) rfl
  have b2c3 := HB2.out.cell (i := 3) rfl
  have b2f := HB2.out.fz
  have b2l := HB2.out.lt
  go_wp2_with fail
  with_reducible refine (SB.out _ KG.out).mono ?_
  rintro e w2 ⟨rfl, hb⟩
  clear b1c0 b1c1 b1c2 b1c3 b1f b1l b2c0 b2c1 b2c2 b2c3 b2f b2l
  have HB1 := Lib.hid (HB1.out.below hb HB1.out.lt)
  have HB2 := Lib.hid (HB2.out.below hb HB2.out.lt)
  have HWS := Lib.hid (Nat.le_trans HWS.out hb.size)
  have KG := Lib.hid (KG.out.trans (hb.mono KG.out.size))
  clear hb
  clear SB
  go_wp2_with fail
  go_ret
  exact ⟨rfl, KG.out⟩
set_option maxRecDepth 100000 in
set_option maxHeartbeats 2000000 in
theorem twinFrac_any (s1 : Bool) (a1 : Option Addr) (n1 c1 : Nat) (o1 : Nat → Int) (s2 : Bool) (a2 : Option Addr) (n2 c2 : Nat) (o2 : Nat → Int) (w : World) (h1 : Rd w a1 n1 o1) (hn1 : n1 ≤ 100000000) (h2 : Rd w a2 n2 o2) (hn2 : n2 ≤ 100000000) :
    Calls Tryz.prog 11 #[fracV s1 a1 n1 c1 s2 a2 n2 c2] w fun e w' => ∃ g1 g2, e = .returned (fracV s1 (some ⟨g1, 0, none⟩) n1 (n1 + 1) s2 (some ⟨g2, 0, none⟩) n2 (n2 + 1)) ∧ Own 80 w' w.heap.size (some ⟨g1, 0, none⟩) (n1 + 1) (n1 + 1) (tw o1 n1) ∧ Own 80 w' w.heap.size (some ⟨g2, 0, none⟩) (n2 + 1) (n2 + 1) (tw o2 n2) ∧ g1 ≠ g2 ∧ Below w.heap.size w w' := by
  have HB1 := Lib.hid ((Bxs.new (w) 26 [.bool s1, .slice a1 n1 c1, .bool s2, .slice a2 n2 c2]).alloc (.cells #[.bool false, .slice none 0 0, .bool false, .slice none 0 0] 26))
  have HB2 := Lib.hid (Bxs.new (w.alloc (.cells #[.bool s1, .slice a1 n1 c1, .bool s2, .slice a2 n2 c2] 26)) 26 [.bool false, .slice none 0 0, .bool false, .slice none 0 0])
  obtain ⟨W, hW⟩ : ∃ W, W = (w.alloc (.cells #[.bool s1, .slice a1 n1 c1, .bool s2, .slice a2 n2 c2] 26)).alloc (.cells #[.bool false, .slice none 0 0, .bool false, .slice none 0 0] 26) := ⟨_, rfl⟩
  have KG := Lib.hid (show Below w.heap.size w W by rw [hW]; exact ((Below.refl _ _).alloc (Nat.le_refl _) _).alloc (by go_size) _)
  have HWS := Lib.hid (show w.heap.size + 2 ≤ W.heap.size by rw [hW]; simp only [World.size_alloc]; omega)
  have HB1 := Lib.hid (show Bxs W (w.heap.size) 26 [.bool s1, .slice a1 n1 c1, .bool s2, .slice a2 n2 c2] by have h := HB1.out; rw [hW]; exact h)
  have HB2 := Lib.hid (show Bxs W (w.heap.size + 1) 26 [.bool false, .slice none 0 0, .bool false, .slice none 0 0] by have h := HB2.out; simp only [World.size_alloc] at h; rw [hW]; exact h)
  have HW := Lib.hid hW
  clear hW
  have TA := Lib.hid (fun (w' : World) (hb : Below W.heap.size W w') => twinNum_any s1 a1 n1 c1 o1 w' (h1.below (KG.out.trans (hb.mono KG.out.size))) hn1)
  have TB := Lib.hid (fun (w' : World) (hb : Below W.heap.size W w') => twinNum_any s2 a2 n2 c2 o2 w' (h2.below (KG.out.trans (hb.mono KG.out.size))) hn2)
  have HWS0 := Lib.hid HWS.out
  clear h1 h2
  go_enter Tryz.func11, Tryz.ntmps11
  go_upto_region 1 with (fail)
  rw [show (w.alloc (.cells #[.bool s1, .slice a1 n1 c1, .bool s2, .slice a2 n2 c2] 26)).alloc (.cells #[.bool false, .slice none 0 0, .bool false, .slice none 0 0] 26) = W from HW.out.symm]
  clear HW
  have HS := Lib.hid (fun (w' : World) (hb : Below W.heap.size W w') => frac_box (HB1.out.below hb HB1.out.lt))
  refine wp_region_fresh 5 (spOf [(2, Sp.made (fun g : Nat => numV s1 (some ⟨g, 0, none⟩) n1 (n1 + 1)) (fun g w' => Own 80 w' W.heap.size (some ⟨g, 0, none⟩) (n1 + 1) (n1 + 1) (tw o1 n1)))]) (fun w' => Below W.heap.size W w') (by kernel_rfl) (by kernel_rfl)
    (spOf_cons (Sp.made_keeps fun x w w' h hb => h.below hb) spOf_nil) (fun _ _ h hb => h.trans (hb.mono h.size)) ((Below.refl _ _).drew) ?_
  simp only [List.take_succ_cons, List.take_zero, List.drop_succ_cons, List.drop_zero]
  (refine wpF_reads rfl rfl ?_ (fun w' hw' => ?_) ?_; rotate_left; · (have hb' := Has.world hw'; (skip); clear hw'; go_simp; try rfl))
  conv => arg 9; simp only [Act.put, List.setIfInBounds_toArray, List.set_cons_succ, List.set_cons_zero]
  (refine wpF_reads rfl rfl ?_ (fun w' hw' => ?_) ?_; rotate_left; · (have hb' := Has.world hw'; (obtain ⟨k0, k1, k2, k3, k4, k5⟩ := HS.out _ hb'); clear hw'; go_simp; try rfl))
  conv => arg 9; simp only [Act.put, List.setIfInBounds_toArray, List.set_cons_succ, List.set_cons_zero]
  (refine wpF_spec rfl rfl (fun w' hw' => ?_) ?_; · (have hb' := Has.world hw'; go_simp; ((refine (TA.out w' hb').mono ?_; rintro e w'' ⟨g, rfl, hO, hb⟩; exact ⟨_, rfl, ⟨⟨g, rfl⟩, ⟨g, rfl, hO.mono hb'.size⟩⟩, hb⟩))))
  rintro _ ⟨g, rfl⟩
  conv => arg 9; simp only [Act.put, List.setIfInBounds_toArray, List.set_cons_succ, List.set_cons_zero]
  (refine wpF_reads rfl rfl ?_ (fun w' hw' => ?_) ?_; rotate_left; · (have hb' := Has.world hw'; (skip); clear hw'; go_simp; try rfl))
  conv => arg 9; simp only [Act.put, List.setIfInBounds_toArray, List.set_cons_succ, List.set_cons_zero]
  (refine wpF_reads rfl rfl ?_ (fun w' hw' => ?_) ?_; rotate_left; · (have hb' := Has.world hw'; (obtain ⟨k0, k1, k2, k3, k4, k5⟩ := HS.out _ hb'); clear hw'; go_simp; try rfl))
  conv => arg 9; simp only [Act.put, List.setIfInBounds_toArray, List.set_cons_succ, List.set_cons_zero]
  refine wpF_nil (fun w1 hb1 hF => ?_)
  have HO1 := Lib.hid (show Own 80 w1 W.heap.size (some ⟨g, 0, none⟩) (n1 + 1) (n1 + 1) (tw o1 n1) by obtain ⟨x, e, h⟩ := hF 2; cases e; exact h)
  have T2 := Lib.hid (TB.out w1 hb1)
  clear hF HS TA TB
  have HB1 := Lib.hid (HB1.out.below hb1 HB1.out.lt)
  have HB2 := Lib.hid (HB2.out.below hb1 HB2.out.lt)
  have HWS := Lib.hid (Nat.le_trans HWS.out hb1.size)
  have KG := Lib.hid (KG.out.trans (hb1.mono KG.out.size))
  clear hb1
  go_wp2_with fail
  with_reducible refine T2.out.mono ?_
  rintro e w2 ⟨g2, rfl, hO2, hb⟩
  have HNE := Lib.hid (show g ≠ g2 by
    have h1 := (HO1.out.blk rfl).2.2
    have h2 := (hO2.blk rfl).2.1
    dsimp only at h1 h2
    omega)
  have HO2 := Lib.hid (hO2.mono HWS.out)
  clear hO2 T2
  have HB1 := Lib.hid (HB1.out.below hb HB1.out.lt)
  have HB2 := Lib.hid (HB2.out.below hb HB2.out.lt)
  have HO1 := Lib.hid (HO1.out.below hb)
  have HWS := Lib.hid (Nat.le_trans HWS.out hb.size)
  have KG := Lib.hid (KG.out.trans (hb.mono KG.out.size))
  clear hb
  have HO1 := Lib.hid (HO1.out.mono (show w.heap.size + 2 ≤ W.heap.size from HWS0.out))
  have b2c0 := HB2.out.cell (i := 0) rfl
  have b2c1 := HB2.out.cell (i := 1) rfl
  have b2c2 := HB2.out.cell (i := 2) rfl
  have b2c3 := HB2.out.cell (i := 3) rfl
  have b2f := HB2.out.fz
  have b2l := HB2.out.lt
  go_wp2_with fail
  have hws := HWS.out
  refine bodyPost_ret (results_cell rfl _ _ _ _ _ _ _ rfl (((((HB2.out).put 0 _).put 1 _).put 2 _).put 3 _) Tryz.underlying26 rfl (by kernel_rfl)) rfl ?_
  refine ⟨g, g2, rfl, ?_, ?_, HNE.out, ?_⟩
  · exact (((((HO1.out).other (by dsimp only; omega) _).other (by dsimp only; omega) _).other (by dsimp only; omega) _).other (by dsimp only; omega) _).mono (by omega)
  · exact (((((HO2.out).other (by dsimp only; omega) _).other (by dsimp only; omega) _).other (by dsimp only; omega) _).other (by dsimp only; omega) _).mono (by omega)
  · exact ((((KG.out).setCell (by dsimp only; omega) _).setCell (by dsimp only; omega) _).setCell (by dsimp only; omega) _).setCell (by dsimp only; omega) _
open Classical in
set_option maxHeartbeats 1000000 in
theorem great2_any (M g k c : Nat) (A A' : Nat → Option Addr) (N C N' C' : Nat → Nat) (w : World) (hc : ∀ i, i < k → w.cell? ⟨g, i * 4 + 1, none⟩ = some (.slice (A i) (N i) (C i))) (hc' : ∀ i, i < k → w.cell? ⟨g, i * 4 + 2 + 1, none⟩ = some (.slice (A' i) (N' i) (C' i))) (hk : k ≤ 1000) :
    Calls Tryz.prog 10 #[.int .i64 M, .slice (some ⟨g, 0, none⟩) k c] w fun e w' => e = .returned (.bool (decide (∃ i, i < k ∧ (M < N i ∨ M < N' i)))) ∧ w' = w := by
  have HC := Lib.hid (And.intro hc hc')
  have Y := Lib.hid (fun i (hi : i < k) (h : M < N i ∨ M < N' i) => (decide_eq_true ⟨i, hi, h⟩ : decide (∃ i, i < k ∧ (M < N i ∨ M < N' i)) = true))
  have Z := Lib.hid (fun (h : ∀ i, i < k → N i ≤ M ∧ N' i ≤ M) => (decide_eq_false (fun ⟨i, hi, h1⟩ => by have := h i hi; omega) : decide (∃ i, i < k ∧ (M < N i ∨ M < N' i)) = false))
  clear hc hc'
  go_enter Tryz.func10, Tryz.ntmps10
  go_wp2_with fail
  go_loopw [5] (fun v wr => ∃ i : Nat, i ≤ k ∧ v = .int .i64 i ∧ (∀ j, j < i → N j ≤ M ∧ N' j ≤ M) ∧ wr = w) (fun v _ => k - (intOf v).toNat)
  case atStart => exact ⟨0, by omega, rfl, fun j hj => by omega, rfl⟩
  case round =>
    obtain ⟨i, hi, rfl, hM, rfl⟩ := hrel
    have HM := Lib.hid hM
    clear hM
    by_cases hik : i < k
    · have c1 := HC.out.1 i hik
      have c2 := HC.out.2 i hik
      obtain ⟨n, hn⟩ : ∃ n, n = N i := ⟨_, rfl⟩
      obtain ⟨n', hn'⟩ : ∃ n', n' = N' i := ⟨_, rfl⟩
      rw [← hn] at c1
      rw [← hn'] at c2
      have EN := Lib.hid (And.intro hn hn')
      clear hn hn'
      by_cases hg : M < n
      · have x1 : (n : Int) > (M : Int) := by omega
        have E := Lib.hid (Y.out i hik (by rw [← EN.out.1]; exact Or.inl hg))
        go_wp2_with fail
        go_ret
        exact ⟨by rw [E.out]; rfl, rfl⟩
      · have x1 : ¬ (n : Int) > (M : Int) := by omega
        by_cases hg' : M < n'
        · have x2 : (n' : Int) > (M : Int) := by omega
          have E := Lib.hid (Y.out i hik (by rw [← EN.out.2]; exact Or.inr hg'))
          go_wp2_with fail
          go_ret
          exact ⟨by rw [E.out]; rfl, rfl⟩
        · have x2 : ¬ (n' : Int) > (M : Int) := by omega
          go_wp2_with fail
          go_roundw
          case rel =>
            refine ⟨i + 1, by omega, by go_num, fun j hj => ?_, by trivial⟩
            by_cases e : j = i
            · subst e; have := EN.out; omega
            · exact HM.out j (by omega)
          case measure => simp [intOf]; omega
    · obtain rfl : i = k := by omega
      have E := Lib.hid (Z.out HM.out)
      go_wp2_with fail
      go_ret
      exact ⟨by rw [E.out]; rfl, rfl⟩
end Go.Proofs.YtklidpbdgliemaaGreatDoor.Limb
