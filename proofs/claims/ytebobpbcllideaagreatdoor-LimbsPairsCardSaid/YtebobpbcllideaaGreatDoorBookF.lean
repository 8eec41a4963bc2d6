/-
  The walks of a Book's keepLimb, Limbs, Num: one list more.
-/
import Derived.Test.YtebobpbcllideaaGreatDoorBookE
import Derived.Test.YtebobpbcllideaaGreatDoorFreshG
namespace Go.Proofs.YtebobpbcllideaaGreatDoor.Book
open Go.RowKit Go.Sort Go.FreshG Go.Proofs.YtebobpbcllideaaGreatDoor.Limb

theorem infoHeld : (Tryz.prog.info? 78).map (fun i => (i.zero, i.size, i.bytes)) = some (some (.agg #[.slice none 0 0, .slice none 0 0, .int .i64 0]), 3, 56) := by kernel_rfl
/-- What a list adds to the Book's row. -/
def held (a : Option Addr) (n c k : Nat) : List Value := [.slice a n c, .slice none 0 0, .int .i64 ((k : Int) + 1)]
/-- A Book in memory: how many lists, where its row lies. -/
structure Bk (w : World) (b base k : Nat) (v : Value) (xs : List Value) : Prop where
  box : w.rowIs b 44 13 (bkf k v)
  row : w.ownsRow base 78 3 v k xs
  ne : v.ownBlock ≠ some b

/-- The Book's row, one list longer. -/
def Row1 (w : World) (base k : Nat) (xs : List Value) (a : Option Addr) (n c : Nat) (x : Value) : Prop := w.ownsRow base 78 3 x (k + 1) (xs ++ held a n c k)
/-- What an append to the Book's row leaves alone; and what it has done, it does not undo. -/
def Gr (base k : Nat) (v : Value) (xs : List Value) (a : Option Addr) (n c : Nat) (w w' : World) : Prop :=
  Touch (fun g => v.ownBlock = some g) w w' ∧ (w.ownsRow base 78 3 v k xs → w'.ownsRow base 78 3 v k xs) ∧ ∀ x, Row1 w base k xs a n c x → Row1 w' base k xs a n c x
theorem Gr.refl (base k : Nat) (v : Value) (xs : List Value) (a : Option Addr) (n c : Nat) (w : World) : Gr base k v xs a n c w w := ⟨Touch.refl _ _, fun h => h, fun _ h => h⟩
theorem Gr.grown {base k : Nat} {v : Value} {xs : List Value} {a : Option Addr} {n c : Nat} {w w' : World} (h : w.grownBy w' none) : Gr base k v xs a n c w w' := by
  refine ⟨(Touch.refl _ _).grown h (fun _ h => by cases h), fun hr => hr.kept h ?_, fun x hr => World.ownsRow.kept hr h ?_⟩
  · cases hv : v.ownBlock
    · exact .inl rfl
    · exact .inr (by simp)
  · cases hv : x.ownBlock
    · exact .inl rfl
    · exact .inr (by simp)
theorem Gr.alloc {base k : Nat} {v : Value} {xs : List Value} {a : Option Addr} {n c : Nat} (w : World) (o : Obj) : Gr base k v xs a n c w (w.alloc o) := Gr.grown (World.grownBy_alloc w o none)

theorem take_mid {L news : List Value} {m d : Nat} (hm : m ≤ L.length) (hn : news.length = d) : (L.take m ++ news ++ L.drop (m + d)).take (m + d) = L.take m ++ news := by
  have h : (L.take m ++ news).length = m + d := by simp [hn]; omega
  rw [← h]; exact List.take_left

theorem keep_append {w : World} {base k : Nat} {v : Value} {xs : List Value} (h : w.ownsRow base 78 3 v k xs) (hb : base ≤ w.heap.size) (hk : k ≤ 1000) (gs : Nat) (a : Option Addr) (n c : Nat)
    (hs : w.heap[gs]? = some (.cells #[.slice a n c, .slice none 0 0, .int .i64 ((k : Int) + 1)] 78 (0, 0))) (ty : Nat) :
    ∃ x w', (Builtin.append_ #[32, 32] ty #[v, .slice (some ⟨gs, 0, none⟩) 1 1]).run Tryz.prog w = .ok x w' ∧ Row1 w' base k xs a n c x ∧ Gr base k v xs a n c w w' ∧
      (v.ownBlock = x.ownBlock ∨ ∃ g, x.ownBlock = some g ∧ w.heap.size ≤ g) := by
  obtain ⟨i0, hi, hz0, hz1, hz2⟩ := info_parts infoHeld
  have hnews : ∀ j u, (held a n c k)[j]? = some u → w.cell? ((⟨gs, 0, none⟩ : Addr).add j) = some u := by
    intro j u hj
    rw [Addr.add_lit, Nat.zero_add, cell_of_row _ _ _ _ _ _ hs]
    match j, hj with
    | 0, hj => exact hj
    | 1, hj => exact hj
    | 2, hj => exact hj
    | j + 3, hj => simp [held] at hj
  have h1 : ∀ u ∈ held a n c k, u.oneCell' = true := by intro u hu; simp [held] at hu; rcases hu with rfl | rfl | rfl <;> rfl
  have hl : (held a n c k).length = 1 * 3 := rfl
  have hxl := h.1
  have hlen : (xs ++ held a n c k).length = (k + 1) * 3 := by rw [List.length_append, hxl]; show _ + 3 = _; omega
  have fresh : ∀ old, old < k + 1 → Row1 (w.drew.alloc (.cells (xs.toArray ++ (held a n c k).toArray ++ Builtin.zeroCells (Value.agg #[.slice none 0 0, .slice none 0 0, .int .i64 0]).cells (grownCap w (k + 1) old 78 - (k + 1))) 78)) base k xs a n c (.slice (some ⟨w.heap.size, 0, none⟩) (k + 1) (grownCap w (k + 1) old 78)) ∧
      w.grownBy (w.drew.alloc (.cells (xs.toArray ++ (held a n c k).toArray ++ Builtin.zeroCells (Value.agg #[.slice none 0 0, .slice none 0 0, .int .i64 0]).cells (grownCap w (k + 1) old 78 - (k + 1))) 78)) none := by
    intro old ho
    have hge := grownCap_ge w (k + 1) old 78
    have hcm := grownCap_le_maxLen w (k + 1) old 78 (by unfold maxLen; omega)
    refine ⟨⟨hlen, .inr ⟨w.heap.size, _, _, rfl, hb, heap_alloc_new w.drew _, hge, hcm, ?_, ?_⟩⟩, ⟨rfl, rfl, rfl, by simp, fun q hq _ => heap_alloc_old w.drew _ hq⟩⟩
    · simp only [Array.size_append, List.size_toArray, size_zeroCells, hxl, hl]
      show _ + _ + _ * 3 = _
      omega
    · simp only [Array.toList_append]
      rw [← hlen]
      exact List.take_left
  rcases h.2 with ⟨rfl, rfl⟩ | ⟨g, cap, cur, rfl, hbg, hg, hnc, hcm, hcs, htake⟩
  · have hx : xs = [] := List.eq_nil_of_length_eq_zero (by simpa using hxl)
    subst hx
    have hr := run_append_nil (P := Tryz.prog) w 32 ty 78 i0 _ Tryz.underlying32 hi hz0 ⟨gs, 0, none⟩ 1 1 (held a n c 0) (by rw [hz1]; rfl) hnews (by omega) (by omega) (by rw [hz2]; omega)
    have hgr := fresh 0 (by omega)
    simp only [Nat.zero_add, List.nil_append, Array.empty_append] at hgr
    exact ⟨_, _, hr, hgr.1, Gr.grown hgr.2, .inr ⟨_, rfl, Nat.le_refl _⟩⟩
  · by_cases hroom : k + 1 ≤ cap
    · have hr := run_append_room (P := Tryz.prog) w 32 ty 78 i0 Tryz.underlying32 hi g k cap cur hg ⟨gs, 0, none⟩ 1 1 (held a n c k) (by rw [hz1]; rfl) hnews h1 hroom (by rw [hz1, hl, hcs]; omega)
      rw [hz1, hl] at hr
      have hcl : k * 3 ≤ cur.toList.length := by rw [Array.length_toList, hcs]; omega
      have hnew := setRow_heap w g cur (cur.toList.take (k * 3) ++ held a n c k ++ cur.toList.drop (k * 3 + 1 * 3)).toArray 78 _ hg
      have hsz : (cur.toList.take (k * 3) ++ held a n c k ++ cur.toList.drop (k * 3 + 1 * 3)).toArray.size = cap * 3 := by
        simp only [List.size_toArray, List.length_append, List.length_take, List.length_drop, Array.length_toList, hl, hcs]
        omega
      have ht1 : (cur.toList.take (k * 3) ++ held a n c k ++ cur.toList.drop (k * 3 + 1 * 3)).take ((k + 1) * 3) = xs ++ held a n c k := by
        rw [show (k + 1) * 3 = k * 3 + 1 * 3 by omega, take_mid hcl hl, htake]
      have ht0 : (cur.toList.take (k * 3) ++ held a n c k ++ cur.toList.drop (k * 3 + 1 * 3)).take (k * 3) = xs := by
        have h3 := congrArg (List.take (k * 3)) ht1
        rw [List.take_take, Nat.min_eq_left (by omega), ← hxl, List.take_left] at h3
        rw [← hxl]; exact h3
      refine ⟨_, _, hr, ⟨hlen, .inr ⟨g, cap, _, rfl, hbg, hnew, hroom, hcm, hsz, ht1⟩⟩, ⟨?_, ?_, ?_⟩, .inl rfl⟩
      · exact ⟨rfl, rfl, rfl, by simp, fun q _ hq => setRow_other w g q _ (fun e => hq (by simp [Value.ownBlock, e]))⟩
      · exact fun _ => ⟨hxl, .inr ⟨g, cap, _, rfl, hbg, hnew, hnc, hcm, hsz, ht0⟩⟩
      · intro x hx
        rcases hx.2 with ⟨_, h0⟩ | ⟨g', cap', cur', rfl, hbg', hg', hnc', hcm', hcs', htake'⟩
        · omega
        · refine ⟨hlen, .inr ?_⟩
          by_cases e : g' = g
          · subst e
            have e2 : cur' = cur := by have := hg'.symm.trans hg; simpa using this
            subst e2
            exact ⟨g', cap', _, rfl, hbg', hnew, hnc', hcm', by rw [hsz]; omega, ht1⟩
          · exact ⟨g', cap', cur', rfl, hbg', (setRow_other w g g' _ e).trans hg', hnc', hcm', hcs', htake'⟩
    · have holds : ∀ j u, xs[j]? = some u → w.cell? ((⟨g, 0, none⟩ : Addr).add j) = some u := h.cells (g := g) rfl
      have hr := run_append_grow (P := Tryz.prog) w 32 ty 78 i0 _ Tryz.underlying32 hi hz0 ⟨g, 0, none⟩ k cap xs (by rw [hz1]; exact hxl) holds ⟨gs, 0, none⟩ 1 1 (held a n c k) (by rw [hz1]; rfl) hnews (by omega) (by omega) (growslice_fits (by omega) (by rw [hz2]; omega))
      have hgr := fresh cap (by omega)
      exact ⟨_, _, hr, hgr.1, Gr.grown hgr.2, .inr ⟨_, rfl, Nat.le_refl _⟩⟩

theorem gives_appendG {G : World → World → Prop} {P : Program} {o : Oper} {a : Act} {w w' : World} {Post : Value → World → Prop} {v u r : Value} (s x : Operand) (t : TypeId)
    (ho : o.op = .call { callee := .builtin .append, args := #[s, x], argTypes := #[t, t] }) (hs : a.eval s = v) (hx : a.eval x = u)
    (hr : (Builtin.append_ #[t, t] o.type #[v, u]).run P w = .ok r w') (hP : Post r w' ∧ G w w') : givesUpon P G w Post ((execOp a.eval o).run P w) := by
  unfold execOp
  simp only [ho, resolve, invoke, builtin, Sem.run_bind, Sem.run_pure, Result.andThen_ok, List.map_toArray, List.map_cons, List.map_nil, hs, hx, hr]
  exact hP

set_option maxRecDepth 100000 in
set_option maxHeartbeats 1000000 in
theorem keep_any (b base k : Nat) (v : Value) (xs : List Value) (a : Option Addr) (n c : Nat) (w : World) (hk : k ≤ 1000) (hB : Bk w b base k v xs) (hbase : base ≤ w.heap.size) :
    Calls Tryz.prog 92 #[.pointer (some ⟨b, 0, none⟩), .slice a n c] w fun e w' => (∃ u, e = .returned u) ∧ ∃ v', Bk w' b base (k + 1) v' (xs ++ held a n c k) ∧ (v.ownBlock = v'.ownBlock ∨ ∃ g, v'.ownBlock = some g ∧ w.heap.size ≤ g) ∧
      Touch (fun g => g = b ∨ v.ownBlock = some g) w w' := by
  obtain ⟨i0, hi, hz0, hz1, hz2⟩ := info_parts infoHeld
  have KB := Lib.hid hB
  have b0 : w.cell? ⟨b, 0, none⟩ = some (.int .i64 k) := hB.box.cell (i := 0) (by omega)
  have hfz := hB.box.frozen
  have e1 := IntWalk.i64_in ((k : Int) + 1) (by omega)
  clear hB
  go_enter Tryz.func92, Tryz.ntmps92
  go_upto_region 1 with (fail)
  obtain ⟨W, hW⟩ : ∃ W, W = w.setCell ⟨b, 0, none⟩ (.int .i64 ((k : Int) + 1)) := ⟨_, rfl⟩
  have X := (KB.out.box.set 0 (.int .i64 ((k : Int) + 1))).congr (g := bkf (k + 1) v) (fun i _ => by
    unfold bkf
    by_cases e : i = 0
    · rw [if_pos e, if_pos e]; rfl
    · rw [if_neg e, if_neg e, if_neg e])
  have R := KB.out.row.kept (w' := W) (row := some b) (by
    rw [hW]
    exact ⟨rfl, rfl, rfl, by simp, fun q _ hq => Below.heap_setCell _ _ _ _ (fun e => hq (by simp [e]))⟩) (Or.inr KB.out.ne)
  have hsz : W.heap.size = w.heap.size := by rw [hW]; simp
  have T := Lib.hid (show Touch (fun g => g = b ∨ v.ownBlock = some g) w W by rw [hW]; exact (Touch.refl _ _).setCell (p := ⟨b, 0, none⟩) (Or.inl (Or.inl rfl)) _)
  rw [← hW] at X
  rw [show (w.setCell ⟨b, 0, none⟩ (.int .i64 ((k : Int) + 1))) = W from hW.symm]
  have HX := Lib.hid X
  have HR := Lib.hid R
  have c0 : W.cell? ⟨b, 0, none⟩ = some (.int .i64 ((k : Int) + 1)) := X.cell (i := 0) (by omega)
  have c2 : W.cell? ⟨b, 2, none⟩ = some v := X.cell (i := 2) (by omega)
  have hfz := X.frozen
  have hlt := X.lt
  have hbase : base ≤ W.heap.size := by omega
  have hnb := KB.out.ne
  have HZ := Lib.hid hsz
  have f2 : W.frozen? ⟨b, 2, none⟩ = false := hfz 2
  clear X R hW b0 hsz hfz
  have HV := Lib.hid (fun g (hg : v.ownBlock = some g) => (HR.out.lt g hg).2)
  have HS := Lib.hid (fun (w' : World) (h : Touch (fun g => v.ownBlock = some g) W w') => And.intro ((World.cell?_of_block (a := ⟨b, 0, none⟩) (h.block b hlt hnb)).trans c0) (And.intro ((World.cell?_of_block (a := ⟨b, 2, none⟩) (h.block b hlt hnb)).trans c2) ((World.frozen?_of_block (a := ⟨b, 2, none⟩) (h.block b hlt hnb)).trans f2)))
  have HB := Lib.hid hbase
  have HN := Lib.hid hnb
  have HLT := Lib.hid hlt
  clear c0 c2 f2 hbase hnb hlt
  refine wp_region_fresh 15 (spOf [(11, Sp.made (fun g : Nat => .slice (some ⟨g, 0, none⟩) 1 1) (fun g w' => w'.heap[g]? = some (.cells #[.slice a n c, .slice none 0 0, .int .i64 ((k : Int) + 1)] 78 (0, 0)) ∧ W.heap.size ≤ g)),
      (12, Sp.made (fun x : Value => x) (fun x w' => Row1 w' base k xs a n c x ∧ (v.ownBlock = x.ownBlock ∨ ∃ g, x.ownBlock = some g ∧ W.heap.size ≤ g)))])
    (G := Gr base k v xs a n c) (fun w' => Touch (fun g => v.ownBlock = some g) W w' ∧ w'.ownsRow base 78 3 v k xs) (by kernel_rfl) (by kernel_rfl)
    (spOf_cons (Sp.made_keeps fun g w w' h hG => ⟨(hG.1.block g (lt_of_block h.1) (fun e => by have := HV.out g e; omega)).trans h.1, h.2⟩) (spOf_cons (Sp.made_keeps fun x w w' h hG => ⟨hG.2.2 x h.1, h.2⟩) spOf_nil))
    ⟨fun w => Gr.refl _ _ _ _ _ _ _ w, fun _ _ h hG => ⟨h.1.trans hG.1, hG.2.1 h.2⟩⟩ ⟨(Touch.refl _ _).drew, HR.out.kept (row := none) ⟨rfl, rfl, rfl, Nat.le_refl _, fun _ _ _ => rfl⟩ (by cases v.ownBlock; exact .inl rfl; exact .inr (by simp))⟩ ?_
  simp only [List.take_succ_cons, List.take_zero, List.drop_succ_cons, List.drop_zero]
  (refine wpF_reads rfl rfl ?_ (fun w' hw' => ?_) ?_; rotate_left; · (have hb' := Has.world hw'; (skip); clear hw'; go_simp; try rfl))
  (refine wpF_reads rfl rfl ?_ (fun w' hw' => ?_) ?_; rotate_left; · (have hb' := Has.world hw'; (skip); clear hw'; go_simp; try rfl))
  (refine wpF_reads rfl rfl ?_ (fun w' hw' => ?_) ?_; rotate_left; · (have hb' := Has.world hw'; (skip); clear hw'; go_simp; try rfl))
  (refine wpF_reads rfl rfl ?_ (fun w' hw' => ?_) ?_; rotate_left; · (have hb' := Has.world hw'; (skip); clear hw'; go_simp; try rfl))
  (refine wpF_reads rfl rfl ?_ (fun w' hw' => ?_) ?_; rotate_left; · (have hb' := Has.world hw'; (have hs := HS.out _ hb'.1); clear hw'; go_simp; try rfl))
  (refine wpF_reads rfl rfl ?_ (fun w' hw' => ?_) ?_; rotate_left; · (have hb' := Has.world hw'; (skip); clear hw'; go_simp; try rfl))
  (refine wpF_reads rfl rfl ?_ (fun w' hw' => ?_) ?_; rotate_left; · (have hb' := Has.world hw'; (skip); clear hw'; go_simp; try rfl))
  (refine wpF_reads rfl rfl ?_ (fun w' hw' => ?_) ?_; rotate_left; · (have hb' := Has.world hw'; (skip); clear hw'; go_simp; try rfl))
  (refine wpF_reads rfl rfl ?_ (fun w' hw' => ?_) ?_; rotate_left; · (have hb' := Has.world hw'; (skip); clear hw'; go_simp; try rfl))
  (refine wpF_reads rfl rfl ?_ (fun w' hw' => ?_) ?_; rotate_left; · (have hb' := Has.world hw'; (have hs := HS.out _ hb'.1); clear hw'; go_simp; try rfl))
  (refine wpF_reads rfl rfl ?_ (fun w' hw' => ?_) ?_; rotate_left; · (have hb' := Has.world hw'; (skip); clear hw'; go_simp; try rfl))
  refine wpF_spec rfl rfl (fun w' hw' => ?_) ?_
  · have hb' := hw'.world
    clear hw'
    go_simp
    refine ⟨⟨?_, hb'.1.size⟩, Gr.alloc _ _⟩
    show (w'.heap.push _)[w'.heap.size] = _
    simp
  rintro _ ⟨gs, rfl⟩
  refine wpF_spec rfl rfl (fun w' hw' => ?_) ?_
  · have hb' := hw'.world
    have h11 := hw'.fact 11 (by kernel_rfl)
    obtain ⟨g', eg, hg1, hg2⟩ := h11
    cases eg
    obtain ⟨x, w'', hrun, h1, h2, h3⟩ := keep_append hb'.2 (Nat.le_trans HB.out hb'.1.size) hk gs a n c hg1 32
    clear hw'
    refine gives_appendG (v := v) (u := .slice (some ⟨gs, 0, none⟩) 1 1) _ _ 32 (by rfl) (by (go_simp; try rfl)) (by (go_simp; try rfl)) hrun ?_
    exact ⟨⟨⟨x, rfl⟩, ⟨x, rfl, h1, h3.imp id fun ⟨g, e, hl⟩ => ⟨g, e, Nat.le_trans hb'.1.size hl⟩⟩⟩, h2⟩
  rintro y ⟨z, hz⟩
  obtain rfl : y = z := hz
  (refine wpF_reads rfl rfl ?_ (fun w' hw' => ?_) ?_; rotate_left; · (have hb' := Has.world hw'; (skip); clear hw'; go_simp; try rfl))
  (refine wpF_reads rfl rfl ?_ (fun w' hw' => ?_) ?_; rotate_left; · (have hb' := Has.world hw'; (skip); clear hw'; go_simp; try rfl))
  refine wpF_nil (fun w1 hC1 hF => ?_)
  obtain ⟨y', ey, hY1, hY2⟩ := hF 12
  obtain rfl : y = y' := ey
  obtain ⟨gy, cy, rfl⟩ : ∃ gy cy, y = Value.slice (some ⟨gy, 0, none⟩) (k + 1) cy := by
    rcases hY1.2 with ⟨_, h0⟩ | ⟨g, cap, cur, e, _⟩
    · omega
    · exact ⟨g, cap, e⟩
  have KY := Lib.hid (And.intro hY1 hY2)
  have KT := Lib.hid (T.out.trans (hC1.1.mono (fun g hg => Or.inr hg)))
  have KX := Lib.hid (HX.out.of_block (hC1.1.block b HLT.out HN.out))
  obtain ⟨d0, d2, df⟩ := HS.out _ hC1.1
  clear hF hC1 HS hY1 hY2
  go_wp2_with fail
  (try simp only [Exit.inBlock, Exit.then])
  refine bodyPost_end (results_none rfl _ _ _) rfl ?_
  refine ⟨⟨_, rfl⟩, Value.slice (some ⟨gy, 0, none⟩) (k + 1) cy, ⟨?_, ?_, ?_⟩, ?_, KT.out.setCell (p := ⟨b, 2, none⟩) (Or.inl (Or.inl rfl)) _⟩
  · refine (KX.out.set 2 (Value.slice (some ⟨gy, 0, none⟩) (k + 1) cy)).congr fun i _ => ?_
    unfold bkf
    by_cases e : i = 2
    · rw [if_pos e, if_neg (by omega), if_pos e]
    · rw [if_neg e]
      by_cases e0 : i = 0
      · rw [if_pos e0, if_pos e0]
      · rw [if_neg e0, if_neg e0, if_neg e, if_neg e]
  · refine World.ownsRow.kept (row := some b) KY.out.1 ⟨rfl, rfl, rfl, by simp, fun q _ hq => Below.heap_setCell _ _ _ _ (fun e => hq (by simp [e]))⟩ (Or.inr ?_)
    rcases KY.out.2 with h | ⟨g, h, hl⟩
    · rw [← h]; exact HN.out
    · rw [h]; intro e; cases e; have := HLT.out; omega
  · rcases KY.out.2 with h | ⟨g, h, hl⟩
    · rw [← h]; exact HN.out
    · rw [h]; intro e; cases e; have := HLT.out; omega
  · rcases KY.out.2 with h | ⟨g, h, hl⟩
    · exact .inl h
    · exact .inr ⟨g, h, by have := HZ.out; omega⟩
end Go.Proofs.YtebobpbcllideaaGreatDoor.Book
