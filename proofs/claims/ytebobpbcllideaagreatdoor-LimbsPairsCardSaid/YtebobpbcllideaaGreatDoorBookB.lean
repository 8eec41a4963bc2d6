/-
  The walk of a Book's fillLimb: marks into all lists.
-/
import Derived.Test.YtebobpbcllideaaGreatDoorBookA
import Derived.Deep.DeepCutAuto
namespace Go.Proofs.YtebobpbcllideaaGreatDoor.Book
open Go.RowKit Go.Sort Go.Fresh Go.Proofs.YtebobpbcllideaaGreatDoor.Limb

/-- A Book's cells. -/
def bkf (k : Nat) (v : Value) (i : Nat) : Value := if i = 0 then .int .i64 k else if i = 2 then v else .slice none 0 0
/-- The row of what it holds: each list, what it became, its number. -/
def Arr (w : World) (vb k : Nat) (A : Nat → Option Addr) (N C : Nat → Nat) (X : Nat → Value) : Prop :=
  ∃ m f, w.rowIs vb 78 m f ∧ ∀ j, j < k → 3 * j + 2 < m ∧ f (3 * j) = .slice (A j) (N j) (C j) ∧ f (3 * j + 1) = X j ∧ f (3 * j + 2) = .int .i64 ((j : Int) + 1)
theorem Arr.cells {w : World} {vb k : Nat} {A : Nat → Option Addr} {N C : Nat → Nat} {X : Nat → Value} (h : Arr w vb k A N C X) {j : Nat} (hj : j < k) :
    w.cell? ⟨vb, j * 3, none⟩ = some (.slice (A j) (N j) (C j)) ∧ w.cell? ⟨vb, j * 3 + 1, none⟩ = some (X j) ∧ w.cell? ⟨vb, j * 3 + 2, none⟩ = some (.int .i64 ((j : Int) + 1)) ∧ (∀ i, w.frozen? ⟨vb, i, none⟩ = false) ∧ vb < w.heap.size := by
  obtain ⟨m, f, hR, hE⟩ := h
  obtain ⟨h1, h2, h3, h4⟩ := hE j hj
  rw [Nat.mul_comm j 3]
  exact ⟨by rw [← h2]; exact hR.cell (by omega), by rw [← h3]; exact hR.cell (by omega), by rw [← h4]; exact hR.cell (by omega), hR.frozen, hR.lt⟩
theorem Arr.keep {w w' : World} {vb k : Nat} {A : Nat → Option Addr} {N C : Nat → Nat} {X : Nat → Value} (h : Arr w vb k A N C X) (e : w'.heap[vb]? = w.heap[vb]?) : Arr w' vb k A N C X := by
  obtain ⟨m, f, hR, hE⟩ := h
  exact ⟨m, f, hR.of_block e, hE⟩
theorem Arr.lt {w : World} {vb k : Nat} {A : Nat → Option Addr} {N C : Nat → Nat} {X : Nat → Value} (h : Arr w vb k A N C X) : vb < w.heap.size := by
  obtain ⟨m, f, hR, hE⟩ := h
  exact hR.lt
theorem Arr.setLong {w : World} {vb k : Nat} {A : Nat → Option Addr} {N C : Nat → Nat} {X : Nat → Value} (h : Arr w vb k A N C X) (i : Nat) (v : Value) : Arr (w.setCell ⟨vb, i * 3 + 1, none⟩ v) vb k A N C (fun j => if j = i then v else X j) := by
  obtain ⟨m, f, hR, hE⟩ := h
  refine ⟨m, _, hR.set (i * 3 + 1) v, fun j hj => ?_⟩
  obtain ⟨h1, h2, h3, h4⟩ := hE j hj
  refine ⟨h1, ?_, ?_, ?_⟩
  · rw [if_neg (by omega)]; exact h2
  · show (if 3 * j + 1 = i * 3 + 1 then v else f (3 * j + 1)) = if j = i then v else X j
    by_cases e : j = i
    · subst e; rw [if_pos (by omega), if_pos rfl]
    · rw [if_neg (by omega), if_neg e]; exact h3
  · rw [if_neg (by omega)]; exact h4
/-- The blocks of the lists. -/
def UA (k : Nat) (A : Nat → Option Addr) (g : Nat) : Prop := ∃ j, j < k ∧ ∃ p, A j = some p ∧ p.block = g
/-- No two lists lie in one block. -/
def Part (k : Nat) (A : Nat → Option Addr) : Prop := ∀ i, i < k → ∀ j, j < k → i ≠ j → ∀ p q, A i = some p → A j = some q → p.block ≠ q.block

/-- One cell of list i is written. -/
theorem own_step {k i t g : Nat} {A : Nat → Option Addr} {N C : Nat → Nat} {O : Nat → Nat → Int} {w : World} {v : Int} (hD : Part k A) (hO : ∀ j, j < k → Own 57 w 0 (A j) (N j) (C j) (O j)) (hi : i < k) (hg : A i = some ⟨g, 0, none⟩) (ht : t < N i) (hv : 0 ≤ v ∧ v ≤ 4294967295) :
    ∀ j, j < k → Own 57 (w.setCell ⟨g, t, none⟩ (.int .u32 v)) 0 (A j) (N j) (C j) (if j = i then upd (O i) t v else O j) := by
  intro j hj
  by_cases e : j = i
  · subst e
    rw [if_pos rfl, hg]
    have h := hO j hj
    rw [hg] at h
    exact h.put ht hv
  · rw [if_neg e]
    exact (hO j hj).keep fun p hp => Below.heap_setCell _ _ _ _ (fun he => hD j hj i hi e p _ hp hg he)

def hcell (a : Option Addr) (n c : Nat) (x : Value) (q : Int) (i : Nat) : Value := if i = 0 then .slice a n c else if i = 1 then x else .int .i64 q

set_option maxHeartbeats 4000000 in
theorem fill_any (b vb k cap : Nat) (A : Nat → Option Addr) (N C : Nat → Nat) (O : Nat → Nat → Int) (w : World) (hk : k ≤ 1000) (hB : w.rowIs b 44 13 (bkf k (.slice (some ⟨vb, 0, none⟩) k cap)))
    (hA : Arr w vb k A N C (fun _ => .slice none 0 0)) (hO : ∀ j, j < k → Own 57 w 0 (A j) (N j) (C j) (O j)) (hN : ∀ j, j < k → N j ≤ 1000000000) (hS : ¬ UA k A b ∧ ¬ UA k A vb) (hD : Part k A) :
    Calls Tryz.prog 46 #[.pointer (some ⟨b, 0, none⟩)] w fun e w' => (∃ v, e = .returned v) ∧ Touch (UA k A) w w' ∧ ∀ j, j < k → Own 57 w' 0 (A j) (N j) (C j) (fun _ => mk j) := by
  have HB := Lib.hid hB; have HA := Lib.hid hA; have HO := Lib.hid hO; have HS := Lib.hid hS; have HD := Lib.hid hD; have HN := Lib.hid hN
  clear hB hA hO hS hD hN
  go_enter Tryz.func46, Tryz.ntmps46
  go_wp2_with fail
  go_loopw [2] (fun v wr => ∃ i : Nat, i ≤ k ∧ v = .int .i64 i ∧ Touch (UA k A) w wr ∧ ∃ OO : Nat → Nat → Int, (∀ j, j < k → Own 57 wr 0 (A j) (N j) (C j) (OO j)) ∧ ∀ j, j < i → ∀ c, c < N j → OO j c = mk j) (fun v _ => k - (intOf v).toNat)
  case atStart => exact ⟨0, by omega, rfl, Touch.refl _ _, O, HO.out, fun j hj => by omega⟩
  case round =>
    obtain ⟨w1, rfl⟩ : ∃ w1, w1 = wr := ⟨_, rfl⟩
    obtain ⟨i, hik, rfl, hT, OO, hOO, hM⟩ := hrel
    have KT := Lib.hid hT; have KO := Lib.hid hOO; have KM := Lib.hid hM
    have KB := Lib.hid (HB.out.of_block (hT.block _ HB.out.lt HS.out.1))
    have KA := Lib.hid (HA.out.keep (hT.block _ HA.out.lt HS.out.2))
    clear hT hOO hM
    have b2 : w1.cell? ⟨b, 2, none⟩ = some (.slice (some ⟨vb, 0, none⟩) k cap) := KB.out.cell (i := 2) (by omega)
    by_cases hi : i < k
    · obtain ⟨a0, a1, a2, -, hvb⟩ := KA.out.cells hi
      obtain ⟨a, ha⟩ : ∃ a, a = A i := ⟨_, rfl⟩
      obtain ⟨n, hn⟩ : ∃ n, n = N i := ⟨_, rfl⟩
      obtain ⟨c, hc⟩ : ∃ c, c = C i := ⟨_, rfl⟩
      rw [← ha, ← hn, ← hc] at a0
      have EA := Lib.hid ha; have EN := Lib.hid hn; have EC := Lib.hid hc
      have hnb : n ≤ 1000000000 := by rw [hn]; exact HN.out i hi
      clear ha hn hc
      go_wp2_with fail
      go_loopw [4] (fun v wr2 => ∃ t : Nat, t ≤ n ∧ v = .int .i64 t ∧ wr2.rowIs w1.heap.size 78 3 (hcell a n c (.slice none 0 0) ((i : Int) + 1)) ∧ Touch (UA k A) w wr2 ∧
        ∃ OO : Nat → Nat → Int, (∀ j, j < k → Own 57 wr2 0 (A j) (N j) (C j) (OO j)) ∧ (∀ j, j < i → ∀ c, c < N j → OO j c = mk j) ∧ ∀ c, c < t → OO i c = mk i) (fun v _ => n - (intOf v).toNat)
      case atStart =>
        refine ⟨0, by omega, rfl, ?_, KT.out.alloc _, OO, fun j hj => (KO.out j hj).below ((Below.refl _ _).alloc (Nat.le_refl _) _), KM.out, fun c hc => by omega⟩
        have h := World.rowIs_alloc w1 #[Value.slice a n c, Value.slice none 0 0, Value.int IntKind.i64 ((i : Int) + 1)] 78 (hcell a n c (.slice none 0 0) ((i : Int) + 1)) (fun q hq => by
          match q, hq with
          | 0, _ => rfl
          | 1, _ => rfl
          | 2, _ => rfl)
        exact h
      case round =>
        obtain ⟨t, htn, rfl, hH, hT2, OO2, hOO2, hM2, hM3⟩ := hrel
        have LT := Lib.hid hT2; have LO := Lib.hid hOO2; have LM := Lib.hid (And.intro hM2 hM3); have LH := Lib.hid hH
        have hwr : w.heap.size ≤ w1.heap.size := KT.out.size
        have hc0 : wr.cell? ⟨w1.heap.size, 0, none⟩ = some (.slice a n c) := hH.cell (i := 0) (by omega)
        have hc2 : wr.cell? ⟨w1.heap.size, 2, none⟩ = some (.int .i64 ((i : Int) + 1)) := hH.cell (i := 2) (by omega)
        clear hH hT2 hOO2 hM2 hM3
        by_cases ht : t < n
        · obtain ⟨g, hg⟩ := (LO.out i hi).some_of_pos (by rw [← EN.out]; omega)
          obtain rfl := EA.out.trans hg
          have hO := LO.out i hi
          rw [← EA.out, ← EN.out] at hO
          obtain ⟨vo, hco⟩ : ∃ vo, wr.cell? ⟨g, t, none⟩ = some vo := ⟨_, hO.cell ht⟩
          have hfz := hO.fz
          have hglt := (hO.blk rfl).2.2
          have hgw : g < w.heap.size := ((HO.out i hi).blk hg).2.2
          have HS1 := Lib.hid (fun (w' : World) (hb : Below wr.heap.size wr w') => And.intro ((hb.cell (p := ⟨w1.heap.size, 0, none⟩) LH.out.lt).trans hc0) ((hb.cell (p := ⟨w1.heap.size, 2, none⟩) LH.out.lt).trans hc2))
          have hlt : w1.heap.size < wr.heap.size := LH.out.lt
          clear hO
          go_wp2_with fail
          refine wp_region_fresh 7 (spOf [(5, Sp.know (.int .u32 (mk i)))]) (fun w' => Below wr.heap.size wr w') (by kernel_rfl) (by kernel_rfl)
            (spOf_cons (Sp.know_keeps _) spOf_nil) (fun _ _ h hb => h.trans (hb.mono h.size)) ((Below.refl _ _).drew) ?_
          simp only [List.take_succ_cons, List.take_zero, List.drop_succ_cons, List.drop_zero]
          (refine wpF_reads rfl rfl ?_ (fun w' hw' => ?_) ?_; rotate_left; · (have hb' := Has.world hw'; (skip); clear hw'; go_simp; try rfl))
          (refine wpF_reads rfl rfl ?_ (fun w' hw' => ?_) ?_; rotate_left; · (have hb' := Has.world hw'; (have hs := HS1.out _ hb'); clear hw'; go_simp; try rfl))
          (refine wpF_reads rfl rfl ?_ (fun w' hw' => ?_) ?_; rotate_left; · (have hb' := Has.world hw'; (skip); clear hw'; go_simp; try rfl))
          (refine wpF_reads rfl rfl ?_ (fun w' hw' => ?_) ?_; rotate_left; · (have hb' := Has.world hw'; (skip); clear hw'; go_simp; try rfl))
          (refine wpF_reads rfl rfl ?_ (fun w' hw' => ?_) ?_; rotate_left; · (have hb' := Has.world hw'; (have hs := HS1.out _ hb'); clear hw'; go_simp; try rfl))
          (refine wpF_spec rfl rfl (fun w' hw' => ?_) ?_; · (have hb' := Has.world hw'; go_simp; ((refine (mark_any i w' (by omega)).mono ?_; rintro e w'' ⟨rfl, rfl⟩; exact ⟨_, rfl, rfl, Below.refl _ _⟩))))
          rintro _ rfl
          (refine wpF_reads rfl rfl ?_ (fun w' hw' => ?_) ?_; rotate_left; · (have hb' := Has.world hw'; (skip); clear hw'; go_simp; try rfl))
          refine wpF_nil (fun w5 hb5 hF5 => ?_)
          clear hF5 HS1
          have LH := Lib.hid (LH.out.of_block (hb5.block _ LH.out.lt))
          have LT := Lib.hid (LT.out.trans (Touch.of_below (hb5.mono (Nat.le_refl _))))
          have LO := Lib.hid (fun j hj => (LO.out j hj).below hb5)
          have hco := (hb5.cell (p := ⟨g, t, none⟩) hglt).trans hco
          have hfz := fun q => (hb5.frozen (p := ⟨g, q, none⟩) hglt).trans (hfz q)
          have ST := Lib.hid (own_step HD.out LO.out hi hg (by rw [← EN.out]; exact ht) (mk_rng (j := i) (by omega)))
          clear hb5
          go_wp2_with fail
          go_roundw
          case rel =>
            refine ⟨t + 1, by omega, by go_num, LH.out.setOther (by dsimp only; omega) _, LT.out.setCell (p := ⟨g, t, none⟩) (Or.inl ⟨i, hi, _, hg, rfl⟩) _, _, ST.out, ?_, ?_⟩
            · intro j hj c hc
              rw [if_neg (by omega)]
              exact LM.out.1 j hj c hc
            · intro c hc
              rw [if_pos rfl]
              by_cases e : c = t
              · subst e; exact upd_same _ _ _
              · rw [upd_ne _ _ e]; exact LM.out.2 c (by omega)
          case measure => simp [intOf]; omega
        · obtain rfl : t = n := by omega
          go_wp2_with fail
          go_roundw
          case rel =>
            refine ⟨i + 1, by omega, by go_num, LT.out, OO2, LO.out, fun j hj c hc => ?_⟩
            by_cases e : j = i
            · subst e; exact LM.out.2 c (by rw [EN.out]; exact hc)
            · exact LM.out.1 j (by omega) c hc
          case measure => simp [intOf]; omega
    · obtain rfl : i = k := by omega
      go_wp2_with fail
      (try simp only [Exit.inBlock, Exit.then])
      refine bodyPost_end (results_none rfl _ _ _) rfl ?_
      exact ⟨⟨_, rfl⟩, KT.out, fun j hj => (KO.out j hj).congr fun c hc => KM.out j hj c hc⟩
end Go.Proofs.YtebobpbcllideaaGreatDoor.Book
