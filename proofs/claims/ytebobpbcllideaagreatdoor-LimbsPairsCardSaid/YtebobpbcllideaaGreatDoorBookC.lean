/-
  The walk of a Book's growLimb: forty marks more behind each list.
-/
import Derived.Test.YtebobpbcllideaaGreatDoorBookB
namespace Go.Proofs.YtebobpbcllideaaGreatDoor.Book
open Go.RowKit Go.Sort Go.Fresh Go.Proofs.YtebobpbcllideaaGreatDoor.Limb

theorem Arr.congr {w : World} {vb k : Nat} {A : Nat → Option Addr} {N C : Nat → Nat} {X Y : Nat → Value} (h : Arr w vb k A N C X) (e : ∀ j, j < k → X j = Y j) : Arr w vb k A N C Y := by
  obtain ⟨m, f, hR, hE⟩ := h
  exact ⟨m, f, hR, fun j hj => by rw [← e j hj]; exact hE j hj⟩

end Go.Proofs.YtebobpbcllideaaGreatDoor.Book
namespace Go.Proofs.YtebobpbcllideaaGreatDoor.Limb
open Go.RowKit
theorem Own.allocd {T : Nat} {w : World} {base : Nat} {a : Option Addr} {n cap : Nat} {o : Nat → Int} (h : Own T w base a n cap o) (x : Obj) : Own T (w.alloc x) base a n cap o := h.below ((Below.refl _ _).alloc (Nat.le_refl _) x)
end Go.Proofs.YtebobpbcllideaaGreatDoor.Limb
namespace Go.Proofs.YtebobpbcllideaaGreatDoor.Book
open Go.RowKit Go.Sort Go.Fresh Go.Proofs.YtebobpbcllideaaGreatDoor.Limb

/-- While list i is grown: what has been put behind it so far. -/
structure GrowI (w1 wr : World) (i n : Nat) (ai : Option Addr) (ci t : Nat) (a : Option Addr) (c : Nat) (hv : Nat → Value) : Prop where
  own : Own 57 wr 0 a (n + t) c (fun _ => mk i)
  old : Own 57 wr 0 ai n ci (fun _ => mk i)
  plc : (a = ai ∧ c = ci) ∨ ∃ g, a = some ⟨g, 0, none⟩ ∧ w1.heap.size < g
  box : wr.rowIs w1.heap.size 78 3 hv
  tch : Touch (fun g => ∃ p, ai = some p ∧ p.block = g) w1 wr
  olt : ∀ p, ai = some p → p.block < w1.heap.size

theorem grow_step {w1 wr w2 : World} {i n t c ci c' : Nat} {a ai a' : Option Addr} {hv : Nat → Value} {o : Obj} (G : GrowI w1 wr i n ai ci t a c hv) (hown : Own 57 w2 0 a' (n + t + 1) c' (upd (fun _ => mk i) (n + t) (mk i)))
    (hcase : (a' = a ∧ c' = c ∧ (wr.alloc o).grownBy w2 (a.map (·.block))) ∨ ((∃ g, a' = some ⟨g, 0, none⟩ ∧ wr.heap.size + 1 ≤ g) ∧ (wr.alloc o).grownBy w2 none ∧ c < n + t + 1)) :
    GrowI w1 w2 i n ai ci (t + 1) a' c' hv := by
  have hown' : Own 57 w2 0 a' (n + (t + 1)) c' (fun _ => mk i) := hown.congr fun q _ => by unfold upd; split <;> rfl
  have hsz := G.tch.size
  have hbx := G.box.lt
  have oldw : Own 57 (wr.alloc o) 0 ai n ci (fun _ => mk i) := G.old.keep fun p hp => Below.heap_alloc _ _ _ (by have := G.olt p hp; omega)
  have boxw : (wr.alloc o).rowIs w1.heap.size 78 3 hv := G.box.alloc o
  have tchw := G.tch.alloc o
  rcases hcase with ⟨rfl, rfl, hg⟩ | ⟨⟨g, rfl, hlt⟩, hg, -⟩
  · rcases G.plc with ⟨rfl, rfl⟩ | ⟨g, rfl, hlt⟩
    · refine ⟨hown', hown'.less (by omega), .inl ⟨rfl, rfl⟩, boxw.of_block (hg.block _ (by simp; omega) (fun e => ?_)), tchw.grown hg (fun q hq => ?_), G.olt⟩
      · cases h : a' with
        | none => rw [h] at e; cases e
        | some p => rw [h] at e; simp at e; have := G.olt p h; omega
      · cases h : a' with
        | none => rw [h] at hq; cases hq
        | some p => rw [h] at hq; simp at hq; exact .inl ⟨p, rfl, hq⟩
    · refine ⟨hown', oldw.keep (fun p hp => hg.block _ (by have := G.olt p hp; simp; omega) (fun e => by have := G.olt p hp; simp at e; omega)), .inr ⟨g, rfl, hlt⟩, boxw.of_block (hg.block _ (by simp; omega) (fun e => by simp at e; omega)),
        tchw.grown hg (fun q hq => .inr (by simp at hq; omega)), G.olt⟩
  · refine ⟨hown', oldw.keep (fun p hp => hg.block _ (by have := G.olt p hp; simp; omega) (fun e => by cases e)), .inr ⟨g, rfl, by omega⟩, boxw.of_block (hg.block _ (by simp; omega) (fun e => by cases e)),
      tchw.grown hg (fun q hq => by cases hq), G.olt⟩

/-- Ahead of list i: what has been grown. -/
structure GrowO (w wr : World) (vb k : Nat) (A : Nat → Option Addr) (N C : Nat → Nat) (i : Nat) (LA : Nat → Option Addr) (LC : Nat → Nat) : Prop where
  tch : Touch (fun g => UA k A g ∨ g = vb) w wr
  arr : Arr wr vb k A N C (fun j => if j < i then .slice (LA j) (N j + 40) (LC j) else .slice none 0 0)
  own : ∀ j, j < k → Own 57 wr 0 (A j) (N j) (C j) (fun _ => mk j)
  lng : ∀ j, j < i → Own 57 wr 0 (LA j) (N j + 40) (LC j) (fun _ => mk j) ∧ (LA j = A j ∨ ∃ g, LA j = some ⟨g, 0, none⟩ ∧ w.heap.size ≤ g)

theorem grow_round {w w1 wr : World} {vb k i c : Nat} {A LA : Nat → Option Addr} {N C LC : Nat → Nat} {a : Option Addr} {hv : Nat → Value} (GO : GrowO w w1 vb k A N C i LA LC) (hi : i < k) (G : GrowI w1 wr i (N i) (A i) (C i) 40 a c hv)
    (hS : ¬ UA k A vb) (hD : Part k A) (hvb : vb < w.heap.size) (hA : ∀ j, j < k → ∀ p, A j = some p → p.block < w.heap.size) :
    GrowO w (wr.setCell ⟨vb, i * 3 + 1, none⟩ (.slice a (N i + 40) c)) vb k A N C (i + 1) (fun j => if j = i then a else LA j) (fun j => if j = i then c else LC j) := by
  have hsz := GO.tch.size
  have hnv : ∀ j, j < k → ∀ p, A j = some p → p.block ≠ vb := fun j hj p hp e => hS ⟨j, hj, p, hp, e⟩
  refine ⟨?_, ?_, fun j hj => ?_, fun j hj => ?_⟩
  · exact (GO.tch.trans (G.tch.weak fun q _ ⟨p, hp, e⟩ => Or.inl ⟨i, hi, p, hp, e⟩)).setCell (p := ⟨vb, i * 3 + 1, none⟩) (Or.inl (Or.inr rfl)) _
  · refine ((GO.arr.keep (G.tch.block _ (by omega) (fun ⟨p, hp, e⟩ => hnv i hi p hp e))).setLong i _).congr fun j hj => ?_
    show (if j = i then _ else if j < i then _ else _) = (if j < i + 1 then Value.slice (if j = i then a else LA j) _ (if j = i then c else LC j) else _)
    by_cases e : j = i
    · subst e; rw [if_pos rfl, if_pos (by omega), if_pos rfl, if_pos rfl]
    · rw [if_neg e, if_neg e, if_neg e]
      by_cases h : j < i
      · rw [if_pos h, if_pos (by omega)]
      · rw [if_neg h, if_neg (by omega)]
  · have h1 : Own 57 wr 0 (A j) (N j) (C j) (fun _ => mk j) := by
      by_cases e : j = i
      · subst e; exact G.old
      · exact (GO.own j hj).keep fun p hp => G.tch.block _ (by have := hA j hj p hp; omega) (fun ⟨q, hq, e'⟩ => hD j hj i hi e p q hp hq e'.symm)
    exact h1.keep fun p hp => Below.heap_setCell _ _ _ _ (hnv j hj p hp)
  · by_cases e : j = i
    · subst e
      rw [if_pos rfl, if_pos rfl]
      refine ⟨G.own.keep fun p hp => Below.heap_setCell _ _ _ _ ?_, ?_⟩
      · rcases G.plc with ⟨h, _⟩ | ⟨g, h, hlt⟩
        · exact hnv j hi p (h ▸ hp)
        · rw [h] at hp; cases hp; dsimp only; omega
      · rcases G.plc with ⟨h, _⟩ | ⟨g, h, hlt⟩
        · exact .inl h
        · exact .inr ⟨g, h, by omega⟩
    · rw [if_neg e, if_neg e]
      obtain ⟨h1, h2⟩ := GO.lng j (by omega)
      have hne : ∀ p, LA j = some p → p.block ≠ vb ∧ ∀ q, A i = some q → q.block ≠ p.block := by
        intro p hp
        rcases h2 with h | ⟨g, h, hlt⟩
        · rw [h] at hp
          exact ⟨hnv j (by omega) p hp, fun q hq e' => hD j (by omega) i hi e p q hp hq e'.symm⟩
        · rw [h] at hp; cases hp
          exact ⟨by dsimp only; omega, fun q hq => by have := hA i hi q hq; dsimp only; omega⟩
      refine ⟨(h1.keep fun p hp => G.tch.block _ (h1.blk hp).2.2 (fun ⟨q, hq, e'⟩ => (hne p hp).2 q hq e')).keep fun p hp => Below.heap_setCell _ _ _ _ (hne p hp).1, h2⟩

set_option maxHeartbeats 4000000 in
theorem grow_any (b vb k cap : Nat) (A : Nat → Option Addr) (N C : Nat → Nat) (w : World) (hk : k ≤ 1000) (hB : w.rowIs b 44 13 (bkf k (.slice (some ⟨vb, 0, none⟩) k cap)))
    (hA : Arr w vb k A N C (fun _ => .slice none 0 0)) (hO : ∀ j, j < k → Own 57 w 0 (A j) (N j) (C j) (fun _ => mk j)) (hN : ∀ j, j < k → N j ≤ 900000000) (hS : ¬ UA k A b ∧ ¬ UA k A vb) (hD : Part k A) (hbv : b ≠ vb) :
    Calls Tryz.prog 58 #[.pointer (some ⟨b, 0, none⟩)] w fun e w' => (∃ v, e = .returned v) ∧ ∃ LA LC, GrowO w w' vb k A N C k LA LC := by
  have HB := Lib.hid hB; have HA := Lib.hid hA; have HO := Lib.hid hO; have HS := Lib.hid hS; have HD := Lib.hid hD; have HN := Lib.hid hN
  have HV := Lib.hid (And.intro hA.lt fun j hj p hp => ((hO j hj).blk (p := p) hp).2.2)
  clear hB hA hO hS hD hN
  go_enter Tryz.func58, Tryz.ntmps58
  go_wp2_with fail
  go_loopw [2] (fun v wr => ∃ i : Nat, i ≤ k ∧ v = .int .i64 i ∧ ∃ LA LC, GrowO w wr vb k A N C i LA LC) (fun v _ => k - (intOf v).toNat)
  case atStart => exact ⟨0, by omega, rfl, fun _ => none, fun _ => 0, Touch.refl _ _, HA.out.congr (fun j _ => by rw [if_neg (by omega)]), HO.out, fun j hj => by omega⟩
  case round =>
    obtain ⟨w1, rfl⟩ : ∃ w1, w1 = wr := ⟨_, rfl⟩
    obtain ⟨i, hik, rfl, LA, LC, hG⟩ := hrel
    have KG := Lib.hid hG
    have KB := Lib.hid (HB.out.of_block (hG.tch.block _ HB.out.lt (fun h => h.elim HS.out.1 (fun h => hbv h))))
    clear hG
    have b2 : w1.cell? ⟨b, 2, none⟩ = some (.slice (some ⟨vb, 0, none⟩) k cap) := KB.out.cell (i := 2) (by omega)
    by_cases hi : i < k
    · obtain ⟨a0, a1, a2, -, hvb⟩ := KG.out.arr.cells hi
      rw [if_neg (by omega)] at a1
      obtain ⟨n, hn⟩ : ∃ n, n = N i := ⟨_, rfl⟩
      obtain ⟨ai, ha⟩ : ∃ ai, ai = A i := ⟨_, rfl⟩
      obtain ⟨ci, hc⟩ : ∃ ci, ci = C i := ⟨_, rfl⟩
      rw [← ha, ← hn, ← hc] at a0
      have hnb : n ≤ 900000000 := by rw [hn]; exact HN.out i hi
      have EA := Lib.hid ha; have EN := Lib.hid hn; have EC := Lib.hid hc
      have G0 := Lib.hid (show GrowI w1 (w1.alloc (.cells #[.slice ai n ci, .slice none 0 0, .int .i64 ((i : Int) + 1)] 78)) i n ai ci 0 ai ci (hcell ai n ci (.slice none 0 0) ((i : Int) + 1)) from by
        have h1 := KG.out.own i hi
        rw [← ha, ← hn, ← hc] at h1
        have h2 := h1.below ((Below.refl _ _).alloc (Nat.le_refl _) (.cells #[.slice ai n ci, .slice none 0 0, .int .i64 ((i : Int) + 1)] 78))
        exact ⟨h2, h2, .inl ⟨rfl, rfl⟩, World.rowIs_alloc w1 #[Value.slice ai n ci, Value.slice none 0 0, Value.int IntKind.i64 ((i : Int) + 1)] 78 (hcell ai n ci (.slice none 0 0) ((i : Int) + 1)) (fun q hq => by
          match q, hq with
          | 0, _ => rfl
          | 1, _ => rfl
          | 2, _ => rfl), (Touch.refl _ _).alloc _, fun p hp => (h1.blk hp).2.2⟩)
      clear ha hn hc
      go_wp2_with fail
      go_loopw [4, 5] (fun v u wr => ∃ t : Nat, t ≤ 40 ∧ u = .int .i64 t ∧ ∃ a c, v = .slice a (n + t) c ∧ GrowI w1 wr i n ai ci t a c (hcell ai n ci (.slice none 0 0) ((i : Int) + 1))) (fun _ u _ => 40 - (intOf u).toNat)
      case atStart => exact ⟨0, by omega, rfl, ai, ci, rfl, G0.out⟩
      case round =>
        obtain ⟨t, ht40, rfl, a, c, rfl, hI⟩ := hrel
        have LI := Lib.hid hI
        have hc2 : wr.cell? ⟨w1.heap.size, 2, none⟩ = some (.int .i64 ((i : Int) + 1)) := hI.box.cell (i := 2) (by omega)
        have hlt := hI.box.lt
        clear hI
        by_cases ht : t < 40
        · go_wp2_with (first
            | (go_at_call 94; refine (mark_any i _ (by omega)).mono ?_; rintro e w2 ⟨rfl, hw2⟩; obtain rfl := hw2.symm)
            | (at_builtin; refine wpList_push rfl _ _ rfl (by rfl) (LI.out.own.allocd _) (by omega) (Nat.zero_le _) (v := mk i) (by rfl) ?c1 (mk_rng (by omega)) (by rfl) ?_))
          case c1 => simp
          intro a' c' w2 hown hcase
          have NI := Lib.hid (grow_step LI.out hown hcase)
          clear hown hcase
          go_wp2_with fail
          go_roundw
          case rel => exact ⟨t + 1, by omega, by go_num, a', c', rfl, NI.out⟩
          case measure => simp [intOf]; omega
        · obtain rfl : t = 40 := by omega
          have b3 := (LI.out.tch.block _ (show b < w1.heap.size from KB.out.lt) (fun ⟨p, hp, e⟩ => HS.out.1 ⟨i, hi, p, EA.out ▸ hp, e⟩))
          have b4 : wr.cell? ⟨b, 2, none⟩ = some (.slice (some ⟨vb, 0, none⟩) k cap) := (KB.out.of_block b3).cell (i := 2) (by omega)
          have v3 := (KG.out.arr.keep (LI.out.tch.block _ (show vb < w1.heap.size from hvb) (fun ⟨p, hp, e⟩ => HS.out.2 ⟨i, hi, p, EA.out ▸ hp, e⟩))).cells hi
          obtain ⟨v30, v31, v32, v33, v34⟩ := v3
          rw [if_neg (by omega)] at v31
          have HG := Lib.hid (grow_round KG.out hi (by rw [← EA.out, ← EN.out, ← EC.out]; exact LI.out) HS.out.2 HD.out HV.out.1 HV.out.2)
          rw [← EN.out] at HG
          clear b2 b3 a0 a1 a2 v30 v32
          go_wp2_with fail
          go_roundw
          case rel => exact ⟨i + 1, by omega, by go_num, _, _, HG.out⟩
          case measure => simp [intOf]; omega
    · obtain rfl : i = k := by omega
      go_wp2_with fail
      (try simp only [Exit.inBlock, Exit.then])
      refine bodyPost_end (results_none rfl _ _ _) rfl ?_
      exact ⟨⟨_, rfl⟩, LA, LC, KG.out⟩
end Go.Proofs.YtebobpbcllideaaGreatDoor.Book
