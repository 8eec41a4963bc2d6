/-
  From a walk that ends 'true, and below the heap's old size nothing has turned' to what a law's row asks; how arrays of numbers of 16 bits come in. Of whatever program.
-/
import Derived.Test.YtebobpbcllideaaGreatDoorRows
import Derived.WalkKit
import Derived.ProofKit
import Derived.OpenShut
namespace Go.Proofs.YtebobpbcllideaaGreatDoor.LawPost
open Go.ChangeShapes Go.WideShapes Go.ChangeAt Go.RowKit
variable {H : Type} {enc : TypeId × Value → H} {P : Program}

theorem trodAll_below (hl : laidOutB P = true) {W W' : World} (hb : Below W.heap.size W W') : ∀ (ts : List TypeId) (vs : List Value) (ds : List (DataW H)) (ps : List MemPlace),
    ts.all (fun t => P.readableRec t && decide (t < P.types.size)) = true → DataW.TrodAll enc P W 0 (fun _ => true) true ts vs ds ps → (∀ x ∈ ps, x.block < W.heap.size) →
    DataW.TrodAll enc P W' 0 (fun b => decide (b < W.heap.size)) true ts vs ds ps
  | [], [], [], ps, _, h, _ => h
  | t :: ts, v :: vs, d :: ds, ps, hr, h, hlt => by
    obtain ⟨p, q, h1, h2, rfl⟩ := h
    simp only [List.all_cons, Bool.and_eq_true, decide_eq_true_eq] at hr
    exact ⟨p, q, Below.trod hl hr.1.1 hr.1.2 h1 hb (fun x hx => hlt x (List.mem_append_left _ hx)), trodAll_below hl hb ts vs ds q hr.2 h2 (fun x hx => hlt x (List.mem_append_right _ hx)), rfl⟩
  | [], [], _ :: _, _, _, h, _ => h.elim
  | [], _ :: _, _, _, _, h, _ => by simp [DataW.TrodAll] at h
  | _ :: _, [], _, _, _, h, _ => by simp [DataW.TrodAll] at h
  | _ :: _, _ :: _, [], _, _, h, _ => by simp [DataW.TrodAll] at h

/-- A law's post: it returned true, its arguments read as they did. -/
theorem law_post {f : Func} {s : ChangeSpec} {W W' : World} {args : Array Value} {ds : List (DataW H)} {before : List MemPlace} {tb : TypeId} (hl : laidOutB P = true)
    (hr : f.params.toList.all (fun t => P.readableRec t && decide (t < P.types.size)) = true) (hrt : f.resultTypes = #[tb]) (htb : P.underlying tb = some .bool)
    (hW : DataW.Whole enc P f.params.toList s.vars false W args.toList ds [] before) (hv : s.vars = [])
    (hs : s.fn H (ds ++ []) = { results := [.lit (.bool true)], args := ds, vars := [] }) (hb : Below W.heap.size W W') :
    s.post enc P f false true false false W args (.bool true) W' := by
  have hlt := hW.lt
  obtain ⟨p, q, hA, hV, hpq, hz, hn⟩ := hW
  rw [hv] at hV
  obtain ⟨_, rfl⟩ := trodVars_none hV
  subst hpq
  refine ⟨ds, [], _, [], p, [], ⟨p, [], hA, by rw [hv]; exact hV, rfl, hz, hn⟩, ?_, ?_, ?_, hb.frame _, fun h => by cases h⟩
  · rw [hs, hrt]; exact trodAll_mk1 (shut_bool htb _)
  · rw [hs]; exact trodAll_below hl hb _ _ _ _ hr hA (fun x hx => hlt x (by simpa using hx))
  · rw [hs, hv]; rfl

theorem mapM_each {α β : Type} (f : α → Option β) : ∀ (l : List α) (ys : List β), l.mapM f = some ys → ∀ a ∈ l, ∃ y, f a = some y := by
  intro l
  induction l with
  | nil => intro ys _ a ha; cases ha
  | cons x l ih =>
    intro ys h a ha
    simp only [List.mapM_cons, Option.bind_eq_bind, Option.bind_eq_some_iff] at h
    obtain ⟨y, hy, zs, hz, _⟩ := h
    rcases List.mem_cons.1 ha with rfl | ha
    · exact ⟨y, hy⟩
    · exact ih zs hz a ha

/-- An array's elements, each read by itself. -/
theorem trod_arr {w : World} {base : Nat} {spare : Nat → Bool} {held : Bool} {t e : TypeId} {n fuel : Nat} {cs : List Value} {x : DataW H × List MemPlace} (ht : P.underlying t = some (.array n e))
    (h : DataW.trod enc P w base spare held fuel t cs = some x) : cs.length = P.cellsOf t ∧ ∃ m, fuel = m + 1 ∧ ∀ i, i < n → ∃ y, DataW.trod enc P w base spare held m e ((cs.drop (i * P.cellsOf e)).take (P.cellsOf e)) = some y := by
  cases fuel with
  | zero => simp [DataW.trod] at h
  | succ m =>
    unfold DataW.trod at h
    rw [ht] at h
    dsimp only at h
    by_cases hlen : cs.length = P.cellsOf t
    · rw [if_pos hlen] at h
      obtain ⟨ys, hy, _⟩ := Option.map_eq_some_iff.1 h
      exact ⟨hlen, m, rfl, fun i hi => mapM_each _ _ _ hy i (List.mem_range.2 hi)⟩
    · rw [if_neg hlen] at h; cases h

/-- Numbers of 16 bits, by place. -/
theorem trod_u16s {w : World} {base : Nat} {spare : Nat → Bool} {held : Bool} {t e : TypeId} {n fuel : Nat} {cs : List Value} {x : DataW H × List MemPlace} (ht : P.underlying t = some (.array n e)) (he : P.underlying e = some (.int .u16)) (hce : P.cellsOf e = 1)
    (h : DataW.trod enc P w base spare held fuel t cs = some x) : ∀ i, i < n → i < cs.length → ∃ a : Int, cs[i]? = some (.int .u16 a) ∧ 0 ≤ a ∧ a ≤ 65535 := by
  intro i hi hl
  obtain ⟨_, m, _, h2⟩ := trod_arr ht h
  obtain ⟨y, hy⟩ := h2 i hi
  rw [hce, Nat.mul_one] at hy
  have e1 : (cs.drop i).take 1 = [cs[i]] := by rw [List.drop_eq_getElem_cons hl]; rfl
  rw [e1] at hy
  obtain ⟨a, e0, _, wa⟩ := DataW.trod_int he hy
  simp only [List.cons.injEq, and_true] at e0
  have hbd := bounds_u16 wa
  exact ⟨a, by rw [List.getElem?_eq_getElem hl, e0], hbd.1, hbd.2⟩

/-- Four numbers of 16 bits: by a function of the place. -/
theorem four_u16 {w : World} {base : Nat} {spare : Nat → Bool} {held : Bool} {t e : TypeId} {fuel : Nat} {cs : List Value} {x : DataW H × List MemPlace} (ht : P.underlying t = some (.array 4 e)) (he : P.underlying e = some (.int .u16)) (hce : P.cellsOf e = 1) (hct : P.cellsOf t = 4)
    (h : DataW.trod enc P w base spare held fuel t cs = some x) : ∃ a : Nat → Int, cs = [.int .u16 (a 0), .int .u16 (a 1), .int .u16 (a 2), .int .u16 (a 3)] ∧ ∀ i, i < 4 → 0 ≤ a i ∧ a i ≤ 65535 := by
  have hl : cs.length = 4 := (trod_arr ht h).1.trans hct
  have g := trod_u16s ht he hce h
  obtain ⟨a0, e0, b0⟩ := g 0 (by omega) (by omega)
  obtain ⟨a1, e1, b1⟩ := g 1 (by omega) (by omega)
  obtain ⟨a2, e2, b2⟩ := g 2 (by omega) (by omega)
  obtain ⟨a3, e3, b3⟩ := g 3 (by omega) (by omega)
  refine ⟨fun i => match i with | 0 => a0 | 1 => a1 | 2 => a2 | _ => a3, ?_, ?_⟩
  · apply List.ext_getElem?
    intro i
    match i with
    | 0 => exact e0
    | 1 => exact e1
    | 2 => exact e2
    | 3 => exact e3
    | n + 4 => rw [List.getElem?_eq_none (by omega)]; rfl
  · intro i hi
    match i, hi with
    | 0, _ => exact b0
    | 1, _ => exact b1
    | 2, _ => exact b2
    | 3, _ => exact b3

/-- A product comes in. -/
theorem open_four {W : World} {base : Nat} {r : Reach} {sp : Nat → Bool} {hd : Bool} {t e : TypeId} {v : Value} {d : DataW H} {p : List MemPlace} (ht : P.underlying t = some (.array 4 e)) (he : P.underlying e = some (.int .u16)) (hce : P.cellsOf e = 1) (hct : P.cellsOf t = 4)
    (hok : Value.okWide P W r base t v) (h : DataW.Trod enc P W 0 sp hd t v d p) : ∃ a : Nat → Int, v = .agg #[.int .u16 (a 0), .int .u16 (a 1), .int .u16 (a 2), .int .u16 (a 3)] ∧ ∀ i, i < 4 → 0 ≤ a i ∧ a i ≤ 65535 := by
  obtain ⟨cs, rfl, _⟩ : ∃ cs, v = .agg cs ∧ True := by
    unfold Value.okWide at hok
    rw [ht] at hok
    obtain ⟨cs, h1, _⟩ := hok
    exact ⟨cs, h1, trivial⟩
  obtain ⟨fuel, hf⟩ := h
  obtain ⟨a, ha, hb⟩ := four_u16 ht he hce hct hf
  refine ⟨a, ?_, hb⟩
  have : cs.toList = _ := ha
  rw [← this]
end Go.Proofs.YtebobpbcllideaaGreatDoor.LawPost
