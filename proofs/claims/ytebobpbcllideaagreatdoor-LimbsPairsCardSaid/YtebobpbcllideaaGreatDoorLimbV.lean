/-
  Numbers that a law has made: their variables, their lists, no two in one block; a Book of them; guarded operations in a drawn region.
-/
import Derived.Test.YtebobpbcllideaaGreatDoorLimbU
namespace Go.Fresh
open Go.RowKit
variable {P : Program} {ops : Array Oper} {md : Region.Mode} {C : World → Prop}
theorem wpF_specG {sp : Nat → Spec} {Q : Act → Facts → Prop} {o : Oper} {rest : List Oper} {k : Nat} {a : Act} {F : Facts} (hg : Region.wanted o (yielded ops a.tmps) = true) {V : Value → Prop} {Ψ : Value → World → Prop} (hs : sp k = some (V, Ψ))
    (hr : ∀ w, Has md ops C k F w → givesUpon P w (fun v w' => V v ∧ Ψ v w') ((execOp a.eval o).run P w)) (hK : ∀ v, V v → wpF P md ops C sp Q rest (k + 1) (a.put o.dst v) (F.set k (Ψ v))) : wpF P md ops C sp Q (o :: rest) k a F :=
  ⟨V, Ψ, .inl ⟨hg, .inr ⟨hs, hr⟩⟩, hK⟩
end Go.Fresh
namespace Go.Proofs.YtebobpbcllideaaGreatDoor.Limb
open Go.RowKit Go.Sort Go.Fresh

/-- A number that was made: its variable's block, its sign, its list. -/
structure Num1 where
  b : Nat
  s : Bool
  a : Option Addr
  n : Nat
  c : Nat
  o : Nat → Int
def Good (lo : Nat) (w : World) (x : Num1) : Prop := Bx w x.b 24 (.bool x.s) (.slice x.a x.n x.c) ∧ Own 57 w lo x.a x.n x.c x.o
def Asunder (x y : Num1) : Prop := ∀ p q, x.a = some p → y.a = some q → p.block ≠ q.block
def All (lo : Nat) (w : World) (L : List Num1) : Prop := (∀ x ∈ L, Good lo w x) ∧ L.Pairwise Asunder
theorem All.nil (lo : Nat) (w : World) : All lo w [] := ⟨fun x h => (by cases h), List.Pairwise.nil⟩
theorem All.below {lo : Nat} {w w' : World} {L : List Num1} (h : All lo w L) (hb : Below w.heap.size w w') : All lo w' L :=
  ⟨fun x hx => ⟨(h.1 x hx).1.below hb (h.1 x hx).1.lt, (h.1 x hx).2.below hb⟩, h.2⟩
theorem All.step {lo : Nat} {w w1 : World} {L : List Num1} (h : All lo w L) (hlo : lo ≤ w.heap.size) (hb : Below w.heap.size w w1) {s : Bool} {a : Option Addr} {n c : Nat} {o : Nat → Int} (ho : Own 57 w1 w.heap.size a n c o) :
    All lo (w1.alloc (.cells #[.bool s, .slice a n c] 24)) (L ++ [⟨w1.heap.size, s, a, n, c, o⟩]) := by
  have hb2 : Below w.heap.size w (w1.alloc (.cells #[.bool s, .slice a n c] 24)) := hb.alloc hb.size _
  have h2 := h.below hb2
  refine ⟨fun x hx => ?_, List.pairwise_append.2 ⟨h.2, List.pairwise_singleton _ _, fun x hx y hy => ?_⟩⟩
  · rcases List.mem_append.1 hx with hx | hx
    · exact h2.1 x hx
    · obtain rfl := List.mem_singleton.1 hx
      exact ⟨Bx.new w1 _ _ _, (ho.mono hlo).allocd _⟩
  · obtain rfl := List.mem_singleton.1 hy
    intro p q hp hq e
    have h3 := ((h.1 x hx).2.blk hp).2.2
    have h4 := (ho.blk hq).2.1
    omega
theorem All.get {lo : Nat} {w : World} {L : List Num1} (h : All lo w L) {i : Nat} {x : Num1} (hx : L[i]? = some x) : Good lo w x := h.1 x (List.mem_of_getElem? hx)

/-- What a Book of them holds. -/
def heldL : List Num1 → Nat → List Value
  | [], _ => []
  | x :: l, k => Book.held x.a x.n x.c k ++ heldL l (k + 1)
theorem heldL_push (L : List Num1) (x : Num1) (k : Nat) : heldL (L ++ [x]) k = heldL L k ++ Book.held x.a x.n x.c (k + L.length) := by
  induction L generalizing k with
  | nil => show Book.held _ _ _ _ ++ [] = [] ++ _; simp
  | cons y l ih =>
    show Book.held _ _ _ _ ++ heldL (l ++ [x]) (k + 1) = (Book.held _ _ _ _ ++ heldL l (k + 1)) ++ _
    rw [ih, List.append_assoc, List.length_cons, show k + (l.length + 1) = k + 1 + l.length by omega]
theorem heldL_get (L : List Num1) (k j d : Nat) (x : Num1) (hx : L[j]? = some x) (hd : d < 3) : (heldL L k)[3 * j + d]? = (Book.held x.a x.n x.c (k + j))[d]? := by
  induction L generalizing k j with
  | nil => simp at hx
  | cons y l ih =>
    show (Book.held _ _ _ _ ++ heldL l (k + 1))[_]? = _
    cases j with
    | zero =>
      simp at hx; subst hx
      rw [List.getElem?_append_left (by show _ < 3; omega), Nat.mul_zero, Nat.zero_add, Nat.add_zero]
    | succ j =>
      rw [List.getElem?_append_right (by show 3 ≤ _; omega), show 3 * (j + 1) + d - (Book.held y.a y.n y.c k).length = 3 * j + d by show _ - 3 = _; omega, ih (k + 1) j (by simpa using hx), show k + 1 + j = k + (j + 1) by omega]

/-- The Book of all of them has them all apart. -/
theorem apart_of {lo B : Nat} {w0 V W : World} {L : List Num1} {v : Value} {xs : List Value} (hV : All lo V L) (hVB : V.heap.size = B) (hb : Below B V W) (hB : Book.Bk W B B L.length v xs) (hxs : xs = heldL L 0) (h0 : 0 < L.length) (hk : L.length ≤ 1000) (hN : ∀ x ∈ L, x.n ≤ 900000000) (hlo : w0.heap.size ≤ lo)
    (hlo2 : lo ≤ B) (hw : Below w0.heap.size w0 W) (hsz : w0.heap.size ≤ W.heap.size) :
    Calls Tryz.prog 22 #[.pointer (some ⟨B, 0, none⟩)] W fun e w' => e = .returned (.bool true) ∧ Below w0.heap.size w0 w' := by
  subst hVB
  subst hxs
  have hW := hV.below hb
  obtain ⟨g, cap, cur, rfl, hbg, hg, hnc, hcm, hcs, htake⟩ : ∃ g cap cur, v = .slice (some ⟨g, 0, none⟩) L.length cap ∧ V.heap.size ≤ g ∧ W.heap[g]? = some (.cells cur 78 (0, 0)) ∧ L.length ≤ cap ∧ cap ≤ maxLen ∧ cur.size = cap * 3 ∧ cur.toList.take (L.length * 3) = heldL L 0 := by
    rcases hB.row.2 with ⟨_, h⟩ | h
    · omega
    · exact h
  have cell : ∀ j d, j < L.length → d < 3 → cur[3 * j + d]? = (Book.held ((L.getD j ⟨0, false, none, 0, 0, fun _ => 0⟩).a) ((L.getD j ⟨0, false, none, 0, 0, fun _ => 0⟩).n) ((L.getD j ⟨0, false, none, 0, 0, fun _ => 0⟩).c) j)[d]? := by
    intro j d hj hd
    have hx : L[j]? = some (L.getD j ⟨0, false, none, 0, 0, fun _ => 0⟩) := by rw [List.getD_eq_getElem?_getD, List.getElem?_eq_getElem hj]; rfl
    have h := heldL_get L 0 j d _ hx hd
    rw [← htake, List.getElem?_take, if_pos (by omega), Array.getElem?_toList, Nat.zero_add] at h
    exact h
  have mem : ∀ j, j < L.length → L.getD j ⟨0, false, none, 0, 0, fun _ => 0⟩ ∈ L := by
    intro j hj
    rw [List.getD_eq_getElem?_getD, List.getElem?_eq_getElem hj]
    exact List.getElem_mem hj
  have hA : Book.Arr W g L.length (fun j => (L.getD j ⟨0, false, none, 0, 0, fun _ => 0⟩).a) (fun j => (L.getD j ⟨0, false, none, 0, 0, fun _ => 0⟩).n) (fun j => (L.getD j ⟨0, false, none, 0, 0, fun _ => 0⟩).c) (fun _ => .slice none 0 0) := by
    refine ⟨cap * 3, fun i => cur[i]?.getD undef, ⟨cur, hg, hcs, fun i hi => ?_⟩, fun j hj => ⟨by omega, ?_, ?_, ?_⟩⟩
    · show cur[i]? = some ((cur[i]?).getD undef)
      rw [Array.getElem?_eq_getElem (by omega)]; rfl
    · have h := cell j 0 hj (by omega)
      rw [Nat.add_zero] at h
      show (cur[3 * j]?).getD undef = _
      rw [h]; rfl
    · show (cur[3 * j + 1]?).getD undef = _
      rw [cell j 1 hj (by omega)]; rfl
    · show (cur[3 * j + 2]?).getD undef = _
      rw [cell j 2 hj (by omega)]; rfl
  have hUlt : ∀ q, Book.UA L.length (fun j => (L.getD j ⟨0, false, none, 0, 0, fun _ => 0⟩).a) q → lo ≤ q ∧ q < V.heap.size := by
    rintro q ⟨j, hj, p, hp, rfl⟩
    exact ((hV.1 _ (mem j hj)).2.blk hp).2
  refine (Book.apart_any V.heap.size g L.length cap _ _ _ (fun j => (L.getD j ⟨0, false, none, 0, 0, fun _ => 0⟩).o) W hk hB.box hA (fun j hj => ((hW.1 _ (mem j hj)).2.mono (Nat.zero_le _))) (fun j hj => hN _ (mem j hj))
    ⟨fun h => by have := (hUlt _ h).2; omega, fun h => by have := (hUlt _ h).2; omega⟩ ?_ (fun e => hB.ne (by rw [e]; rfl))).mono ?_
  · intro i hi j hj hij p q hp hq
    have key : ∀ i j, i < j → i < L.length → j < L.length → ∀ p q, (L.getD i ⟨0, false, none, 0, 0, fun _ => 0⟩).a = some p → (L.getD j ⟨0, false, none, 0, 0, fun _ => 0⟩).a = some q → p.block ≠ q.block := by
      intro i j hij hi hj p q hp hq
      have h := List.pairwise_iff_getElem.1 hV.2 i j hi hj hij
      rw [List.getD_eq_getElem?_getD, List.getElem?_eq_getElem hi] at hp
      rw [List.getD_eq_getElem?_getD, List.getElem?_eq_getElem hj] at hq
      exact h p q hp hq
    rcases Nat.lt_or_ge i j with h | h
    · exact key i j h hi hj p q hp hq
    · exact fun e => key j i (by omega) hj hi q p hq hp e.symm
  · rintro e w' ⟨rfl, hT⟩
    refine ⟨rfl, hw.trans (hT.to_below hsz fun k hk hu => ?_)⟩
    rcases hu with hu | rfl
    · have := (hUlt _ hu).1; omega
    · omega
end Go.Proofs.YtebobpbcllideaaGreatDoor.Limb
