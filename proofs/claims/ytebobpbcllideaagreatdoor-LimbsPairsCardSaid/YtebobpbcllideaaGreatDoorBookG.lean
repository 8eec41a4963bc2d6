/-
  The walks of a Book's Limbs and Num.
-/
import Derived.Test.YtebobpbcllideaaGreatDoorBookF
namespace Go.Proofs.YtebobpbcllideaaGreatDoor.Book
open Go.RowKit Go.Sort Go.FreshG Go.Proofs.YtebobpbcllideaaGreatDoor.Limb

/-- One list more is in the Book. -/
def Kept (w : World) (b base k : Nat) (v : Value) (xs : List Value) (a : Option Addr) (n c : Nat) (e : Ending) (w' : World) : Prop :=
  (∃ u, e = .returned u) ∧ ∃ v', Bk w' b base (k + 1) v' (xs ++ held a n c k) ∧ (v.ownBlock = v'.ownBlock ∨ ∃ g, v'.ownBlock = some g ∧ w.heap.size ≤ g) ∧ Touch (fun g => g = b ∨ v.ownBlock = some g) w w'
theorem Bk.alloc {w : World} {b base k : Nat} {v : Value} {xs : List Value} (h : Bk w b base k v xs) (o : Obj) : Bk (w.alloc o) b base k v xs := ⟨h.box.alloc o, h.row.alloc o, h.ne⟩

set_option maxHeartbeats 1000000 in
theorem limbs_any (b base k : Nat) (v : Value) (xs : List Value) (a : Option Addr) (n c : Nat) (w : World) (hk : k ≤ 1000) (hB : Bk w b base k v xs) (hbase : base ≤ w.heap.size) :
    Calls Tryz.prog 44 #[.pointer (some ⟨b, 0, none⟩), .slice a n c] w (Kept w b base k v xs a n c) := by
  have K := Lib.hid (keep_any b base k v xs a n c w hk hB hbase)
  clear hB hbase
  go_enter Tryz.func44, Tryz.ntmps44
  go_wp2_with fail
  refine K.out.mono ?_
  rintro e w1 ⟨⟨u, rfl⟩, h⟩
  have H := Lib.hid h
  clear h
  go_wp2_with fail
  (try simp only [Exit.inBlock, Exit.then])
  refine bodyPost_end (results_none rfl _ _ _) rfl ?_
  exact ⟨⟨_, rfl⟩, H.out⟩

set_option maxHeartbeats 1000000 in
theorem num_any (b base k : Nat) (v : Value) (xs : List Value) (s : Bool) (a : Option Addr) (n c : Nat) (w : World) (hk : k ≤ 1000) (hB : Bk w b base k v xs) (hbase : base ≤ w.heap.size) :
    Calls Tryz.prog 21 #[.pointer (some ⟨b, 0, none⟩), numV s a n c] w (Kept w b base k v xs a n c) := by
  have K := Lib.hid (limbs_any b base k v xs a n c (w.alloc (.cells #[.bool s, .slice a n c] 24)) hk (hB.alloc _) (by simp; omega))
  clear hB hbase
  go_enter Tryz.func21, Tryz.ntmps21
  go_wp2_with fail
  refine K.out.mono ?_
  rintro e w1 ⟨⟨u, rfl⟩, h⟩
  have H := Lib.hid h
  clear h
  go_wp2_with fail
  (try simp only [Exit.inBlock, Exit.then])
  refine bodyPost_end (results_none rfl _ _ _) rfl ?_
  obtain ⟨v', h1, h2, h3⟩ := H.out
  exact ⟨⟨_, rfl⟩, v', h1, h2.imp id (fun ⟨g, e, hl⟩ => ⟨g, e, by simp at hl; omega⟩), ((Touch.refl _ _).alloc _).trans h3⟩
end Go.Proofs.YtebobpbcllideaaGreatDoor.Book
