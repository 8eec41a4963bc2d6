/-
  The law LimbsDivs: for any two numbers it returns true, and they read behind the call as they read before; the card ties its three tables to the program's text.
-/
import Derived.Test.YtebobpbcllideaaGreatDoorPdI
import Derived.Test.YtebobpbcllideaaGreatDoorCards
import Derived.Test.YtebobpbcllideaaGreatDoorTie
import Derived.WalkKit
import Derived.ProofKit
import Derived.OpenShut
import Derived.Deep.DeepHandedRow
import Derived.Lib.LaidTab
namespace Go.Proofs.YtebobpbcllideaaGreatDoor.Limb
open Go.RowKit Go.Sort Go.Fresh

theorem All.add {lo : Nat} {w : World} {L : List Num1} (h : All lo w L) {x : Num1} (hx : Good lo w x) (hn : ∀ y ∈ L, Asunder y x) : All lo w (L ++ [x]) :=
  ⟨fun y hy => (List.mem_append.1 hy).elim (h.1 y) (fun e => by obtain rfl := List.mem_singleton.1 e; exact hx), List.pairwise_append.2 ⟨h.2, List.pairwise_singleton _ _, fun y hy z hz => by obtain rfl := List.mem_singleton.1 hz; exact hn y hy⟩⟩
/-- Two lists of one call. -/
theorem All.step2 {lo : Nat} {w w1 : World} {L : List Num1} (h : All lo w L) (hlo : lo ≤ w.heap.size) (hb : Below w.heap.size w w1) {s : Bool} {a : Option Addr} {n c : Nat} {o : Nat → Int} (ho : Own 57 w1 w.heap.size a n c o)
    {s' : Bool} {a' : Option Addr} {n' c' : Nat} {o' : Nat → Int} (ho' : Own 57 w1 w.heap.size a' n' c' o') (hap : Apart2 a a') :
    All lo ((w1.alloc (.cells #[.bool s, .slice a n c] 24)).alloc (.cells #[.bool s', .slice a' n' c'] 24)) (L ++ [⟨w1.heap.size, s, a, n, c, o⟩] ++ [⟨w1.heap.size + 1, s', a', n', c', o'⟩]) := by
  have h1 := h.step hlo hb (s := s) ho
  have hb3 : Below (w1.alloc (.cells #[.bool s, .slice a n c] 24)).heap.size (w1.alloc (.cells #[.bool s, .slice a n c] 24)) ((w1.alloc (.cells #[.bool s, .slice a n c] 24)).alloc (.cells #[.bool s', .slice a' n' c'] 24)) := (Below.refl _ _).alloc (Nat.le_refl _) _
  refine (h1.below hb3).add ⟨Bx.new2 w1 _ _ _ _, (((ho'.mono hlo).allocd _).allocd _)⟩ fun y hy => ?_
  rcases List.mem_append.1 hy with hy | hy
  · intro p q hp hq e
    have h3 := ((h.1 y hy).2.blk hp).2.2
    have h4 := (ho'.blk hq).2.1
    omega
  · obtain rfl := List.mem_singleton.1 hy
    exact hap
/-- A Book that has taken one list more: below its own block nothing has turned. -/
theorem kept_next {W W' : World} {B k : Nat} {v : Value} {xs : List Value} {a : Option Addr} {n c : Nat} {e : Ending} (h : Book.Kept W B B k v xs a n c e W') (hB : Book.Bk W B B k v xs) (hb : B ≤ W.heap.size) :
    (∃ u, e = .returned u) ∧ ∃ v', Book.Bk W' B B (k + 1) v' (xs ++ Book.held a n c k) ∧ Below B W W' := by
  obtain ⟨hu, v', h1, -, h3⟩ := h
  refine ⟨hu, v', h1, h3.to_below hb fun q hq hU => ?_⟩
  rcases hU with rfl | hU
  · omega
  · have := (hB.row.lt q hU).1; omega
theorem book_new (w : World) : Book.Bk (w.alloc (.cells #[.int .i64 0, .slice none 0 0, .slice none 0 0, .slice none 0 0, .slice none 0 0, .slice none 0 0, .slice none 0 0, .slice none 0 0, .slice none 0 0, .slice none 0 0, .slice none 0 0, .slice none 0 0, .slice none 0 0] 44)) w.heap.size w.heap.size 0 (.slice none 0 0) [] := by
  refine ⟨World.rowIs_alloc w #[Value.int .i64 0, .slice none 0 0, .slice none 0 0, .slice none 0 0, .slice none 0 0, .slice none 0 0, .slice none 0 0, .slice none 0 0, .slice none 0 0, .slice none 0 0, .slice none 0 0, .slice none 0 0, .slice none 0 0] 44 (Book.bkf 0 (.slice none 0 0)) (fun i hi => ?_), World.ownsRow_nil _ _ _ _, fun e => by cases e⟩
  match i, hi with
  | 0, _ => rfl
  | 1, _ => rfl
  | 2, _ => rfl
  | 3, _ => rfl
  | 4, _ => rfl
  | 5, _ => rfl
  | 6, _ => rfl
  | 7, _ => rfl
  | 8, _ => rfl
  | 9, _ => rfl
  | 10, _ => rfl
  | 11, _ => rfl
  | 12, _ => rfl

open Classical in
set_option maxHeartbeats 4000000 in
theorem limbsDivs_law (s1 : Bool) (a1 : Option Addr) (n1 c1 : Nat) (o1 : Nat → Int) (s2 : Bool) (a2 : Option Addr) (n2 c2 : Nat) (o2 : Nat → Int) (w : World)
    (h1 : Rd w a1 n1 o1) (hc1 : n1 ≤ c1) (h2 : Rd w a2 n2 o2) (hc2 : n2 ≤ c2) :
    Calls Tryz.prog 4 #[numV s1 a1 n1 c1, numV s2 a2 n2 c2] w fun e w' => e = .returned (.bool true) ∧ Below w.heap.size w w' := by
  have HR := Lib.hid (And.intro h1 h2)
  have HC := Lib.hid (And.intro hc1 hc2)
  clear h1 h2 hc1 hc2
  have HB1 := Lib.hid ((((Bx.new w 24 (.bool s1) (.slice a1 n1 c1)).alloc (.cells #[.bool s2, .slice a2 n2 c2] 24))).alloc (.cells #[.bool s1, .slice a1 n1 c1, .bool s2, .slice a2 n2 c2] 24))
  have HB2 := Lib.hid ((Bx.new2 w (.cells #[.bool s1, .slice a1 n1 c1] 24) 24 (.bool s2) (.slice a2 n2 c2)).alloc (.cells #[.bool s1, .slice a1 n1 c1, .bool s2, .slice a2 n2 c2] 24))
  have HG := Lib.hid (((Below.refl _ _).alloc (by go_size) _ |>.alloc (by go_size) _ |>.alloc (by go_size) _) : Below w.heap.size w (((w.alloc (.cells #[.bool s1, .slice a1 n1 c1] 24)).alloc (.cells #[.bool s2, .slice a2 n2 c2] 24)).alloc (.cells #[.bool s1, .slice a1 n1 c1, .bool s2, .slice a2 n2 c2] 24)))
  have GR := Lib.hid (great_any 60 (w.heap.size + 1 + 1) 2 2 (fun i => if i = 0 then a1 else a2) (fun i => if i = 0 then n1 else n2) (fun i => if i = 0 then c1 else c2)
    (((w.alloc (.cells #[.bool s1, .slice a1 n1 c1] 24)).alloc (.cells #[.bool s2, .slice a2 n2 c2] 24)).alloc (.cells #[.bool s1, .slice a1 n1 c1, .bool s2, .slice a2 n2 c2] 24)) (fun i hi => by
      have h := heap_alloc_new ((w.alloc (.cells #[.bool s1, .slice a1 n1 c1] 24)).alloc (.cells #[.bool s2, .slice a2 n2 c2] 24)) (.cells #[.bool s1, .slice a1 n1 c1, .bool s2, .slice a2 n2 c2] 24)
      rw [World.size_alloc, World.size_alloc] at h
      rw [cell_of_row _ _ _ _ _ _ h]
      match i, hi with
      | 0, _ => rfl
      | 1, _ => rfl) (by omega))
  by_cases hg : 60 < n1 ∨ 60 < n2
  · rw [decide_eq_true (show ∃ i, i < 2 ∧ 60 < (if i = 0 then n1 else n2) by
      rcases hg with h | h
      · exact ⟨0, by omega, by rw [if_pos rfl]; exact h⟩
      · exact ⟨1, by omega, by rw [if_neg (by omega)]; exact h⟩)] at GR
    clear hg
    go_enter Tryz.func4, Tryz.ntmps4
    go_wp2_with fail
    refine GR.out.mono ?_
    rintro e w1 ⟨rfl, rfl⟩
    go_wp2_with fail
    go_ret
    exact ⟨rfl, HG.out⟩
  · rw [decide_eq_false (show ¬ ∃ i, i < 2 ∧ 60 < (if i = 0 then n1 else n2) from fun ⟨i, hi, h⟩ => by
      match i, hi with
      | 0, _ => rw [if_pos rfl] at h; omega
      | 1, _ => rw [if_neg (by omega)] at h; omega)] at GR
    have hn1 : n1 ≤ 60 := by omega
    have hn2 : n2 ≤ 60 := by omega
    clear hg
    go_enter Tryz.func4, Tryz.ntmps4
    go_wp2_with fail
    refine GR.out.mono ?_
    rintro e V ⟨rfl, hV⟩
    rw [← hV] at HB1 HB2 HG
    clear GR hV
    go_upto_region 3 with (fail)
    obtain ⟨lo, hlo⟩ : ∃ lo, lo = V.heap.size := ⟨_, rfl⟩
    have HLO := Lib.hid (And.intro (show w.heap.size ≤ lo by rw [hlo]; exact HG.out.size) (show lo ≤ V.heap.size by omega))
    have HA := Lib.hid (All.nil lo V)
    clear hlo
    obtain ⟨b10, b11, b12, b13⟩ := HB1.out.all
    go_wp2_with fail
    refine (twinNum_any s1 a1 n1 c1 o1 V (HR.out.1.below HG.out) (by omega)).mono ?_
    rintro e w1 ⟨gx, rfl, hO, hb⟩
    have ho : Own 57 w1 V.heap.size (some ⟨gx, 0, none⟩) n1 (n1 + 1) o1 := (hO.less (by omega)).congr fun i hi => (if_pos hi)
    clear b10 b11 b12 b13
    have HA := Lib.hid (HA.out.step HLO.out.2 hb (s := s1) ho)
    have hbV := Lib.hid (hb.alloc hb.size (.cells #[.bool (s1), .slice (some ⟨gx, 0, none⟩) (n1) (n1 + 1)] 24))
    have HX := Lib.hid ((hO.mono HLO.out.2).allocd (.cells #[.bool (s1), .slice (some ⟨gx, 0, none⟩) (n1) (n1 + 1)] 24))
    clear hb ho hO
    simp only [List.nil_append, List.cons_append] at HA
    go_upto_region 4 with (fail)
    obtain ⟨W, hW⟩ : ∃ W, W = w1.alloc (.cells #[.bool (s1), .slice (some ⟨gx, 0, none⟩) (n1) (n1 + 1)] 24) := ⟨_, rfl⟩
    rw [← hW] at HA hbV HX
    rw [show w1.alloc (.cells #[.bool (s1), .slice (some ⟨gx, 0, none⟩) (n1) (n1 + 1)] 24) = W from hW.symm]
    clear hW
    generalize w1.heap.size = bx at HA ⊢
    clear w1
    have HB1 := Lib.hid (HB1.out.below hbV.out HB1.out.lt)
    have HB2 := Lib.hid (HB2.out.below hbV.out HB2.out.lt)
    have HG := Lib.hid (HG.out.trans (hbV.out.mono HG.out.size))
    have HLO := Lib.hid (And.intro HLO.out.1 (Nat.le_trans HLO.out.2 hbV.out.size))
    clear hbV
    obtain ⟨V, rfl⟩ : ∃ V, V = W := ⟨_, rfl⟩
    obtain ⟨b10, b11, b12, b13⟩ := HB2.out.all
    go_wp2_with fail
    refine (twinNum_any s2 a2 n2 c2 o2 V (HR.out.2.below HG.out) (by omega)).mono ?_
    rintro e w1 ⟨gy, rfl, hO, hb⟩
    have ho : Own 57 w1 V.heap.size (some ⟨gy, 0, none⟩) n2 (n2 + 1) o2 := (hO.less (by omega)).congr fun i hi => (if_pos hi)
    clear b10 b11 b12 b13
    have HA := Lib.hid (HA.out.step HLO.out.2 hb (s := s2) ho)
    have hbV := Lib.hid (hb.alloc hb.size (.cells #[.bool (s2), .slice (some ⟨gy, 0, none⟩) (n2) (n2 + 1)] 24))
    have HY := Lib.hid ((hO.mono HLO.out.2).allocd (.cells #[.bool (s2), .slice (some ⟨gy, 0, none⟩) (n2) (n2 + 1)] 24))
    clear hb ho hO
    simp only [List.nil_append, List.cons_append] at HA
    go_upto_region 5 with (fail)
    obtain ⟨W, hW⟩ : ∃ W, W = w1.alloc (.cells #[.bool (s2), .slice (some ⟨gy, 0, none⟩) (n2) (n2 + 1)] 24) := ⟨_, rfl⟩
    rw [← hW] at HA hbV HY
    rw [show w1.alloc (.cells #[.bool (s2), .slice (some ⟨gy, 0, none⟩) (n2) (n2 + 1)] 24) = W from hW.symm]
    clear hW
    generalize w1.heap.size = by' at HA ⊢
    clear w1
    have HB1 := Lib.hid (HB1.out.below hbV.out HB1.out.lt)
    have HB2 := Lib.hid (HB2.out.below hbV.out HB2.out.lt)
    have HG := Lib.hid (HG.out.trans (hbV.out.mono HG.out.size))
    have HLO := Lib.hid (And.intro HLO.out.1 (Nat.le_trans HLO.out.2 hbV.out.size))
    have HX := Lib.hid (HX.out.below hbV.out)
    clear hbV
    obtain ⟨V, rfl⟩ : ∃ V, V = W := ⟨_, rfl⟩
    obtain ⟨code, q, r, hlen, DA, DB⟩ := div_all s1 s2 n1 n2 o1 o2 (by omega) (by omega) HR.out.1.rng HR.out.2.rng
    have HDA := Lib.hid DA; have HDB := Lib.hid DB; have HLQ := Lib.hid hlen
    clear DA DB hlen
    obtain ⟨z1, hz1⟩ : ∃ z1, z1 = valN s1 n1 o1 := ⟨_, rfl⟩
    obtain ⟨z2, hz2⟩ : ∃ z2, z2 = valN s2 n2 o2 := ⟨_, rfl⟩
    have HZ := Lib.hid (And.intro hz1 hz2)
    obtain ⟨G, hG⟩ : ∃ G : Int, G = ((Int.gcd z1 z2 : Nat) : Int) := ⟨_, rfl⟩
    have HGG := Lib.hid hG
    have HLG := Lib.hid (show lenB G.natAbs ≤ 120 from by
      obtain ⟨_, _, _, l1, _⟩ := fit_any s1 a1 n1 c1 o1 w HR.out.1 (by omega) HC.out.1
      obtain ⟨_, _, _, l2, _⟩ := fit_any s2 a2 n2 c2 o2 w HR.out.2 (by omega) HC.out.2
      have h := gcd_len z1 z2
      rw [hG, Int.natAbs_natCast]
      rw [← hz1] at l1
      rw [← hz2] at l2
      omega)
    clear hz1 hz2 hG
    have X := HA.out.get (i := 0) rfl
    have Y := HA.out.get (i := 1) rfl
    obtain ⟨x0, x1, x2, x3⟩ := X.1.all
    obtain ⟨y0, y1, y2, y3⟩ := Y.1.all
    have CA := Lib.hid (HDA.out (some ⟨gx, 0, none⟩) (some ⟨gy, 0, none⟩) (n1 + 1) (n2 + 1) V X.2.rd (by omega) Y.2.rd (by omega))
    clear X Y
    go_wp2_with fail
    refine CA.out.mono ?_
    rintro e w1 ⟨aq, ar, rfl, hoq, hor, hap, hb⟩
    have HA := Lib.hid (HA.out.step2 HLO.out.2 hb (s := decide (q < 0)) hoq (s' := decide (r < 0)) hor hap)
    have hbV := Lib.hid ((hb.alloc hb.size (.cells #[.bool (decide (q < 0)), .slice (aq) (lenB q.natAbs) (lenB q.natAbs)] 24)).alloc (by have := hb.size; simp; omega) (.cells #[.bool (decide (r < 0)), .slice (ar) (lenB r.natAbs) (lenB r.natAbs)] 24))
    clear CA x0 x1 x2 x3 y0 y1 y2 y3 hoq hor hap hb HDA
    simp only [List.nil_append, List.cons_append] at HA
    go_upto_region 6 with (fail)
    obtain ⟨W, hW⟩ : ∃ W, W = (w1.alloc (.cells #[.bool (decide (q < 0)), .slice (aq) (lenB q.natAbs) (lenB q.natAbs)] 24)).alloc (.cells #[.bool (decide (r < 0)), .slice (ar) (lenB r.natAbs) (lenB r.natAbs)] 24) := ⟨_, rfl⟩
    rw [← hW] at HA hbV
    rw [show (w1.alloc (.cells #[.bool (decide (q < 0)), .slice (aq) (lenB q.natAbs) (lenB q.natAbs)] 24)).alloc (.cells #[.bool (decide (r < 0)), .slice (ar) (lenB r.natAbs) (lenB r.natAbs)] 24) = W from hW.symm]
    clear hW
    generalize w1.heap.size = bq at HA ⊢
    clear w1
    have HB1 := Lib.hid (HB1.out.below hbV.out HB1.out.lt)
    have HB2 := Lib.hid (HB2.out.below hbV.out HB2.out.lt)
    have HG := Lib.hid (HG.out.trans (hbV.out.mono HG.out.size))
    have HLO := Lib.hid (And.intro HLO.out.1 (Nat.le_trans HLO.out.2 hbV.out.size))
    have HX := Lib.hid (HX.out.below hbV.out)
    have HY := Lib.hid (HY.out.below hbV.out)
    clear hbV
    obtain ⟨V, rfl⟩ : ∃ V, V = W := ⟨_, rfl⟩
    have X := HA.out.get (i := 0) rfl
    have Y := HA.out.get (i := 1) rfl
    obtain ⟨x0, x1, x2, x3⟩ := X.1.all
    obtain ⟨y0, y1, y2, y3⟩ := Y.1.all
    have CA := Lib.hid (gcd_any s1 (some ⟨gx, 0, none⟩) n1 (n1 + 1) o1 s2 (some ⟨gy, 0, none⟩) n2 (n2 + 1) o2 V X.2.rd (by omega) (by omega) Y.2.rd (by omega) (by omega))
    rw [← HZ.out.1, ← HZ.out.2, ← HGG.out] at CA
    clear X Y
    go_wp2_with fail
    refine CA.out.mono ?_
    rintro e w1 ⟨aG, rfl, ho, -, hb⟩
    clear CA x0 x1 x2 x3 y0 y1 y2 y3
    have HA := Lib.hid (HA.out.step HLO.out.2 hb (s := decide (G < 0)) ho)
    have hbV := Lib.hid (hb.alloc hb.size (.cells #[.bool (decide (G < 0)), .slice (aG) (lenB G.natAbs) (lenB G.natAbs)] 24))
    clear hb ho
    simp only [List.nil_append, List.cons_append] at HA
    go_upto_region 7 with (fail)
    obtain ⟨W, hW⟩ : ∃ W, W = w1.alloc (.cells #[.bool (decide (G < 0)), .slice (aG) (lenB G.natAbs) (lenB G.natAbs)] 24) := ⟨_, rfl⟩
    rw [← hW] at HA hbV 
    rw [show w1.alloc (.cells #[.bool (decide (G < 0)), .slice (aG) (lenB G.natAbs) (lenB G.natAbs)] 24) = W from hW.symm]
    clear hW
    generalize w1.heap.size = bg at HA ⊢
    clear w1
    have HB1 := Lib.hid (HB1.out.below hbV.out HB1.out.lt)
    have HB2 := Lib.hid (HB2.out.below hbV.out HB2.out.lt)
    have HG := Lib.hid (HG.out.trans (hbV.out.mono HG.out.size))
    have HLO := Lib.hid (And.intro HLO.out.1 (Nat.le_trans HLO.out.2 hbV.out.size))
    have HX := Lib.hid (HX.out.below hbV.out)
    have HY := Lib.hid (HY.out.below hbV.out)
    clear hbV
    obtain ⟨V, rfl⟩ : ∃ V, V = W := ⟨_, rfl⟩
    obtain ⟨b10, b11, b12, b13⟩ := HB1.out.all
    obtain ⟨b20, b21, b22, b23⟩ := HB2.out.all
    have CB := Lib.hid (HDB.out a1 a2 c1 c2 V (HR.out.1.below HG.out) HC.out.1 (HR.out.2.below HG.out) HC.out.2)
    go_wp2_with fail
    refine CB.out.mono ?_
    rintro e w1 ⟨af, cf, al, cl, rfl, hof, hol, hb⟩
    have hbV := Lib.hid ((hb.alloc hb.size (.cells #[.bool (decide (q < 0)), .slice (af) (lenB q.natAbs) (cf)] 24)).alloc (by have := hb.size; simp; omega) (.cells #[.bool (decide (r < 0)), .slice (al) (lenB r.natAbs) (cl)] 24))
    have HOF := Lib.hid (((hof.mono HLO.out.2).allocd (.cells #[.bool (decide (q < 0)), .slice (af) (lenB q.natAbs) (cf)] 24)).allocd (.cells #[.bool (decide (r < 0)), .slice (al) (lenB r.natAbs) (cl)] 24))
    have HOL := Lib.hid (((hol.mono HLO.out.2).allocd (.cells #[.bool (decide (q < 0)), .slice (af) (lenB q.natAbs) (cf)] 24)).allocd (.cells #[.bool (decide (r < 0)), .slice (al) (lenB r.natAbs) (cl)] 24))
    have HBF := Lib.hid ((Bx.new w1 24 (.bool (decide (q < 0))) (.slice af (lenB q.natAbs) cf)).alloc (.cells #[.bool (decide (r < 0)), .slice (al) (lenB r.natAbs) (cl)] 24))
    have HBL := Lib.hid (Bx.new2 w1 (.cells #[.bool (decide (q < 0)), .slice (af) (lenB q.natAbs) (cf)] 24) 24 (.bool (decide (r < 0))) (.slice al (lenB r.natAbs) cl))
    clear CB b10 b11 b12 b13 b20 b21 b22 b23 hof hol hb HDB
    go_upto_region 8 with (fail)
    obtain ⟨W, hW⟩ : ∃ W, W = (w1.alloc (.cells #[.bool (decide (q < 0)), .slice (af) (lenB q.natAbs) (cf)] 24)).alloc (.cells #[.bool (decide (r < 0)), .slice (al) (lenB r.natAbs) (cl)] 24) := ⟨_, rfl⟩
    rw [← hW] at hbV HOF HOL HBF HBL
    rw [show (w1.alloc (.cells #[.bool (decide (q < 0)), .slice (af) (lenB q.natAbs) (cf)] 24)).alloc (.cells #[.bool (decide (r < 0)), .slice (al) (lenB r.natAbs) (cl)] 24) = W from hW.symm]
    clear hW
    have HA := Lib.hid (HA.out.below hbV.out)
    generalize w1.heap.size = bf at HBF HBL ⊢
    clear w1
    have HB1 := Lib.hid (HB1.out.below hbV.out HB1.out.lt)
    have HB2 := Lib.hid (HB2.out.below hbV.out HB2.out.lt)
    have HG := Lib.hid (HG.out.trans (hbV.out.mono HG.out.size))
    have HLO := Lib.hid (And.intro HLO.out.1 (Nat.le_trans HLO.out.2 hbV.out.size))
    have HX := Lib.hid (HX.out.below hbV.out)
    have HY := Lib.hid (HY.out.below hbV.out)
    clear hbV
    obtain ⟨V, rfl⟩ : ∃ V, V = W := ⟨_, rfl⟩
    have HS1 := Lib.hid (fun (w' : World) (hb : Below V.heap.size V w') => And.intro (HB1.out.below hb HB1.out.lt).c0 (HB1.out.below hb HB1.out.lt).c1)
    have HS2 := Lib.hid (fun (w' : World) (hb : Below V.heap.size V w') => And.intro (HB2.out.below hb HB2.out.lt).c0 (HB2.out.below hb HB2.out.lt).c1)
    have GX := HA.out.get (i := 0) rfl
    have GY := HA.out.get (i := 1) rfl
    have GQ := HA.out.get (i := 2) rfl
    have GR := HA.out.get (i := 3) rfl
    have GG := HA.out.get (i := 4) rfl
    have HSX := Lib.hid (fun (w' : World) (hb : Below V.heap.size V w') => And.intro (GX.1.below hb GX.1.lt).c0 (GX.1.below hb GX.1.lt).c1)
    have HSY := Lib.hid (fun (w' : World) (hb : Below V.heap.size V w') => And.intro (GY.1.below hb GY.1.lt).c0 (GY.1.below hb GY.1.lt).c1)
    have HSQ := Lib.hid (fun (w' : World) (hb : Below V.heap.size V w') => And.intro (GQ.1.below hb GQ.1.lt).c0 (GQ.1.below hb GQ.1.lt).c1)
    have HSR := Lib.hid (fun (w' : World) (hb : Below V.heap.size V w') => And.intro (GR.1.below hb GR.1.lt).c0 (GR.1.below hb GR.1.lt).c1)
    have HSG := Lib.hid (fun (w' : World) (hb : Below V.heap.size V w') => And.intro (GG.1.below hb GG.1.lt).c0 (GG.1.below hb GG.1.lt).c1)
    have HSF := Lib.hid (fun (w' : World) (hb : Below V.heap.size V w') => And.intro (HBF.out.below hb HBF.out.lt).c0 (HBF.out.below hb HBF.out.lt).c1)
    have HSL := Lib.hid (fun (w' : World) (hb : Below V.heap.size V w') => And.intro (HBL.out.below hb HBL.out.lt).c0 (HBL.out.below hb HBL.out.lt).c1)
    have RA := Lib.hid (fun (w' : World) (hb : Below V.heap.size V w') => And.intro (HR.out.1.below (HG.out.trans (hb.mono HG.out.size))) (HR.out.2.below (HG.out.trans (hb.mono HG.out.size))))
    have RGCD := Lib.hid (fun (w' : World) (hb : Below V.heap.size V w') => rgcd_any s1 a1 n1 c1 o1 s2 a2 n2 c2 o2 w' (RA.out w' hb).1 (by omega) HC.out.1 (RA.out w' hb).2 (by omega) HC.out.2)
    rw [← HZ.out.1, ← HZ.out.2, ← HGG.out] at RGCD
    unfold ResF at RGCD
    have SMQ := Lib.hid (fun (w' : World) (hb : Below V.heap.size V w') => sameNum_any (decide (q < 0)) aq af (lenB q.natAbs) (lenB q.natAbs) cf (dgi q.natAbs) w' (GQ.2.below hb).rd (HOF.out.below hb).rd (by have := HLQ.out; omega))
    have SMR := Lib.hid (fun (w' : World) (hb : Below V.heap.size V w') => sameNum_any (decide (r < 0)) ar al (lenB r.natAbs) (lenB r.natAbs) cl (dgi r.natAbs) w' (GR.2.below hb).rd (HOL.out.below hb).rd (by have := HLQ.out; omega))
    have SMG := Lib.hid (fun (w' : World) (hb : Below V.heap.size V w') (a : Option Addr) (c : Nat) (ha : Rd w' a (lenB G.natAbs) (dgi G.natAbs)) => sameNum_any (decide (G < 0)) aG a (lenB G.natAbs) (lenB G.natAbs) c (dgi G.natAbs) w' (GG.2.below hb).rd ha (Nat.le_trans HLG.out (by omega)))
    have LFX := Lib.hid (fun (w' : World) (hb : Below V.heap.size V w') => leftNum_any s1 gx a1 n1 c1 o1 w' (HX.out.below hb).rd (RA.out w' hb).1 (by omega))
    have LFY := Lib.hid (fun (w' : World) (hb : Below V.heap.size V w') => leftNum_any s2 gy a2 n2 c2 o2 w' (HY.out.below hb).rd (RA.out w' hb).2 (by omega))
    have HLQ1 := Lib.hid HLQ.out.1
    have HLQ2 := Lib.hid HLQ.out.2
    clear HLQ
    generalize decide (q < 0) = sq at *
    generalize decide (r < 0) = sr at *
    generalize decide (G < 0) = sg at *
    generalize lenB q.natAbs = lq at *
    generalize lenB r.natAbs = lr at *
    generalize lenB G.natAbs = lg' at *
    generalize dgi q.natAbs = dq at *
    generalize dgi r.natAbs = dr at *
    generalize dgi G.natAbs = dG at *
    clear GX GY GQ GR GG HZ HGG HX HY HOF HOL HBF HBL
    refine wp_region_fresh 34 (spOf [(2, Sp.know (.bool true)), (7, Sp.know (.bool true)), (19, Sp.made (fun x : Option Addr × Nat => numV sg x.1 lg' x.2) (fun x w' => Own 57 w' V.heap.size x.1 lg' x.2 dG)), (20, Sp.know (.bool true)), (26, Sp.know (.bool true)), (32, Sp.know (.bool true))])
      (fun w' => Below V.heap.size V w') (by kernel_rfl) (by kernel_rfl)
      (spOf_cons (Sp.know_keeps _) (spOf_cons (Sp.know_keeps _) (spOf_cons (Sp.made_keeps fun x w w' h hb => h.below hb) (spOf_cons (Sp.know_keeps _) (spOf_cons (Sp.know_keeps _) (spOf_cons (Sp.know_keeps _) (spOf_nil))))))) (fun _ _ h hb => h.trans (hb.mono h.size)) ((Below.refl _ _).drew) ?_
    simp only [List.take_succ_cons, List.take_zero, List.drop_succ_cons, List.drop_zero]
    refine wpF_reads rfl rfl ?_ (fun w' hw' => ?_) ?_
    rotate_left
    · have hb' := hw'.world
      have hs := HSQ.out _ hb'
      clear hw'
      go_simp
      try rfl
    conv => arg 9; simp only [Act.put, List.setIfInBounds_toArray, List.set_cons_succ, List.set_cons_zero]
    refine wpF_reads rfl rfl ?_ (fun w' hw' => ?_) ?_
    rotate_left
    · have hb' := hw'.world
      have hs := HSF.out _ hb'
      clear hw'
      go_simp
      try rfl
    conv => arg 9; simp only [Act.put, List.setIfInBounds_toArray, List.set_cons_succ, List.set_cons_zero]
    refine wpF_spec rfl rfl (fun w' hw' => ?_) ?_
    · have hb' := hw'.world
      go_simp
      refine (SMQ.out w' hb').mono ?_
      rintro e w'' ⟨rfl, hb⟩
      exact ⟨_, rfl, rfl, hb⟩
    rintro _ rfl
    conv => arg 9; simp only [Act.put, List.setIfInBounds_toArray, List.set_cons_succ, List.set_cons_zero]
    refine wpF_reads rfl rfl ?_ (fun w' hw' => ?_) ?_
    rotate_left
    · have hb' := hw'.world
      skip
      clear hw'
      go_simp
      try rfl
    conv => arg 9; simp only [Act.put, List.setIfInBounds_toArray, List.set_cons_succ, List.set_cons_zero]
    refine wpF_reads rfl rfl ?_ (fun w' hw' => ?_) ?_
    rotate_left
    · have hb' := hw'.world
      skip
      clear hw'
      go_simp
      try rfl
    conv => arg 9; simp only [Act.put, List.setIfInBounds_toArray, List.set_cons_succ, List.set_cons_zero]
    refine wpF_readsG (by rfl) rfl ?_ (fun w' hw' => ?_) ?_
    rotate_left
    · have hb' := hw'.world
      have hs := HSR.out _ hb'
      clear hw'
      go_simp
      try rfl
    conv => arg 9; simp only [Act.put, List.setIfInBounds_toArray, List.set_cons_succ, List.set_cons_zero]
    refine wpF_readsG (by rfl) rfl ?_ (fun w' hw' => ?_) ?_
    rotate_left
    · have hb' := hw'.world
      have hs := HSL.out _ hb'
      clear hw'
      go_simp
      try rfl
    conv => arg 9; simp only [Act.put, List.setIfInBounds_toArray, List.set_cons_succ, List.set_cons_zero]
    refine wpF_specG (by rfl) rfl (fun w' hw' => ?_) ?_
    · have hb' := hw'.world
      go_simp
      refine (SMR.out w' hb').mono ?_
      rintro e w'' ⟨rfl, hb⟩
      exact ⟨_, rfl, rfl, hb⟩
    rintro _ rfl
    conv => arg 9; simp only [Act.put, List.setIfInBounds_toArray, List.set_cons_succ, List.set_cons_zero]
    refine wpF_readsG (by rfl) rfl ?_ (fun w' hw' => ?_) ?_
    rotate_left
    · have hb' := hw'.world
      skip
      clear hw'
      go_simp
      try rfl
    conv => arg 9; simp only [Act.put, List.setIfInBounds_toArray, List.set_cons_succ, List.set_cons_zero]
    refine wpF_reads rfl rfl ?_ (fun w' hw' => ?_) ?_
    rotate_left
    · have hb' := hw'.world
      skip
      clear hw'
      go_simp
      try rfl
    conv => arg 9; simp only [Act.put, List.setIfInBounds_toArray, List.set_cons_succ, List.set_cons_zero]
    refine wpF_reads rfl rfl ?_ (fun w' hw' => ?_) ?_
    rotate_left
    · have hb' := hw'.world
      skip
      clear hw'
      go_simp
      try rfl
    conv => arg 9; simp only [Act.put, List.setIfInBounds_toArray, List.set_cons_succ, List.set_cons_zero]
    refine wpF_readsG (by rfl) rfl ?_ (fun w' hw' => ?_) ?_
    rotate_left
    · have hb' := hw'.world
      skip
      clear hw'
      go_simp
      try rfl
    conv => arg 9; simp only [Act.put, List.setIfInBounds_toArray, List.set_cons_succ, List.set_cons_zero]
    refine wpF_readsG (by rfl) rfl ?_ (fun w' hw' => ?_) ?_
    rotate_left
    · have hb' := hw'.world
      skip
      clear hw'
      go_simp
      try rfl
    conv => arg 9; simp only [Act.put, List.setIfInBounds_toArray, List.set_cons_succ, List.set_cons_zero]
    refine wpF_readsG (by rfl) rfl ?_ (fun w' hw' => ?_) ?_
    rotate_left
    · have hb' := hw'.world
      skip
      clear hw'
      go_simp
      try rfl
    conv => arg 9; simp only [Act.put, List.setIfInBounds_toArray, List.set_cons_succ, List.set_cons_zero]
    refine wpF_reads rfl rfl ?_ (fun w' hw' => ?_) ?_
    rotate_left
    · have hb' := hw'.world
      skip
      clear hw'
      go_simp
      try rfl
    conv => arg 9; simp only [Act.put, List.setIfInBounds_toArray, List.set_cons_succ, List.set_cons_zero]
    refine wpF_reads rfl rfl ?_ (fun w' hw' => ?_) ?_
    rotate_left
    · have hb' := hw'.world
      skip
      clear hw'
      go_simp
      try rfl
    conv => arg 9; simp only [Act.put, List.setIfInBounds_toArray, List.set_cons_succ, List.set_cons_zero]
    refine wpF_readsG (by rfl) rfl ?_ (fun w' hw' => ?_) ?_
    rotate_left
    · have hb' := hw'.world
      have hs := HSG.out _ hb'
      clear hw'
      go_simp
      try rfl
    conv => arg 9; simp only [Act.put, List.setIfInBounds_toArray, List.set_cons_succ, List.set_cons_zero]
    refine wpF_readsG (by rfl) rfl ?_ (fun w' hw' => ?_) ?_
    rotate_left
    · have hb' := hw'.world
      have hs := HS1.out _ hb'
      clear hw'
      go_simp
      try rfl
    conv => arg 9; simp only [Act.put, List.setIfInBounds_toArray, List.set_cons_succ, List.set_cons_zero]
    refine wpF_readsG (by rfl) rfl ?_ (fun w' hw' => ?_) ?_
    rotate_left
    · have hb' := hw'.world
      have hs := HS2.out _ hb'
      clear hw'
      go_simp
      try rfl
    conv => arg 9; simp only [Act.put, List.setIfInBounds_toArray, List.set_cons_succ, List.set_cons_zero]
    refine wpF_specG (by rfl) rfl (fun w' hw' => ?_) ?_
    · have hb' := hw'.world
      go_simp
      refine (RGCD.out w' hb').mono ?_
      rintro e w'' ⟨a, cap, rfl, q, hb⟩
      exact ⟨_, rfl, ⟨⟨a, cap, rfl⟩, ⟨a, cap, rfl, q.mono hb'.size⟩⟩, hb⟩
    rintro _ ⟨x, rfl⟩
    conv => arg 9; simp only [Act.put, List.setIfInBounds_toArray, List.set_cons_succ, List.set_cons_zero]
    refine wpF_specG (by rfl) rfl (fun w' hw' => ?_) ?_
    · have hb' := hw'.world
      go_simp
      have h7 := own_numc (T := 57) (x := x) (b := V.heap.size) (s := sg) (L := lg') (o := dG) (hw'.fact 19 (by kernel_rfl))
      refine (SMG.out w' hb' x.1 x.2 h7.rd).mono ?_
      rintro e w'' ⟨rfl, hb⟩
      exact ⟨_, rfl, rfl, hb⟩
    rintro _ rfl
    conv => arg 9; simp only [Act.put, List.setIfInBounds_toArray, List.set_cons_succ, List.set_cons_zero]
    refine wpF_readsG (by rfl) rfl ?_ (fun w' hw' => ?_) ?_
    rotate_left
    · have hb' := hw'.world
      skip
      clear hw'
      go_simp
      try rfl
    conv => arg 9; simp only [Act.put, List.setIfInBounds_toArray, List.set_cons_succ, List.set_cons_zero]
    refine wpF_reads rfl rfl ?_ (fun w' hw' => ?_) ?_
    rotate_left
    · have hb' := hw'.world
      skip
      clear hw'
      go_simp
      try rfl
    conv => arg 9; simp only [Act.put, List.setIfInBounds_toArray, List.set_cons_succ, List.set_cons_zero]
    refine wpF_reads rfl rfl ?_ (fun w' hw' => ?_) ?_
    rotate_left
    · have hb' := hw'.world
      skip
      clear hw'
      go_simp
      try rfl
    conv => arg 9; simp only [Act.put, List.setIfInBounds_toArray, List.set_cons_succ, List.set_cons_zero]
    refine wpF_readsG (by rfl) rfl ?_ (fun w' hw' => ?_) ?_
    rotate_left
    · have hb' := hw'.world
      have hs := HSX.out _ hb'
      clear hw'
      go_simp
      try rfl
    conv => arg 9; simp only [Act.put, List.setIfInBounds_toArray, List.set_cons_succ, List.set_cons_zero]
    refine wpF_readsG (by rfl) rfl ?_ (fun w' hw' => ?_) ?_
    rotate_left
    · have hb' := hw'.world
      have hs := HS1.out _ hb'
      clear hw'
      go_simp
      try rfl
    conv => arg 9; simp only [Act.put, List.setIfInBounds_toArray, List.set_cons_succ, List.set_cons_zero]
    refine wpF_specG (by rfl) rfl (fun w' hw' => ?_) ?_
    · have hb' := hw'.world
      go_simp
      refine (LFX.out w' hb').mono ?_
      rintro e w'' ⟨rfl, hb⟩
      exact ⟨_, rfl, rfl, hb⟩
    rintro _ rfl
    conv => arg 9; simp only [Act.put, List.setIfInBounds_toArray, List.set_cons_succ, List.set_cons_zero]
    refine wpF_readsG (by rfl) rfl ?_ (fun w' hw' => ?_) ?_
    rotate_left
    · have hb' := hw'.world
      skip
      clear hw'
      go_simp
      try rfl
    conv => arg 9; simp only [Act.put, List.setIfInBounds_toArray, List.set_cons_succ, List.set_cons_zero]
    refine wpF_reads rfl rfl ?_ (fun w' hw' => ?_) ?_
    rotate_left
    · have hb' := hw'.world
      skip
      clear hw'
      go_simp
      try rfl
    conv => arg 9; simp only [Act.put, List.setIfInBounds_toArray, List.set_cons_succ, List.set_cons_zero]
    refine wpF_reads rfl rfl ?_ (fun w' hw' => ?_) ?_
    rotate_left
    · have hb' := hw'.world
      skip
      clear hw'
      go_simp
      try rfl
    conv => arg 9; simp only [Act.put, List.setIfInBounds_toArray, List.set_cons_succ, List.set_cons_zero]
    refine wpF_readsG (by rfl) rfl ?_ (fun w' hw' => ?_) ?_
    rotate_left
    · have hb' := hw'.world
      have hs := HSY.out _ hb'
      clear hw'
      go_simp
      try rfl
    conv => arg 9; simp only [Act.put, List.setIfInBounds_toArray, List.set_cons_succ, List.set_cons_zero]
    refine wpF_readsG (by rfl) rfl ?_ (fun w' hw' => ?_) ?_
    rotate_left
    · have hb' := hw'.world
      have hs := HS2.out _ hb'
      clear hw'
      go_simp
      try rfl
    conv => arg 9; simp only [Act.put, List.setIfInBounds_toArray, List.set_cons_succ, List.set_cons_zero]
    refine wpF_specG (by rfl) rfl (fun w' hw' => ?_) ?_
    · have hb' := hw'.world
      go_simp
      refine (LFY.out w' hb').mono ?_
      rintro e w'' ⟨rfl, hb⟩
      exact ⟨_, rfl, rfl, hb⟩
    rintro _ rfl
    conv => arg 9; simp only [Act.put, List.setIfInBounds_toArray, List.set_cons_succ, List.set_cons_zero]
    refine wpF_readsG (by rfl) rfl ?_ (fun w' hw' => ?_) ?_
    rotate_left
    · have hb' := hw'.world
      skip
      clear hw'
      go_simp
      try rfl
    conv => arg 9; simp only [Act.put, List.setIfInBounds_toArray, List.set_cons_succ, List.set_cons_zero]
    refine wpF_nil (fun w5 hb5 hF5 => ?_)
    have HA5 := Lib.hid (HA.out.below hb5)
    have HG5 := Lib.hid (HG.out.trans (hb5.mono HG.out.size))
    have HL5 := Lib.hid (And.intro HLO.out.1 (Nat.le_trans HLO.out.2 hb5.size))
    clear hF5 hb5 HS1 HS2 HSX HSY HSQ HSR HSG HSF HSL RA RGCD SMQ SMR SMG LFX LFY HA HG HLO HB1 HB2 HR HC
    go_upto_region 11 with (fail)
    obtain ⟨W, hW⟩ : ∃ W, W = w5.alloc (.cells #[.int .i64 0, .slice none 0 0, .slice none 0 0, .slice none 0 0, .slice none 0 0, .slice none 0 0, .slice none 0 0, .slice none 0 0, .slice none 0 0, .slice none 0 0, .slice none 0 0, .slice none 0 0, .slice none 0 0] 44) := ⟨_, rfl⟩
    have HK := Lib.hid (book_new w5)
    have HW := Lib.hid (show Below w5.heap.size w5 (w5.alloc (.cells #[.int .i64 0, .slice none 0 0, .slice none 0 0, .slice none 0 0, .slice none 0 0, .slice none 0 0, .slice none 0 0, .slice none 0 0, .slice none 0 0, .slice none 0 0, .slice none 0 0, .slice none 0 0, .slice none 0 0] 44)) from (Below.refl _ _).alloc (Nat.le_refl _) _)
    rw [← hW] at HK HW
    rw [show w5.alloc (.cells #[.int .i64 0, .slice none 0 0, .slice none 0 0, .slice none 0 0, .slice none 0 0, .slice none 0 0, .slice none 0 0, .slice none 0 0, .slice none 0 0, .slice none 0 0, .slice none 0 0, .slice none 0 0, .slice none 0 0] 44) = W from hW.symm]
    clear hW
    obtain ⟨B, hB⟩ : ∃ B, B = w5.heap.size := ⟨_, rfl⟩
    rw [← hB] at HK HW
    rw [← hB]
    have HBe := Lib.hid hB
    clear hB
    have hbz : B ≤ W.heap.size := Nat.le_trans (by rw [HBe.out]; exact Nat.le_refl _) HW.out.size
    obtain ⟨x0, x1, x2, x3⟩ := ((HA5.out.below (by rw [← HBe.out]; exact HW.out)).get (i := 0) rfl).1.all
    have NM := Lib.hid (Book.num_any B B 0 _ _ (s1) (some ⟨gx, 0, none⟩) (n1) (n1 + 1) W (by omega) HK.out hbz)
    go_wp2_with fail
    refine NM.out.mono ?_
    rintro e W' hk
    obtain ⟨⟨u, rfl⟩, v', hk1, hk2⟩ := kept_next hk HK.out hbz
    have HK := Lib.hid hk1
    have HW := Lib.hid (HW.out.trans hk2)
    clear hk hk1 hk2 NM x0 x1 x2 x3 hbz
    obtain ⟨W, rfl⟩ : ∃ W, W = W' := ⟨_, rfl⟩
    have hbz : B ≤ W.heap.size := Nat.le_trans (by rw [HBe.out]; exact Nat.le_refl _) HW.out.size
    obtain ⟨x0, x1, x2, x3⟩ := ((HA5.out.below (by rw [← HBe.out]; exact HW.out)).get (i := 1) rfl).1.all
    have NM := Lib.hid (Book.num_any B B 1 _ _ (s2) (some ⟨gy, 0, none⟩) (n2) (n2 + 1) W (by omega) HK.out hbz)
    go_wp2_with fail
    refine NM.out.mono ?_
    rintro e W' hk
    obtain ⟨⟨u, rfl⟩, v', hk1, hk2⟩ := kept_next hk HK.out hbz
    have HK := Lib.hid hk1
    have HW := Lib.hid (HW.out.trans hk2)
    clear hk hk1 hk2 NM x0 x1 x2 x3 hbz
    obtain ⟨W, rfl⟩ : ∃ W, W = W' := ⟨_, rfl⟩
    have hbz : B ≤ W.heap.size := Nat.le_trans (by rw [HBe.out]; exact Nat.le_refl _) HW.out.size
    obtain ⟨x0, x1, x2, x3⟩ := ((HA5.out.below (by rw [← HBe.out]; exact HW.out)).get (i := 2) rfl).1.all
    have NM := Lib.hid (Book.num_any B B 2 _ _ (sq) (aq) (lq) (lq) W (by omega) HK.out hbz)
    go_wp2_with fail
    refine NM.out.mono ?_
    rintro e W' hk
    obtain ⟨⟨u, rfl⟩, v', hk1, hk2⟩ := kept_next hk HK.out hbz
    have HK := Lib.hid hk1
    have HW := Lib.hid (HW.out.trans hk2)
    clear hk hk1 hk2 NM x0 x1 x2 x3 hbz
    obtain ⟨W, rfl⟩ : ∃ W, W = W' := ⟨_, rfl⟩
    have hbz : B ≤ W.heap.size := Nat.le_trans (by rw [HBe.out]; exact Nat.le_refl _) HW.out.size
    obtain ⟨x0, x1, x2, x3⟩ := ((HA5.out.below (by rw [← HBe.out]; exact HW.out)).get (i := 3) rfl).1.all
    have NM := Lib.hid (Book.num_any B B 3 _ _ (sr) (ar) (lr) (lr) W (by omega) HK.out hbz)
    go_wp2_with fail
    refine NM.out.mono ?_
    rintro e W' hk
    obtain ⟨⟨u, rfl⟩, v', hk1, hk2⟩ := kept_next hk HK.out hbz
    have HK := Lib.hid hk1
    have HW := Lib.hid (HW.out.trans hk2)
    clear hk hk1 hk2 NM x0 x1 x2 x3 hbz
    obtain ⟨W, rfl⟩ : ∃ W, W = W' := ⟨_, rfl⟩
    have hbz : B ≤ W.heap.size := Nat.le_trans (by rw [HBe.out]; exact Nat.le_refl _) HW.out.size
    obtain ⟨x0, x1, x2, x3⟩ := ((HA5.out.below (by rw [← HBe.out]; exact HW.out)).get (i := 4) rfl).1.all
    have NM := Lib.hid (Book.num_any B B 4 _ _ (sg) (aG) (lg') (lg') W (by omega) HK.out hbz)
    go_wp2_with fail
    refine NM.out.mono ?_
    rintro e W' hk
    obtain ⟨⟨u, rfl⟩, v', hk1, hk2⟩ := kept_next hk HK.out hbz
    have HK := Lib.hid hk1
    have HW := Lib.hid (HW.out.trans hk2)
    clear hk hk1 hk2 NM x0 x1 x2 x3 hbz
    obtain ⟨W, rfl⟩ : ∃ W, W = W' := ⟨_, rfl⟩
    have AP := Lib.hid (apart_of (w0 := w) HA5.out HBe.out.symm HW.out HK.out rfl (Nat.zero_lt_succ 4) (show 5 ≤ 1000 by omega) (by
        intro x hx
        simp only [List.mem_cons, List.mem_nil_iff, or_false] at hx
        have h1 := HLQ1.out
        have h2 := HLQ2.out
        have h3 := HLG.out
        rcases hx with rfl | rfl | rfl | rfl | rfl <;> dsimp only <;> omega) HL5.out.1 (by rw [HBe.out]; exact HL5.out.2) (HG5.out.trans (HW.out.mono (by rw [HBe.out]; exact HG5.out.size))) (Nat.le_trans (Nat.le_trans HG5.out.size (by rw [← HBe.out]; exact Nat.le_refl _)) (Nat.le_trans (by rw [HBe.out]; exact Nat.le_refl _) HW.out.size)))
    go_wp2_with fail
    refine AP.out.mono ?_
    rintro e W' ⟨rfl, hb⟩
    have HF := Lib.hid hb
    clear hb AP
    go_wp2_with fail
    go_ret
    exact ⟨rfl, HF.out⟩
end Go.Proofs.YtebobpbcllideaaGreatDoor.Limb
namespace Go.Proofs.YtebobpbcllideaaGreatDoor.Limb
open Go.RowKit Go.Sort

/-! ### The row and the card -/
open Go.ChangeShapes Go.WideShapes Go.ChangeAt
namespace LimbsDivsC
theorem own : ownKnob Tryz.prog.godebug = none := by kernel_rfl
theorem laidOut : laidOutB Tryz.prog = true := by kernel_rfl

/-- A WORLD FOR THE WITNESS: the settled one, the tables holding what their initialisers lay. -/
noncomputable def laidWorld (os : Os) : World :=
  { World.holding Tryz.prog os ⟨#[], #[], []⟩ with heap := ((((World.holding Tryz.prog os ⟨#[], #[], []⟩).heap.modify 0 fun
      | .cells _ t frozen => .cells #[.int .u64 1, .int .u64 10, .int .u64 100, .int .u64 1000, .int .u64 10000, .int .u64 100000, .int .u64 1000000, .int .u64 10000000, .int .u64 100000000, .int .u64 1000000000, .int .u64 10000000000, .int .u64 100000000000, .int .u64 1000000000000, .int .u64 10000000000000, .int .u64 100000000000000, .int .u64 1000000000000000, .int .u64 10000000000000000, .int .u64 100000000000000000, .int .u64 1000000000000000000, .int .u64 10000000000000000000] t frozen
      | o => o).modify 1 fun
      | .cells _ t frozen => .cells #[.int .u8 0, .int .u8 1, .int .u8 28, .int .u8 2, .int .u8 29, .int .u8 14, .int .u8 24, .int .u8 3, .int .u8 30, .int .u8 22, .int .u8 20, .int .u8 15, .int .u8 25, .int .u8 17, .int .u8 4, .int .u8 8, .int .u8 31, .int .u8 27, .int .u8 13, .int .u8 23, .int .u8 21, .int .u8 19, .int .u8 16, .int .u8 7, .int .u8 26, .int .u8 12, .int .u8 18, .int .u8 6, .int .u8 11, .int .u8 5, .int .u8 10, .int .u8 9] t frozen
      | o => o).modify 2 fun
      | .cells _ t frozen => .cells #[.int .u8 0, .int .u8 1, .int .u8 56, .int .u8 2, .int .u8 57, .int .u8 49, .int .u8 28, .int .u8 3, .int .u8 61, .int .u8 58, .int .u8 42, .int .u8 50, .int .u8 38, .int .u8 29, .int .u8 17, .int .u8 4, .int .u8 62, .int .u8 47, .int .u8 59, .int .u8 36, .int .u8 45, .int .u8 43, .int .u8 51, .int .u8 22, .int .u8 53, .int .u8 39, .int .u8 33, .int .u8 30, .int .u8 24, .int .u8 18, .int .u8 12, .int .u8 5, .int .u8 63, .int .u8 55, .int .u8 48, .int .u8 27, .int .u8 60, .int .u8 41, .int .u8 37, .int .u8 16, .int .u8 46, .int .u8 35, .int .u8 44, .int .u8 21, .int .u8 52, .int .u8 32, .int .u8 23, .int .u8 11, .int .u8 54, .int .u8 26, .int .u8 40, .int .u8 15, .int .u8 34, .int .u8 20, .int .u8 31, .int .u8 10, .int .u8 25, .int .u8 14, .int .u8 19, .int .u8 9, .int .u8 13, .int .u8 8, .int .u8 7, .int .u8 6] t frozen
      | o => o) }
noncomputable def witArgs : Array Value := #[numV false none 0 0, numV false none 0 0]
theorem laid_met (os : Os) : laidMet Tryz.prog Rows.limbsDivsRow.laid ((laidWorld os).forCall (fun _ _ => 0) ⟨#[], witArgs, []⟩).memory :=
  laidMet_of_run' 8 (by kernel_rfl) (by kernel_rfl)
theorem reads (os : Os) {H : Type} (enc : TypeId × Value → H) : ∃ places, DataW.whole enc Tryz.prog ((laidWorld os).forCall (fun _ _ => 0) ⟨#[], witArgs, []⟩).memory Tryz.f4.params.toList Rows.limbsDivsSpec.vars false witArgs.toList 8 = some ([.agg [.lit (.bool false), .nil], .agg [.lit (.bool false), .nil]], [], places) :=
  ⟨[], by kernel_rfl⟩

set_option maxRecDepth 100000 in
theorem lifted (os : Os) (started : os.Started) (H : Type) (enc : TypeId × Value → H) (F : Stop.Interp) :
    ReturnsInHanded {} Tryz.checked os 4 .any ((OpenSpec.ofChange Rows.limbsDivsSpec).preRow enc Tryz.prog Tryz.f4 Rows.limbsDivsRow.domain false Rows.limbsDivsRow.laid) (((OpenSpec.ofChange Rows.limbsDivsSpec).at F).post enc Tryz.prog Tryz.f4 false true false false) := by
  obtain ⟨places, hx⟩ := reads os enc
  refine returnsInHanded_of_row (C := Tryz.checked) (s := OpenSpec.ofChange Rows.limbsDivsSpec) own started (by kernel_rfl) Tryz.func4
    (witness_row_at (enc := enc) (C := Tryz.checked) false (laidWorld os) witArgs rfl (by kernel_rfl) (by kernel_rfl) (by kernel_rfl)
      (OpenSpec.preRow_of_cond 8 hx (by kernel_rfl) (fun k hk => by cases hk) (by kernel_rfl) (laid_met os))) ?_
  intro W base args ds gs before hval0 hW _ _ _ _ _ _
  have hval : ∀ (j : Nat) t v, Tryz.f4.params[j]? = some t → args[j]? = some v → Value.okWide Tryz.prog W .any base t v := hval0
  have hW' := hW
  obtain ⟨p, q, hA0, hV, rfl, hfz, hnd⟩ := hW
  have hA : DataW.TrodAll enc Tryz.prog W 0 (fun _ => true) true Tryz.f4.params.toList args.toList ds p := hA0
  rw [Tryz.params4] at hA hval
  obtain ⟨v0, v1, d0, d1, p0, p1, rfl, rfl, rfl, h0, h1⟩ := trodAll_two hA
  obtain ⟨rfl, rfl⟩ := trodVars_none hV
  obtain ⟨s1, a1, n1, c1, o1, rfl, r1, l1⟩ := open_num (hval 0 24 v0 rfl rfl) h0
  obtain ⟨s2, a2, n2, c2, o2, rfl, r2, l2⟩ := open_num (hval 1 24 v1 rfl rfl) h1
  refine (limbsDivs_law s1 a1 n1 c1 o1 s2 a2 n2 c2 o2 W r1 l1 r2 l2).mono fun e W' ⟨he, hg⟩ => ?_
  subst he
  exact ⟨_, rfl, LawPost.law_post laidOut (by kernel_rfl) (by kernel_rfl) Tryz.underlying4 hW' rfl rfl hg⟩

theorem said : Rows.LimbsDivsSaid :=
  OpenClaim.holds_of_cond 4 Tryz.f4 rfl rfl rfl rfl rfl rfl rfl ⟨rfl, rfl, rfl, rfl, rfl⟩ rfl rfl rfl rfl rfl (by kernel_rfl) Tryz.func4 (by kernel_rfl)
    (of_decide_eq_true (by kernel_rfl)) (by unfold Func.isWrapper; first | (rw [if_pos (by decide +kernel)]; kernel_rfl) | (rw [if_neg (by decide +kernel)]; exact ⟨rfl, rfl⟩))
    (fun os started H enc _ F => by rw [OpenClaim.pre_eq_preRow]; exact lifted os started H enc F)

/-- No parameter wants a stand-in; the program's own looks are off: what the card asks. -/
theorem plain (f : FuncId) (fn : Func) (hf : Tryz.pinned.checked.prog.funcNamed "reckoner/reckonerlaw01.LimbsDivs" = some f) (hfn : Tryz.pinned.checked.prog.funcs[f]? = some fn) :
    false = Tryz.pinned.checked.prog.looks [] ∧ ∀ (j : Nat) t, fn.params[j]? = some t → Tryz.pinned.checked.prog.wantsStandIn t = false := by
  obtain rfl : f = 4 := Option.some.inj ((show Tryz.prog.funcNamed "reckoner/reckonerlaw01.LimbsDivs" = some 4 by kernel_rfl).symm.trans hf) |>.symm
  obtain rfl : fn = Tryz.f4 := (Option.some.inj (Tryz.func4.symm.trans hfn)).symm
  refine ⟨by kernel_rfl, fun j t ht => ?_⟩
  rw [Tryz.params4] at ht
  obtain rfl : t = 24 := by simpa using Array.mem_of_getElem? ht
  exact (show Tryz.prog.wantsStandIn 24 = false by kernel_rfl)

/-- The card. -/
theorem card : Rows.LimbsDivsCardSaid :=
  Claim7.holds_tied_plain_at .later [] _ _ _ _ said (fun _ h => by cases h) (by kernel_rfl) (fun _ h => by cases h) limbsDivs_row_tie rfl ⟨rfl, rfl⟩ (by kernel_rfl) rfl plain (by kernel_rfl)
#print axioms card
end LimbsDivsC
end Go.Proofs.YtebobpbcllideaaGreatDoor.Limb
