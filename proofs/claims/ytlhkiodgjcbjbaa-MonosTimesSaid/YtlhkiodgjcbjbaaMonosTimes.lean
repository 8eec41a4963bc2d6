/-
  MonosTimes: whatever order and whatever three products come in, the law returns true.
-/
import Derived.Test.YtlhkiodgjcbjbaaMonoThree
namespace Go.Proofs.Ytlhkiodgjcbjbaa.Mono
open Go.RowKit Go.Sort

set_option maxHeartbeats 4000000 in
theorem times_111 (o : Int) (a b c : Nat → Int) (w : World) (ha : Small a) (hb : Small b) (hc : Small c) (h1 : mulB a c = true) (h2 : mulB b c = true) (hd : divB a b = true) :
    Calls Try.prog 8 #[.int .u8 o, mv12 a b c] w fun e w' => e = .returned (.bool true) ∧ Below w.heap.size w w' := by
  have HA := Lib.hid ha
  have HB := Lib.hid hb
  have HC := Lib.hid hc
  have HX := Lib.hid (boxL w 38 a b c)
  have zz : ∀ i, zeroM i = 0 := fun _ => rfl
  have E1 := Lib.hid (mulE_true h1)
  have M1 := Lib.hid (mul_small ha hc)
  have E2 := Lib.hid (mulE_true h2)
  have M2 := Lib.hid (mul_small hb hc)
  have E3 := Lib.hid (cmp_mul (o := o) ha hb hc h1 h2)
  have hq := cmp_div (o := o) ha hb hd
  have D0 := Lib.hid hd
  clear ha hb hc h1 h2 hd
  go_enter Try.func8, Try.ntmps8
  go_wp2_with fail
  refine (mul_as (a := a) (b := c) (c := mulM a c) (n := 0) _ HA.out HC.out rfl E1.out).mono ?_
  rintro e w1 ⟨rfl, hb1⟩
  have T1 := rowBelow12 HX.out hb1 (by first | (simp; done) | (simp; omega) | exact T0.lt)
  have L1 := Lib.hid (((Below.refl _ _).alloc (by go_size) _).trans (hb1.mono (by go_size)) : Below w.heap.size w w1)
  clear hb1
  obtain ⟨t1_0, t1_1, t1_2, t1_3, t1_4, t1_5, t1_6, t1_7, t1_8, t1_9, t1_10, t1_11⟩ := rowc12 T1
  have ltT := T1.lt
  go_wp2_with fail
  refine (mul_as (a := b) (b := c) (c := mulM b c) (n := 0) _ HB.out HC.out rfl E2.out).mono ?_
  rintro e w2 ⟨rfl, hb2⟩
  have T2 := rowBelow12 (T1.alloc (.cells (arr4 (mulM a c)) 24)) hb2 (by first | (simp; done) | (simp; omega) | exact T1.lt)
  have P2 := rowBelow (rowNew w1 24 (mulM a c)) hb2 (by simp)
  have L2 := Lib.hid ((L1.out.alloc (by have := L1.out.size; omega) _).trans (hb2.mono (by have := L1.out.size; simp; omega)) : Below w.heap.size w w2)
  clear hb2 L1 T1 t1_0 t1_1 t1_2 t1_3 t1_4 t1_5 t1_6 t1_7 t1_8 t1_9 t1_10 t1_11 ltT
  obtain ⟨t2_0, t2_1, t2_2, t2_3, t2_4, t2_5, t2_6, t2_7, t2_8, t2_9, t2_10, t2_11⟩ := rowc12 T2
  have ltT := T2.lt
  obtain ⟨p2_0, p2_1, p2_2, p2_3⟩ := rowc P2
  have ltP := P2.lt
  go_wp2_with fail
  refine wp_region_quiet_below (by kernel_rfl) (by kernel_rfl) ?_
  obtain ⟨tr_0, tr_1, tr_2, tr_3, tr_4, tr_5, tr_6, tr_7, tr_8, tr_9, tr_10, tr_11⟩ := rows12 (T2.alloc (.cells (arr4 (mulM b c)) 24))
  obtain ⟨pr_0, pr_1, pr_2, pr_3⟩ := rows4 (P2.alloc (.cells (arr4 (mulM b c)) 24))
  obtain ⟨qr_0, qr_1, qr_2, qr_3⟩ := rows4 (rowNew w2 24 (mulM b c))
  repeat (go_big_quiet_step (first
    | (go_at_call 19; first | (with_reducible exact Calls.regrown_of (cmp_as (o := o) (a := mulM a c) (b := mulM b c) (n := cmpM o a b) _ M1.out M2.out E3.out)) | (with_reducible exact Calls.regrown_of (cmp_any o a b _ HA.out HB.out)))))
  refine wpQuiet_nil ?_
  intro w3 hw3
  obtain ⟨q, hq⟩ := hw3
  have hb3 : Below (w2.alloc (.cells (arr4 (mulM b c)) 24)).heap.size (w2.alloc (.cells (arr4 (mulM b c)) 24)) w3 := by
    have h := below_regrown (w2.alloc (.cells (arr4 (mulM b c)) 24)) q.d q.os
    have e : w3 = grow (redrawn (w2.alloc (.cells (arr4 (mulM b c)) 24)) q.d) q.os := hq
    rw [e]; exact h
  clear hq tr_0 tr_1 tr_2 tr_3 tr_4 tr_5 tr_6 tr_7 tr_8 tr_9 tr_10 tr_11 pr_0 pr_1 pr_2 pr_3 qr_0 qr_1 qr_2 qr_3
  have T3 := rowBelow12 (T2.alloc (.cells (arr4 (mulM b c)) 24)) hb3 (by first | (simp; done) | (simp; omega) | exact T2.lt)
  have P3 := rowBelow (P2.alloc (.cells (arr4 (mulM b c)) 24)) hb3 (by first | (simp; done) | (simp; omega) | exact P2.lt)
  have Q3 := rowBelow (rowNew w2 24 (mulM b c)) hb3 (by simp)
  have L3 := Lib.hid ((L2.out.alloc (by have := L2.out.size; omega) _).trans (hb3.mono (by have := L2.out.size; simp; omega)) : Below w.heap.size w w3)
  clear hb3 L2 T2 t2_0 t2_1 t2_2 t2_3 t2_4 t2_5 t2_6 t2_7 t2_8 t2_9 t2_10 t2_11 ltT P2 p2_0 p2_1 p2_2 p2_3 ltP
  obtain ⟨t3_0, t3_1, t3_2, t3_3, t3_4, t3_5, t3_6, t3_7, t3_8, t3_9, t3_10, t3_11⟩ := rowc12 T3
  have ltT := T3.lt
  obtain ⟨p3_0, p3_1, p3_2, p3_3⟩ := rowc P3
  have ltP := P3.lt
  obtain ⟨q3_0, q3_1, q3_2, q3_3⟩ := rowc Q3
  have ltQ := Q3.lt
  go_wp2_with fail
  refine (div_as (a := a) (b := b) (c := divM a b) (n := true) _ HA.out HB.out rfl D0.out).mono ?_
  rintro e w4 ⟨rfl, hb4⟩
  have T4 := rowBelow12 T3 hb4 (by first | (simp; done) | (simp; omega) | exact T3.lt)
  have P4 := rowBelow P3 hb4 (by first | (simp; done) | (simp; omega) | exact P3.lt)
  have Q4 := rowBelow Q3 hb4 (by first | (simp; done) | (simp; omega) | exact Q3.lt)
  have L4 := Lib.hid (L3.out.trans (hb4.mono L3.out.size) : Below w.heap.size w w4)
  clear hb4 L3 T3 t3_0 t3_1 t3_2 t3_3 t3_4 t3_5 t3_6 t3_7 t3_8 t3_9 t3_10 t3_11 ltT P3 p3_0 p3_1 p3_2 p3_3 ltP Q3 q3_0 q3_1 q3_2 q3_3 ltQ
  obtain ⟨t4_0, t4_1, t4_2, t4_3, t4_4, t4_5, t4_6, t4_7, t4_8, t4_9, t4_10, t4_11⟩ := rowc12 T4
  have ltT := T4.lt
  obtain ⟨p4_0, p4_1, p4_2, p4_3⟩ := rowc P4
  have ltP := P4.lt
  obtain ⟨q4_0, q4_1, q4_2, q4_3⟩ := rowc Q4
  have ltQ := Q4.lt
  go_wp2_with fail
  refine (alive_any _).mono ?_
  rintro e w5 ⟨rfl, hb5⟩
  have T5 := rowBelow12 (T4.alloc (.cells (arr4 (divM a b)) 24)) hb5 (by first | (simp; done) | (simp; omega) | exact T4.lt)
  have P5 := rowBelow (P4.alloc (.cells (arr4 (divM a b)) 24)) hb5 (by first | (simp; done) | (simp; omega) | exact P4.lt)
  have Q5 := rowBelow (Q4.alloc (.cells (arr4 (divM a b)) 24)) hb5 (by first | (simp; done) | (simp; omega) | exact Q4.lt)
  have L5 := Lib.hid ((L4.out.alloc (by have := L4.out.size; omega) _).trans (hb5.mono (by have := L4.out.size; simp; omega)) : Below w.heap.size w w5)
  clear hb5 L4 T4 t4_0 t4_1 t4_2 t4_3 t4_4 t4_5 t4_6 t4_7 t4_8 t4_9 t4_10 t4_11 ltT P4 p4_0 p4_1 p4_2 p4_3 ltP Q4 q4_0 q4_1 q4_2 q4_3 ltQ
  obtain ⟨t5_0, t5_1, t5_2, t5_3, t5_4, t5_5, t5_6, t5_7, t5_8, t5_9, t5_10, t5_11⟩ := rowc12 T5
  have ltT := T5.lt
  obtain ⟨p5_0, p5_1, p5_2, p5_3⟩ := rowc P5
  have ltP := P5.lt
  obtain ⟨q5_0, q5_1, q5_2, q5_3⟩ := rowc Q5
  have ltQ := Q5.lt
  go_wp2_with fail
  refine (cmp_any o a b _ HA.out HB.out).mono ?_
  rintro e w6 ⟨rfl, hb6⟩
  have T6 := rowBelow12 T5 hb6 (by first | (simp; done) | (simp; omega) | exact T5.lt)
  have P6 := rowBelow P5 hb6 (by first | (simp; done) | (simp; omega) | exact P5.lt)
  have Q6 := rowBelow Q5 hb6 (by first | (simp; done) | (simp; omega) | exact Q5.lt)
  have L6 := Lib.hid (L5.out.trans (hb6.mono L5.out.size) : Below w.heap.size w w6)
  clear hb6 L5 T5 t5_0 t5_1 t5_2 t5_3 t5_4 t5_5 t5_6 t5_7 t5_8 t5_9 t5_10 t5_11 ltT P5 p5_0 p5_1 p5_2 p5_3 ltP Q5 q5_0 q5_1 q5_2 q5_3 ltQ
  obtain ⟨t6_0, t6_1, t6_2, t6_3, t6_4, t6_5, t6_6, t6_7, t6_8, t6_9, t6_10, t6_11⟩ := rowc12 T6
  have ltT := T6.lt
  obtain ⟨p6_0, p6_1, p6_2, p6_3⟩ := rowc P6
  have ltP := P6.lt
  obtain ⟨q6_0, q6_1, q6_2, q6_3⟩ := rowc Q6
  have ltQ := Q6.lt
  go_wp2
  go_ret
  exact ⟨rfl, L6.out⟩

set_option maxHeartbeats 4000000 in
theorem times_110 (o : Int) (a b c : Nat → Int) (w : World) (ha : Small a) (hb : Small b) (hc : Small c) (h1 : mulB a c = true) (h2 : mulB b c = true) (hd : divB a b = false) :
    Calls Try.prog 8 #[.int .u8 o, mv12 a b c] w fun e w' => e = .returned (.bool true) ∧ Below w.heap.size w w' := by
  have HA := Lib.hid ha
  have HB := Lib.hid hb
  have HC := Lib.hid hc
  have HX := Lib.hid (boxL w 38 a b c)
  have zz : ∀ i, zeroM i = 0 := fun _ => rfl
  have E1 := Lib.hid (mulE_true h1)
  have M1 := Lib.hid (mul_small ha hc)
  have E2 := Lib.hid (mulE_true h2)
  have M2 := Lib.hid (mul_small hb hc)
  have E3 := Lib.hid (cmp_mul (o := o) ha hb hc h1 h2)
  have D0 := Lib.hid hd
  clear ha hb hc h1 h2 hd
  go_enter Try.func8, Try.ntmps8
  go_wp2_with fail
  refine (mul_as (a := a) (b := c) (c := mulM a c) (n := 0) _ HA.out HC.out rfl E1.out).mono ?_
  rintro e w1 ⟨rfl, hb1⟩
  have T1 := rowBelow12 HX.out hb1 (by first | (simp; done) | (simp; omega) | exact T0.lt)
  have L1 := Lib.hid (((Below.refl _ _).alloc (by go_size) _).trans (hb1.mono (by go_size)) : Below w.heap.size w w1)
  clear hb1
  obtain ⟨t1_0, t1_1, t1_2, t1_3, t1_4, t1_5, t1_6, t1_7, t1_8, t1_9, t1_10, t1_11⟩ := rowc12 T1
  have ltT := T1.lt
  go_wp2_with fail
  refine (mul_as (a := b) (b := c) (c := mulM b c) (n := 0) _ HB.out HC.out rfl E2.out).mono ?_
  rintro e w2 ⟨rfl, hb2⟩
  have T2 := rowBelow12 (T1.alloc (.cells (arr4 (mulM a c)) 24)) hb2 (by first | (simp; done) | (simp; omega) | exact T1.lt)
  have P2 := rowBelow (rowNew w1 24 (mulM a c)) hb2 (by simp)
  have L2 := Lib.hid ((L1.out.alloc (by have := L1.out.size; omega) _).trans (hb2.mono (by have := L1.out.size; simp; omega)) : Below w.heap.size w w2)
  clear hb2 L1 T1 t1_0 t1_1 t1_2 t1_3 t1_4 t1_5 t1_6 t1_7 t1_8 t1_9 t1_10 t1_11 ltT
  obtain ⟨t2_0, t2_1, t2_2, t2_3, t2_4, t2_5, t2_6, t2_7, t2_8, t2_9, t2_10, t2_11⟩ := rowc12 T2
  have ltT := T2.lt
  obtain ⟨p2_0, p2_1, p2_2, p2_3⟩ := rowc P2
  have ltP := P2.lt
  go_wp2_with fail
  refine wp_region_quiet_below (by kernel_rfl) (by kernel_rfl) ?_
  obtain ⟨tr_0, tr_1, tr_2, tr_3, tr_4, tr_5, tr_6, tr_7, tr_8, tr_9, tr_10, tr_11⟩ := rows12 (T2.alloc (.cells (arr4 (mulM b c)) 24))
  obtain ⟨pr_0, pr_1, pr_2, pr_3⟩ := rows4 (P2.alloc (.cells (arr4 (mulM b c)) 24))
  obtain ⟨qr_0, qr_1, qr_2, qr_3⟩ := rows4 (rowNew w2 24 (mulM b c))
  repeat (go_big_quiet_step (first
    | (go_at_call 19; first | (with_reducible exact Calls.regrown_of (cmp_as (o := o) (a := mulM a c) (b := mulM b c) (n := cmpM o a b) _ M1.out M2.out E3.out)) | (with_reducible exact Calls.regrown_of (cmp_any o a b _ HA.out HB.out)))))
  refine wpQuiet_nil ?_
  intro w3 hw3
  obtain ⟨q, hq⟩ := hw3
  have hb3 : Below (w2.alloc (.cells (arr4 (mulM b c)) 24)).heap.size (w2.alloc (.cells (arr4 (mulM b c)) 24)) w3 := by
    have h := below_regrown (w2.alloc (.cells (arr4 (mulM b c)) 24)) q.d q.os
    have e : w3 = grow (redrawn (w2.alloc (.cells (arr4 (mulM b c)) 24)) q.d) q.os := hq
    rw [e]; exact h
  clear hq tr_0 tr_1 tr_2 tr_3 tr_4 tr_5 tr_6 tr_7 tr_8 tr_9 tr_10 tr_11 pr_0 pr_1 pr_2 pr_3 qr_0 qr_1 qr_2 qr_3
  have T3 := rowBelow12 (T2.alloc (.cells (arr4 (mulM b c)) 24)) hb3 (by first | (simp; done) | (simp; omega) | exact T2.lt)
  have P3 := rowBelow (P2.alloc (.cells (arr4 (mulM b c)) 24)) hb3 (by first | (simp; done) | (simp; omega) | exact P2.lt)
  have Q3 := rowBelow (rowNew w2 24 (mulM b c)) hb3 (by simp)
  have L3 := Lib.hid ((L2.out.alloc (by have := L2.out.size; omega) _).trans (hb3.mono (by have := L2.out.size; simp; omega)) : Below w.heap.size w w3)
  clear hb3 L2 T2 t2_0 t2_1 t2_2 t2_3 t2_4 t2_5 t2_6 t2_7 t2_8 t2_9 t2_10 t2_11 ltT P2 p2_0 p2_1 p2_2 p2_3 ltP
  obtain ⟨t3_0, t3_1, t3_2, t3_3, t3_4, t3_5, t3_6, t3_7, t3_8, t3_9, t3_10, t3_11⟩ := rowc12 T3
  have ltT := T3.lt
  obtain ⟨p3_0, p3_1, p3_2, p3_3⟩ := rowc P3
  have ltP := P3.lt
  obtain ⟨q3_0, q3_1, q3_2, q3_3⟩ := rowc Q3
  have ltQ := Q3.lt
  go_wp2_with fail
  refine (div_as (a := a) (b := b) (c := divM a b) (n := false) _ HA.out HB.out rfl D0.out).mono ?_
  rintro e w4 ⟨rfl, hb4⟩
  have T4 := rowBelow12 T3 hb4 (by first | (simp; done) | (simp; omega) | exact T3.lt)
  have P4 := rowBelow P3 hb4 (by first | (simp; done) | (simp; omega) | exact P3.lt)
  have Q4 := rowBelow Q3 hb4 (by first | (simp; done) | (simp; omega) | exact Q3.lt)
  have L4 := Lib.hid (L3.out.trans (hb4.mono L3.out.size) : Below w.heap.size w w4)
  clear hb4 L3 T3 t3_0 t3_1 t3_2 t3_3 t3_4 t3_5 t3_6 t3_7 t3_8 t3_9 t3_10 t3_11 ltT P3 p3_0 p3_1 p3_2 p3_3 ltP Q3 q3_0 q3_1 q3_2 q3_3 ltQ
  obtain ⟨t4_0, t4_1, t4_2, t4_3, t4_4, t4_5, t4_6, t4_7, t4_8, t4_9, t4_10, t4_11⟩ := rowc12 T4
  have ltT := T4.lt
  obtain ⟨p4_0, p4_1, p4_2, p4_3⟩ := rowc P4
  have ltP := P4.lt
  obtain ⟨q4_0, q4_1, q4_2, q4_3⟩ := rowc Q4
  have ltQ := Q4.lt
  go_wp2_with fail
  refine (alive_any _).mono ?_
  rintro e w5 ⟨rfl, hb5⟩
  have T5 := rowBelow12 (T4.alloc (.cells (arr4 (divM a b)) 24)) hb5 (by first | (simp; done) | (simp; omega) | exact T4.lt)
  have P5 := rowBelow (P4.alloc (.cells (arr4 (divM a b)) 24)) hb5 (by first | (simp; done) | (simp; omega) | exact P4.lt)
  have Q5 := rowBelow (Q4.alloc (.cells (arr4 (divM a b)) 24)) hb5 (by first | (simp; done) | (simp; omega) | exact Q4.lt)
  have L5 := Lib.hid ((L4.out.alloc (by have := L4.out.size; omega) _).trans (hb5.mono (by have := L4.out.size; simp; omega)) : Below w.heap.size w w5)
  clear hb5 L4 T4 t4_0 t4_1 t4_2 t4_3 t4_4 t4_5 t4_6 t4_7 t4_8 t4_9 t4_10 t4_11 ltT P4 p4_0 p4_1 p4_2 p4_3 ltP Q4 q4_0 q4_1 q4_2 q4_3 ltQ
  obtain ⟨t5_0, t5_1, t5_2, t5_3, t5_4, t5_5, t5_6, t5_7, t5_8, t5_9, t5_10, t5_11⟩ := rowc12 T5
  have ltT := T5.lt
  obtain ⟨p5_0, p5_1, p5_2, p5_3⟩ := rowc P5
  have ltP := P5.lt
  obtain ⟨q5_0, q5_1, q5_2, q5_3⟩ := rowc Q5
  have ltQ := Q5.lt
  go_wp2
  go_ret
  exact ⟨rfl, L5.out⟩

set_option maxHeartbeats 4000000 in
theorem times_101 (o : Int) (a b c : Nat → Int) (w : World) (ha : Small a) (hb : Small b) (hc : Small c) (h1 : mulB a c = true) (h2 : mulB b c = false) (hd : divB a b = true) :
    Calls Try.prog 8 #[.int .u8 o, mv12 a b c] w fun e w' => e = .returned (.bool true) ∧ Below w.heap.size w w' := by
  have HA := Lib.hid ha
  have HB := Lib.hid hb
  have HC := Lib.hid hc
  have HX := Lib.hid (boxL w 38 a b c)
  have zz : ∀ i, zeroM i = 0 := fun _ => rfl
  have E1 := Lib.hid (mulE_true h1)
  have M1 := Lib.hid (mul_small ha hc)
  have E2 := Lib.hid (mulB_false h2)
  have hq := cmp_div (o := o) ha hb hd
  have D0 := Lib.hid hd
  clear ha hb hc h1 h2 hd
  go_enter Try.func8, Try.ntmps8
  go_wp2_with fail
  refine (mul_as (a := a) (b := c) (c := mulM a c) (n := 0) _ HA.out HC.out rfl E1.out).mono ?_
  rintro e w1 ⟨rfl, hb1⟩
  have T1 := rowBelow12 HX.out hb1 (by first | (simp; done) | (simp; omega) | exact T0.lt)
  have L1 := Lib.hid (((Below.refl _ _).alloc (by go_size) _).trans (hb1.mono (by go_size)) : Below w.heap.size w w1)
  clear hb1
  obtain ⟨t1_0, t1_1, t1_2, t1_3, t1_4, t1_5, t1_6, t1_7, t1_8, t1_9, t1_10, t1_11⟩ := rowc12 T1
  have ltT := T1.lt
  go_wp2_with fail
  refine (mul_as (a := b) (b := c) (c := zeroM) (n := 3) _ HB.out HC.out E2.out.1 E2.out.2).mono ?_
  rintro e w2 ⟨rfl, hb2⟩
  have T2 := rowBelow12 (T1.alloc (.cells (arr4 (mulM a c)) 24)) hb2 (by first | (simp; done) | (simp; omega) | exact T1.lt)
  have P2 := rowBelow (rowNew w1 24 (mulM a c)) hb2 (by simp)
  have L2 := Lib.hid ((L1.out.alloc (by have := L1.out.size; omega) _).trans (hb2.mono (by have := L1.out.size; simp; omega)) : Below w.heap.size w w2)
  clear hb2 L1 T1 t1_0 t1_1 t1_2 t1_3 t1_4 t1_5 t1_6 t1_7 t1_8 t1_9 t1_10 t1_11 ltT
  obtain ⟨t2_0, t2_1, t2_2, t2_3, t2_4, t2_5, t2_6, t2_7, t2_8, t2_9, t2_10, t2_11⟩ := rowc12 T2
  have ltT := T2.lt
  obtain ⟨p2_0, p2_1, p2_2, p2_3⟩ := rowc P2
  have ltP := P2.lt
  go_wp2_with fail
  refine wp_region_quiet_below (by kernel_rfl) (by kernel_rfl) ?_
  obtain ⟨tr_0, tr_1, tr_2, tr_3, tr_4, tr_5, tr_6, tr_7, tr_8, tr_9, tr_10, tr_11⟩ := rows12 (T2.alloc (.cells (arr4 zeroM) 24))
  obtain ⟨pr_0, pr_1, pr_2, pr_3⟩ := rows4 (P2.alloc (.cells (arr4 zeroM) 24))
  obtain ⟨qr_0, qr_1, qr_2, qr_3⟩ := rows4 (rowNew w2 24 zeroM)
  simp only [arr4, zz] at tr_0 tr_1 tr_2 tr_3 tr_4 tr_5 tr_6 tr_7 tr_8 tr_9 tr_10 tr_11 pr_0 pr_1 pr_2 pr_3 qr_0 qr_1 qr_2 qr_3
  repeat (go_big_quiet_step (first
    | (go_at_call 21; exact Calls.regrown_of (alive_any _))))
  refine wpQuiet_nil ?_
  intro w3 hw3
  obtain ⟨q, hq⟩ := hw3
  have hb3 : Below (w2.alloc (.cells (arr4 zeroM) 24)).heap.size (w2.alloc (.cells (arr4 zeroM) 24)) w3 := by
    have h := below_regrown (w2.alloc (.cells (arr4 zeroM) 24)) q.d q.os
    have e : w3 = grow (redrawn (w2.alloc (.cells (arr4 zeroM) 24)) q.d) q.os := hq
    rw [e]; exact h
  clear hq tr_0 tr_1 tr_2 tr_3 tr_4 tr_5 tr_6 tr_7 tr_8 tr_9 tr_10 tr_11 pr_0 pr_1 pr_2 pr_3 qr_0 qr_1 qr_2 qr_3
  have T3 := rowBelow12 (T2.alloc (.cells (arr4 zeroM) 24)) hb3 (by first | (simp; done) | (simp; omega) | exact T2.lt)
  have P3 := rowBelow (P2.alloc (.cells (arr4 zeroM) 24)) hb3 (by first | (simp; done) | (simp; omega) | exact P2.lt)
  have Q3 := rowBelow (rowNew w2 24 zeroM) hb3 (by simp)
  have L3 := Lib.hid ((L2.out.alloc (by have := L2.out.size; omega) _).trans (hb3.mono (by have := L2.out.size; simp; omega)) : Below w.heap.size w w3)
  clear hb3 L2 T2 t2_0 t2_1 t2_2 t2_3 t2_4 t2_5 t2_6 t2_7 t2_8 t2_9 t2_10 t2_11 ltT P2 p2_0 p2_1 p2_2 p2_3 ltP
  obtain ⟨t3_0, t3_1, t3_2, t3_3, t3_4, t3_5, t3_6, t3_7, t3_8, t3_9, t3_10, t3_11⟩ := rowc12 T3
  have ltT := T3.lt
  obtain ⟨p3_0, p3_1, p3_2, p3_3⟩ := rowc P3
  have ltP := P3.lt
  obtain ⟨q3_0, q3_1, q3_2, q3_3⟩ := rowc Q3
  have ltQ := Q3.lt
  go_wp2_with fail
  refine (div_as (a := a) (b := b) (c := divM a b) (n := true) _ HA.out HB.out rfl D0.out).mono ?_
  rintro e w4 ⟨rfl, hb4⟩
  have T4 := rowBelow12 T3 hb4 (by first | (simp; done) | (simp; omega) | exact T3.lt)
  have P4 := rowBelow P3 hb4 (by first | (simp; done) | (simp; omega) | exact P3.lt)
  have Q4 := rowBelow Q3 hb4 (by first | (simp; done) | (simp; omega) | exact Q3.lt)
  have L4 := Lib.hid (L3.out.trans (hb4.mono L3.out.size) : Below w.heap.size w w4)
  clear hb4 L3 T3 t3_0 t3_1 t3_2 t3_3 t3_4 t3_5 t3_6 t3_7 t3_8 t3_9 t3_10 t3_11 ltT P3 p3_0 p3_1 p3_2 p3_3 ltP Q3 q3_0 q3_1 q3_2 q3_3 ltQ
  obtain ⟨t4_0, t4_1, t4_2, t4_3, t4_4, t4_5, t4_6, t4_7, t4_8, t4_9, t4_10, t4_11⟩ := rowc12 T4
  have ltT := T4.lt
  obtain ⟨p4_0, p4_1, p4_2, p4_3⟩ := rowc P4
  have ltP := P4.lt
  obtain ⟨q4_0, q4_1, q4_2, q4_3⟩ := rowc Q4
  have ltQ := Q4.lt
  go_wp2_with fail
  refine (alive_any _).mono ?_
  rintro e w5 ⟨rfl, hb5⟩
  have T5 := rowBelow12 (T4.alloc (.cells (arr4 (divM a b)) 24)) hb5 (by first | (simp; done) | (simp; omega) | exact T4.lt)
  have P5 := rowBelow (P4.alloc (.cells (arr4 (divM a b)) 24)) hb5 (by first | (simp; done) | (simp; omega) | exact P4.lt)
  have Q5 := rowBelow (Q4.alloc (.cells (arr4 (divM a b)) 24)) hb5 (by first | (simp; done) | (simp; omega) | exact Q4.lt)
  have L5 := Lib.hid ((L4.out.alloc (by have := L4.out.size; omega) _).trans (hb5.mono (by have := L4.out.size; simp; omega)) : Below w.heap.size w w5)
  clear hb5 L4 T4 t4_0 t4_1 t4_2 t4_3 t4_4 t4_5 t4_6 t4_7 t4_8 t4_9 t4_10 t4_11 ltT P4 p4_0 p4_1 p4_2 p4_3 ltP Q4 q4_0 q4_1 q4_2 q4_3 ltQ
  obtain ⟨t5_0, t5_1, t5_2, t5_3, t5_4, t5_5, t5_6, t5_7, t5_8, t5_9, t5_10, t5_11⟩ := rowc12 T5
  have ltT := T5.lt
  obtain ⟨p5_0, p5_1, p5_2, p5_3⟩ := rowc P5
  have ltP := P5.lt
  obtain ⟨q5_0, q5_1, q5_2, q5_3⟩ := rowc Q5
  have ltQ := Q5.lt
  go_wp2_with fail
  refine (cmp_any o a b _ HA.out HB.out).mono ?_
  rintro e w6 ⟨rfl, hb6⟩
  have T6 := rowBelow12 T5 hb6 (by first | (simp; done) | (simp; omega) | exact T5.lt)
  have P6 := rowBelow P5 hb6 (by first | (simp; done) | (simp; omega) | exact P5.lt)
  have Q6 := rowBelow Q5 hb6 (by first | (simp; done) | (simp; omega) | exact Q5.lt)
  have L6 := Lib.hid (L5.out.trans (hb6.mono L5.out.size) : Below w.heap.size w w6)
  clear hb6 L5 T5 t5_0 t5_1 t5_2 t5_3 t5_4 t5_5 t5_6 t5_7 t5_8 t5_9 t5_10 t5_11 ltT P5 p5_0 p5_1 p5_2 p5_3 ltP Q5 q5_0 q5_1 q5_2 q5_3 ltQ
  obtain ⟨t6_0, t6_1, t6_2, t6_3, t6_4, t6_5, t6_6, t6_7, t6_8, t6_9, t6_10, t6_11⟩ := rowc12 T6
  have ltT := T6.lt
  obtain ⟨p6_0, p6_1, p6_2, p6_3⟩ := rowc P6
  have ltP := P6.lt
  obtain ⟨q6_0, q6_1, q6_2, q6_3⟩ := rowc Q6
  have ltQ := Q6.lt
  go_wp2
  go_ret
  exact ⟨rfl, L6.out⟩

set_option maxHeartbeats 4000000 in
theorem times_100 (o : Int) (a b c : Nat → Int) (w : World) (ha : Small a) (hb : Small b) (hc : Small c) (h1 : mulB a c = true) (h2 : mulB b c = false) (hd : divB a b = false) :
    Calls Try.prog 8 #[.int .u8 o, mv12 a b c] w fun e w' => e = .returned (.bool true) ∧ Below w.heap.size w w' := by
  have HA := Lib.hid ha
  have HB := Lib.hid hb
  have HC := Lib.hid hc
  have HX := Lib.hid (boxL w 38 a b c)
  have zz : ∀ i, zeroM i = 0 := fun _ => rfl
  have E1 := Lib.hid (mulE_true h1)
  have M1 := Lib.hid (mul_small ha hc)
  have E2 := Lib.hid (mulB_false h2)
  have D0 := Lib.hid hd
  clear ha hb hc h1 h2 hd
  go_enter Try.func8, Try.ntmps8
  go_wp2_with fail
  refine (mul_as (a := a) (b := c) (c := mulM a c) (n := 0) _ HA.out HC.out rfl E1.out).mono ?_
  rintro e w1 ⟨rfl, hb1⟩
  have T1 := rowBelow12 HX.out hb1 (by first | (simp; done) | (simp; omega) | exact T0.lt)
  have L1 := Lib.hid (((Below.refl _ _).alloc (by go_size) _).trans (hb1.mono (by go_size)) : Below w.heap.size w w1)
  clear hb1
  obtain ⟨t1_0, t1_1, t1_2, t1_3, t1_4, t1_5, t1_6, t1_7, t1_8, t1_9, t1_10, t1_11⟩ := rowc12 T1
  have ltT := T1.lt
  go_wp2_with fail
  refine (mul_as (a := b) (b := c) (c := zeroM) (n := 3) _ HB.out HC.out E2.out.1 E2.out.2).mono ?_
  rintro e w2 ⟨rfl, hb2⟩
  have T2 := rowBelow12 (T1.alloc (.cells (arr4 (mulM a c)) 24)) hb2 (by first | (simp; done) | (simp; omega) | exact T1.lt)
  have P2 := rowBelow (rowNew w1 24 (mulM a c)) hb2 (by simp)
  have L2 := Lib.hid ((L1.out.alloc (by have := L1.out.size; omega) _).trans (hb2.mono (by have := L1.out.size; simp; omega)) : Below w.heap.size w w2)
  clear hb2 L1 T1 t1_0 t1_1 t1_2 t1_3 t1_4 t1_5 t1_6 t1_7 t1_8 t1_9 t1_10 t1_11 ltT
  obtain ⟨t2_0, t2_1, t2_2, t2_3, t2_4, t2_5, t2_6, t2_7, t2_8, t2_9, t2_10, t2_11⟩ := rowc12 T2
  have ltT := T2.lt
  obtain ⟨p2_0, p2_1, p2_2, p2_3⟩ := rowc P2
  have ltP := P2.lt
  go_wp2_with fail
  refine wp_region_quiet_below (by kernel_rfl) (by kernel_rfl) ?_
  obtain ⟨tr_0, tr_1, tr_2, tr_3, tr_4, tr_5, tr_6, tr_7, tr_8, tr_9, tr_10, tr_11⟩ := rows12 (T2.alloc (.cells (arr4 zeroM) 24))
  obtain ⟨pr_0, pr_1, pr_2, pr_3⟩ := rows4 (P2.alloc (.cells (arr4 zeroM) 24))
  obtain ⟨qr_0, qr_1, qr_2, qr_3⟩ := rows4 (rowNew w2 24 zeroM)
  simp only [arr4, zz] at tr_0 tr_1 tr_2 tr_3 tr_4 tr_5 tr_6 tr_7 tr_8 tr_9 tr_10 tr_11 pr_0 pr_1 pr_2 pr_3 qr_0 qr_1 qr_2 qr_3
  repeat (go_big_quiet_step (first
    | (go_at_call 21; exact Calls.regrown_of (alive_any _))))
  refine wpQuiet_nil ?_
  intro w3 hw3
  obtain ⟨q, hq⟩ := hw3
  have hb3 : Below (w2.alloc (.cells (arr4 zeroM) 24)).heap.size (w2.alloc (.cells (arr4 zeroM) 24)) w3 := by
    have h := below_regrown (w2.alloc (.cells (arr4 zeroM) 24)) q.d q.os
    have e : w3 = grow (redrawn (w2.alloc (.cells (arr4 zeroM) 24)) q.d) q.os := hq
    rw [e]; exact h
  clear hq tr_0 tr_1 tr_2 tr_3 tr_4 tr_5 tr_6 tr_7 tr_8 tr_9 tr_10 tr_11 pr_0 pr_1 pr_2 pr_3 qr_0 qr_1 qr_2 qr_3
  have T3 := rowBelow12 (T2.alloc (.cells (arr4 zeroM) 24)) hb3 (by first | (simp; done) | (simp; omega) | exact T2.lt)
  have P3 := rowBelow (P2.alloc (.cells (arr4 zeroM) 24)) hb3 (by first | (simp; done) | (simp; omega) | exact P2.lt)
  have Q3 := rowBelow (rowNew w2 24 zeroM) hb3 (by simp)
  have L3 := Lib.hid ((L2.out.alloc (by have := L2.out.size; omega) _).trans (hb3.mono (by have := L2.out.size; simp; omega)) : Below w.heap.size w w3)
  clear hb3 L2 T2 t2_0 t2_1 t2_2 t2_3 t2_4 t2_5 t2_6 t2_7 t2_8 t2_9 t2_10 t2_11 ltT P2 p2_0 p2_1 p2_2 p2_3 ltP
  obtain ⟨t3_0, t3_1, t3_2, t3_3, t3_4, t3_5, t3_6, t3_7, t3_8, t3_9, t3_10, t3_11⟩ := rowc12 T3
  have ltT := T3.lt
  obtain ⟨p3_0, p3_1, p3_2, p3_3⟩ := rowc P3
  have ltP := P3.lt
  obtain ⟨q3_0, q3_1, q3_2, q3_3⟩ := rowc Q3
  have ltQ := Q3.lt
  go_wp2_with fail
  refine (div_as (a := a) (b := b) (c := divM a b) (n := false) _ HA.out HB.out rfl D0.out).mono ?_
  rintro e w4 ⟨rfl, hb4⟩
  have T4 := rowBelow12 T3 hb4 (by first | (simp; done) | (simp; omega) | exact T3.lt)
  have P4 := rowBelow P3 hb4 (by first | (simp; done) | (simp; omega) | exact P3.lt)
  have Q4 := rowBelow Q3 hb4 (by first | (simp; done) | (simp; omega) | exact Q3.lt)
  have L4 := Lib.hid (L3.out.trans (hb4.mono L3.out.size) : Below w.heap.size w w4)
  clear hb4 L3 T3 t3_0 t3_1 t3_2 t3_3 t3_4 t3_5 t3_6 t3_7 t3_8 t3_9 t3_10 t3_11 ltT P3 p3_0 p3_1 p3_2 p3_3 ltP Q3 q3_0 q3_1 q3_2 q3_3 ltQ
  obtain ⟨t4_0, t4_1, t4_2, t4_3, t4_4, t4_5, t4_6, t4_7, t4_8, t4_9, t4_10, t4_11⟩ := rowc12 T4
  have ltT := T4.lt
  obtain ⟨p4_0, p4_1, p4_2, p4_3⟩ := rowc P4
  have ltP := P4.lt
  obtain ⟨q4_0, q4_1, q4_2, q4_3⟩ := rowc Q4
  have ltQ := Q4.lt
  go_wp2_with fail
  refine (alive_any _).mono ?_
  rintro e w5 ⟨rfl, hb5⟩
  have T5 := rowBelow12 (T4.alloc (.cells (arr4 (divM a b)) 24)) hb5 (by first | (simp; done) | (simp; omega) | exact T4.lt)
  have P5 := rowBelow (P4.alloc (.cells (arr4 (divM a b)) 24)) hb5 (by first | (simp; done) | (simp; omega) | exact P4.lt)
  have Q5 := rowBelow (Q4.alloc (.cells (arr4 (divM a b)) 24)) hb5 (by first | (simp; done) | (simp; omega) | exact Q4.lt)
  have L5 := Lib.hid ((L4.out.alloc (by have := L4.out.size; omega) _).trans (hb5.mono (by have := L4.out.size; simp; omega)) : Below w.heap.size w w5)
  clear hb5 L4 T4 t4_0 t4_1 t4_2 t4_3 t4_4 t4_5 t4_6 t4_7 t4_8 t4_9 t4_10 t4_11 ltT P4 p4_0 p4_1 p4_2 p4_3 ltP Q4 q4_0 q4_1 q4_2 q4_3 ltQ
  obtain ⟨t5_0, t5_1, t5_2, t5_3, t5_4, t5_5, t5_6, t5_7, t5_8, t5_9, t5_10, t5_11⟩ := rowc12 T5
  have ltT := T5.lt
  obtain ⟨p5_0, p5_1, p5_2, p5_3⟩ := rowc P5
  have ltP := P5.lt
  obtain ⟨q5_0, q5_1, q5_2, q5_3⟩ := rowc Q5
  have ltQ := Q5.lt
  go_wp2
  go_ret
  exact ⟨rfl, L5.out⟩

set_option maxHeartbeats 4000000 in
theorem times_011 (o : Int) (a b c : Nat → Int) (w : World) (ha : Small a) (hb : Small b) (hc : Small c) (h1 : mulB a c = false) (h2 : mulB b c = true) (hd : divB a b = true) :
    Calls Try.prog 8 #[.int .u8 o, mv12 a b c] w fun e w' => e = .returned (.bool true) ∧ Below w.heap.size w w' := by
  have HA := Lib.hid ha
  have HB := Lib.hid hb
  have HC := Lib.hid hc
  have HX := Lib.hid (boxL w 38 a b c)
  have zz : ∀ i, zeroM i = 0 := fun _ => rfl
  have E1 := Lib.hid (mulB_false h1)
  have E2 := Lib.hid (mulE_true h2)
  have M2 := Lib.hid (mul_small hb hc)
  have hq := cmp_div (o := o) ha hb hd
  have D0 := Lib.hid hd
  clear ha hb hc h1 h2 hd
  go_enter Try.func8, Try.ntmps8
  go_wp2_with fail
  refine (mul_as (a := a) (b := c) (c := zeroM) (n := 3) _ HA.out HC.out E1.out.1 E1.out.2).mono ?_
  rintro e w1 ⟨rfl, hb1⟩
  have T1 := rowBelow12 HX.out hb1 (by first | (simp; done) | (simp; omega) | exact T0.lt)
  have L1 := Lib.hid (((Below.refl _ _).alloc (by go_size) _).trans (hb1.mono (by go_size)) : Below w.heap.size w w1)
  clear hb1
  obtain ⟨t1_0, t1_1, t1_2, t1_3, t1_4, t1_5, t1_6, t1_7, t1_8, t1_9, t1_10, t1_11⟩ := rowc12 T1
  have ltT := T1.lt
  go_wp2_with fail
  refine (mul_as (a := b) (b := c) (c := mulM b c) (n := 0) _ HB.out HC.out rfl E2.out).mono ?_
  rintro e w2 ⟨rfl, hb2⟩
  have T2 := rowBelow12 (T1.alloc (.cells (arr4 zeroM) 24)) hb2 (by first | (simp; done) | (simp; omega) | exact T1.lt)
  have P2 := rowBelow (rowNew w1 24 zeroM) hb2 (by simp)
  have L2 := Lib.hid ((L1.out.alloc (by have := L1.out.size; omega) _).trans (hb2.mono (by have := L1.out.size; simp; omega)) : Below w.heap.size w w2)
  clear hb2 L1 T1 t1_0 t1_1 t1_2 t1_3 t1_4 t1_5 t1_6 t1_7 t1_8 t1_9 t1_10 t1_11 ltT
  obtain ⟨t2_0, t2_1, t2_2, t2_3, t2_4, t2_5, t2_6, t2_7, t2_8, t2_9, t2_10, t2_11⟩ := rowc12 T2
  have ltT := T2.lt
  obtain ⟨p2_0, p2_1, p2_2, p2_3⟩ := rowc P2
  have ltP := P2.lt
  go_wp2_with fail
  refine wp_region_quiet_below (by kernel_rfl) (by kernel_rfl) ?_
  obtain ⟨tr_0, tr_1, tr_2, tr_3, tr_4, tr_5, tr_6, tr_7, tr_8, tr_9, tr_10, tr_11⟩ := rows12 (T2.alloc (.cells (arr4 (mulM b c)) 24))
  obtain ⟨pr_0, pr_1, pr_2, pr_3⟩ := rows4 (P2.alloc (.cells (arr4 (mulM b c)) 24))
  obtain ⟨qr_0, qr_1, qr_2, qr_3⟩ := rows4 (rowNew w2 24 (mulM b c))
  repeat (go_big_quiet_step (first
    | (go_at_call 21; exact Calls.regrown_of (alive_any _))))
  refine wpQuiet_nil ?_
  intro w3 hw3
  obtain ⟨q, hq⟩ := hw3
  have hb3 : Below (w2.alloc (.cells (arr4 (mulM b c)) 24)).heap.size (w2.alloc (.cells (arr4 (mulM b c)) 24)) w3 := by
    have h := below_regrown (w2.alloc (.cells (arr4 (mulM b c)) 24)) q.d q.os
    have e : w3 = grow (redrawn (w2.alloc (.cells (arr4 (mulM b c)) 24)) q.d) q.os := hq
    rw [e]; exact h
  clear hq tr_0 tr_1 tr_2 tr_3 tr_4 tr_5 tr_6 tr_7 tr_8 tr_9 tr_10 tr_11 pr_0 pr_1 pr_2 pr_3 qr_0 qr_1 qr_2 qr_3
  have T3 := rowBelow12 (T2.alloc (.cells (arr4 (mulM b c)) 24)) hb3 (by first | (simp; done) | (simp; omega) | exact T2.lt)
  have P3 := rowBelow (P2.alloc (.cells (arr4 (mulM b c)) 24)) hb3 (by first | (simp; done) | (simp; omega) | exact P2.lt)
  have Q3 := rowBelow (rowNew w2 24 (mulM b c)) hb3 (by simp)
  have L3 := Lib.hid ((L2.out.alloc (by have := L2.out.size; omega) _).trans (hb3.mono (by have := L2.out.size; simp; omega)) : Below w.heap.size w w3)
  clear hb3 L2 T2 t2_0 t2_1 t2_2 t2_3 t2_4 t2_5 t2_6 t2_7 t2_8 t2_9 t2_10 t2_11 ltT P2 p2_0 p2_1 p2_2 p2_3 ltP
  obtain ⟨t3_0, t3_1, t3_2, t3_3, t3_4, t3_5, t3_6, t3_7, t3_8, t3_9, t3_10, t3_11⟩ := rowc12 T3
  have ltT := T3.lt
  obtain ⟨p3_0, p3_1, p3_2, p3_3⟩ := rowc P3
  have ltP := P3.lt
  obtain ⟨q3_0, q3_1, q3_2, q3_3⟩ := rowc Q3
  have ltQ := Q3.lt
  go_wp2_with fail
  refine (div_as (a := a) (b := b) (c := divM a b) (n := true) _ HA.out HB.out rfl D0.out).mono ?_
  rintro e w4 ⟨rfl, hb4⟩
  have T4 := rowBelow12 T3 hb4 (by first | (simp; done) | (simp; omega) | exact T3.lt)
  have P4 := rowBelow P3 hb4 (by first | (simp; done) | (simp; omega) | exact P3.lt)
  have Q4 := rowBelow Q3 hb4 (by first | (simp; done) | (simp; omega) | exact Q3.lt)
  have L4 := Lib.hid (L3.out.trans (hb4.mono L3.out.size) : Below w.heap.size w w4)
  clear hb4 L3 T3 t3_0 t3_1 t3_2 t3_3 t3_4 t3_5 t3_6 t3_7 t3_8 t3_9 t3_10 t3_11 ltT P3 p3_0 p3_1 p3_2 p3_3 ltP Q3 q3_0 q3_1 q3_2 q3_3 ltQ
  obtain ⟨t4_0, t4_1, t4_2, t4_3, t4_4, t4_5, t4_6, t4_7, t4_8, t4_9, t4_10, t4_11⟩ := rowc12 T4
  have ltT := T4.lt
  obtain ⟨p4_0, p4_1, p4_2, p4_3⟩ := rowc P4
  have ltP := P4.lt
  obtain ⟨q4_0, q4_1, q4_2, q4_3⟩ := rowc Q4
  have ltQ := Q4.lt
  go_wp2_with fail
  refine (alive_any _).mono ?_
  rintro e w5 ⟨rfl, hb5⟩
  have T5 := rowBelow12 (T4.alloc (.cells (arr4 (divM a b)) 24)) hb5 (by first | (simp; done) | (simp; omega) | exact T4.lt)
  have P5 := rowBelow (P4.alloc (.cells (arr4 (divM a b)) 24)) hb5 (by first | (simp; done) | (simp; omega) | exact P4.lt)
  have Q5 := rowBelow (Q4.alloc (.cells (arr4 (divM a b)) 24)) hb5 (by first | (simp; done) | (simp; omega) | exact Q4.lt)
  have L5 := Lib.hid ((L4.out.alloc (by have := L4.out.size; omega) _).trans (hb5.mono (by have := L4.out.size; simp; omega)) : Below w.heap.size w w5)
  clear hb5 L4 T4 t4_0 t4_1 t4_2 t4_3 t4_4 t4_5 t4_6 t4_7 t4_8 t4_9 t4_10 t4_11 ltT P4 p4_0 p4_1 p4_2 p4_3 ltP Q4 q4_0 q4_1 q4_2 q4_3 ltQ
  obtain ⟨t5_0, t5_1, t5_2, t5_3, t5_4, t5_5, t5_6, t5_7, t5_8, t5_9, t5_10, t5_11⟩ := rowc12 T5
  have ltT := T5.lt
  obtain ⟨p5_0, p5_1, p5_2, p5_3⟩ := rowc P5
  have ltP := P5.lt
  obtain ⟨q5_0, q5_1, q5_2, q5_3⟩ := rowc Q5
  have ltQ := Q5.lt
  go_wp2_with fail
  refine (cmp_any o a b _ HA.out HB.out).mono ?_
  rintro e w6 ⟨rfl, hb6⟩
  have T6 := rowBelow12 T5 hb6 (by first | (simp; done) | (simp; omega) | exact T5.lt)
  have P6 := rowBelow P5 hb6 (by first | (simp; done) | (simp; omega) | exact P5.lt)
  have Q6 := rowBelow Q5 hb6 (by first | (simp; done) | (simp; omega) | exact Q5.lt)
  have L6 := Lib.hid (L5.out.trans (hb6.mono L5.out.size) : Below w.heap.size w w6)
  clear hb6 L5 T5 t5_0 t5_1 t5_2 t5_3 t5_4 t5_5 t5_6 t5_7 t5_8 t5_9 t5_10 t5_11 ltT P5 p5_0 p5_1 p5_2 p5_3 ltP Q5 q5_0 q5_1 q5_2 q5_3 ltQ
  obtain ⟨t6_0, t6_1, t6_2, t6_3, t6_4, t6_5, t6_6, t6_7, t6_8, t6_9, t6_10, t6_11⟩ := rowc12 T6
  have ltT := T6.lt
  obtain ⟨p6_0, p6_1, p6_2, p6_3⟩ := rowc P6
  have ltP := P6.lt
  obtain ⟨q6_0, q6_1, q6_2, q6_3⟩ := rowc Q6
  have ltQ := Q6.lt
  go_wp2
  go_ret
  exact ⟨rfl, L6.out⟩

set_option maxHeartbeats 4000000 in
theorem times_010 (o : Int) (a b c : Nat → Int) (w : World) (ha : Small a) (hb : Small b) (hc : Small c) (h1 : mulB a c = false) (h2 : mulB b c = true) (hd : divB a b = false) :
    Calls Try.prog 8 #[.int .u8 o, mv12 a b c] w fun e w' => e = .returned (.bool true) ∧ Below w.heap.size w w' := by
  have HA := Lib.hid ha
  have HB := Lib.hid hb
  have HC := Lib.hid hc
  have HX := Lib.hid (boxL w 38 a b c)
  have zz : ∀ i, zeroM i = 0 := fun _ => rfl
  have E1 := Lib.hid (mulB_false h1)
  have E2 := Lib.hid (mulE_true h2)
  have M2 := Lib.hid (mul_small hb hc)
  have D0 := Lib.hid hd
  clear ha hb hc h1 h2 hd
  go_enter Try.func8, Try.ntmps8
  go_wp2_with fail
  refine (mul_as (a := a) (b := c) (c := zeroM) (n := 3) _ HA.out HC.out E1.out.1 E1.out.2).mono ?_
  rintro e w1 ⟨rfl, hb1⟩
  have T1 := rowBelow12 HX.out hb1 (by first | (simp; done) | (simp; omega) | exact T0.lt)
  have L1 := Lib.hid (((Below.refl _ _).alloc (by go_size) _).trans (hb1.mono (by go_size)) : Below w.heap.size w w1)
  clear hb1
  obtain ⟨t1_0, t1_1, t1_2, t1_3, t1_4, t1_5, t1_6, t1_7, t1_8, t1_9, t1_10, t1_11⟩ := rowc12 T1
  have ltT := T1.lt
  go_wp2_with fail
  refine (mul_as (a := b) (b := c) (c := mulM b c) (n := 0) _ HB.out HC.out rfl E2.out).mono ?_
  rintro e w2 ⟨rfl, hb2⟩
  have T2 := rowBelow12 (T1.alloc (.cells (arr4 zeroM) 24)) hb2 (by first | (simp; done) | (simp; omega) | exact T1.lt)
  have P2 := rowBelow (rowNew w1 24 zeroM) hb2 (by simp)
  have L2 := Lib.hid ((L1.out.alloc (by have := L1.out.size; omega) _).trans (hb2.mono (by have := L1.out.size; simp; omega)) : Below w.heap.size w w2)
  clear hb2 L1 T1 t1_0 t1_1 t1_2 t1_3 t1_4 t1_5 t1_6 t1_7 t1_8 t1_9 t1_10 t1_11 ltT
  obtain ⟨t2_0, t2_1, t2_2, t2_3, t2_4, t2_5, t2_6, t2_7, t2_8, t2_9, t2_10, t2_11⟩ := rowc12 T2
  have ltT := T2.lt
  obtain ⟨p2_0, p2_1, p2_2, p2_3⟩ := rowc P2
  have ltP := P2.lt
  go_wp2_with fail
  refine wp_region_quiet_below (by kernel_rfl) (by kernel_rfl) ?_
  obtain ⟨tr_0, tr_1, tr_2, tr_3, tr_4, tr_5, tr_6, tr_7, tr_8, tr_9, tr_10, tr_11⟩ := rows12 (T2.alloc (.cells (arr4 (mulM b c)) 24))
  obtain ⟨pr_0, pr_1, pr_2, pr_3⟩ := rows4 (P2.alloc (.cells (arr4 (mulM b c)) 24))
  obtain ⟨qr_0, qr_1, qr_2, qr_3⟩ := rows4 (rowNew w2 24 (mulM b c))
  repeat (go_big_quiet_step (first
    | (go_at_call 21; exact Calls.regrown_of (alive_any _))))
  refine wpQuiet_nil ?_
  intro w3 hw3
  obtain ⟨q, hq⟩ := hw3
  have hb3 : Below (w2.alloc (.cells (arr4 (mulM b c)) 24)).heap.size (w2.alloc (.cells (arr4 (mulM b c)) 24)) w3 := by
    have h := below_regrown (w2.alloc (.cells (arr4 (mulM b c)) 24)) q.d q.os
    have e : w3 = grow (redrawn (w2.alloc (.cells (arr4 (mulM b c)) 24)) q.d) q.os := hq
    rw [e]; exact h
  clear hq tr_0 tr_1 tr_2 tr_3 tr_4 tr_5 tr_6 tr_7 tr_8 tr_9 tr_10 tr_11 pr_0 pr_1 pr_2 pr_3 qr_0 qr_1 qr_2 qr_3
  have T3 := rowBelow12 (T2.alloc (.cells (arr4 (mulM b c)) 24)) hb3 (by first | (simp; done) | (simp; omega) | exact T2.lt)
  have P3 := rowBelow (P2.alloc (.cells (arr4 (mulM b c)) 24)) hb3 (by first | (simp; done) | (simp; omega) | exact P2.lt)
  have Q3 := rowBelow (rowNew w2 24 (mulM b c)) hb3 (by simp)
  have L3 := Lib.hid ((L2.out.alloc (by have := L2.out.size; omega) _).trans (hb3.mono (by have := L2.out.size; simp; omega)) : Below w.heap.size w w3)
  clear hb3 L2 T2 t2_0 t2_1 t2_2 t2_3 t2_4 t2_5 t2_6 t2_7 t2_8 t2_9 t2_10 t2_11 ltT P2 p2_0 p2_1 p2_2 p2_3 ltP
  obtain ⟨t3_0, t3_1, t3_2, t3_3, t3_4, t3_5, t3_6, t3_7, t3_8, t3_9, t3_10, t3_11⟩ := rowc12 T3
  have ltT := T3.lt
  obtain ⟨p3_0, p3_1, p3_2, p3_3⟩ := rowc P3
  have ltP := P3.lt
  obtain ⟨q3_0, q3_1, q3_2, q3_3⟩ := rowc Q3
  have ltQ := Q3.lt
  go_wp2_with fail
  refine (div_as (a := a) (b := b) (c := divM a b) (n := false) _ HA.out HB.out rfl D0.out).mono ?_
  rintro e w4 ⟨rfl, hb4⟩
  have T4 := rowBelow12 T3 hb4 (by first | (simp; done) | (simp; omega) | exact T3.lt)
  have P4 := rowBelow P3 hb4 (by first | (simp; done) | (simp; omega) | exact P3.lt)
  have Q4 := rowBelow Q3 hb4 (by first | (simp; done) | (simp; omega) | exact Q3.lt)
  have L4 := Lib.hid (L3.out.trans (hb4.mono L3.out.size) : Below w.heap.size w w4)
  clear hb4 L3 T3 t3_0 t3_1 t3_2 t3_3 t3_4 t3_5 t3_6 t3_7 t3_8 t3_9 t3_10 t3_11 ltT P3 p3_0 p3_1 p3_2 p3_3 ltP Q3 q3_0 q3_1 q3_2 q3_3 ltQ
  obtain ⟨t4_0, t4_1, t4_2, t4_3, t4_4, t4_5, t4_6, t4_7, t4_8, t4_9, t4_10, t4_11⟩ := rowc12 T4
  have ltT := T4.lt
  obtain ⟨p4_0, p4_1, p4_2, p4_3⟩ := rowc P4
  have ltP := P4.lt
  obtain ⟨q4_0, q4_1, q4_2, q4_3⟩ := rowc Q4
  have ltQ := Q4.lt
  go_wp2_with fail
  refine (alive_any _).mono ?_
  rintro e w5 ⟨rfl, hb5⟩
  have T5 := rowBelow12 (T4.alloc (.cells (arr4 (divM a b)) 24)) hb5 (by first | (simp; done) | (simp; omega) | exact T4.lt)
  have P5 := rowBelow (P4.alloc (.cells (arr4 (divM a b)) 24)) hb5 (by first | (simp; done) | (simp; omega) | exact P4.lt)
  have Q5 := rowBelow (Q4.alloc (.cells (arr4 (divM a b)) 24)) hb5 (by first | (simp; done) | (simp; omega) | exact Q4.lt)
  have L5 := Lib.hid ((L4.out.alloc (by have := L4.out.size; omega) _).trans (hb5.mono (by have := L4.out.size; simp; omega)) : Below w.heap.size w w5)
  clear hb5 L4 T4 t4_0 t4_1 t4_2 t4_3 t4_4 t4_5 t4_6 t4_7 t4_8 t4_9 t4_10 t4_11 ltT P4 p4_0 p4_1 p4_2 p4_3 ltP Q4 q4_0 q4_1 q4_2 q4_3 ltQ
  obtain ⟨t5_0, t5_1, t5_2, t5_3, t5_4, t5_5, t5_6, t5_7, t5_8, t5_9, t5_10, t5_11⟩ := rowc12 T5
  have ltT := T5.lt
  obtain ⟨p5_0, p5_1, p5_2, p5_3⟩ := rowc P5
  have ltP := P5.lt
  obtain ⟨q5_0, q5_1, q5_2, q5_3⟩ := rowc Q5
  have ltQ := Q5.lt
  go_wp2
  go_ret
  exact ⟨rfl, L5.out⟩

set_option maxHeartbeats 4000000 in
theorem times_001 (o : Int) (a b c : Nat → Int) (w : World) (ha : Small a) (hb : Small b) (hc : Small c) (h1 : mulB a c = false) (h2 : mulB b c = false) (hd : divB a b = true) :
    Calls Try.prog 8 #[.int .u8 o, mv12 a b c] w fun e w' => e = .returned (.bool true) ∧ Below w.heap.size w w' := by
  have HA := Lib.hid ha
  have HB := Lib.hid hb
  have HC := Lib.hid hc
  have HX := Lib.hid (boxL w 38 a b c)
  have zz : ∀ i, zeroM i = 0 := fun _ => rfl
  have E1 := Lib.hid (mulB_false h1)
  have E2 := Lib.hid (mulB_false h2)
  have hq := cmp_div (o := o) ha hb hd
  have D0 := Lib.hid hd
  clear ha hb hc h1 h2 hd
  go_enter Try.func8, Try.ntmps8
  go_wp2_with fail
  refine (mul_as (a := a) (b := c) (c := zeroM) (n := 3) _ HA.out HC.out E1.out.1 E1.out.2).mono ?_
  rintro e w1 ⟨rfl, hb1⟩
  have T1 := rowBelow12 HX.out hb1 (by first | (simp; done) | (simp; omega) | exact T0.lt)
  have L1 := Lib.hid (((Below.refl _ _).alloc (by go_size) _).trans (hb1.mono (by go_size)) : Below w.heap.size w w1)
  clear hb1
  obtain ⟨t1_0, t1_1, t1_2, t1_3, t1_4, t1_5, t1_6, t1_7, t1_8, t1_9, t1_10, t1_11⟩ := rowc12 T1
  have ltT := T1.lt
  go_wp2_with fail
  refine (mul_as (a := b) (b := c) (c := zeroM) (n := 3) _ HB.out HC.out E2.out.1 E2.out.2).mono ?_
  rintro e w2 ⟨rfl, hb2⟩
  have T2 := rowBelow12 (T1.alloc (.cells (arr4 zeroM) 24)) hb2 (by first | (simp; done) | (simp; omega) | exact T1.lt)
  have P2 := rowBelow (rowNew w1 24 zeroM) hb2 (by simp)
  have L2 := Lib.hid ((L1.out.alloc (by have := L1.out.size; omega) _).trans (hb2.mono (by have := L1.out.size; simp; omega)) : Below w.heap.size w w2)
  clear hb2 L1 T1 t1_0 t1_1 t1_2 t1_3 t1_4 t1_5 t1_6 t1_7 t1_8 t1_9 t1_10 t1_11 ltT
  obtain ⟨t2_0, t2_1, t2_2, t2_3, t2_4, t2_5, t2_6, t2_7, t2_8, t2_9, t2_10, t2_11⟩ := rowc12 T2
  have ltT := T2.lt
  obtain ⟨p2_0, p2_1, p2_2, p2_3⟩ := rowc P2
  have ltP := P2.lt
  go_wp2_with fail
  refine wp_region_quiet_below (by kernel_rfl) (by kernel_rfl) ?_
  obtain ⟨tr_0, tr_1, tr_2, tr_3, tr_4, tr_5, tr_6, tr_7, tr_8, tr_9, tr_10, tr_11⟩ := rows12 (T2.alloc (.cells (arr4 zeroM) 24))
  obtain ⟨pr_0, pr_1, pr_2, pr_3⟩ := rows4 (P2.alloc (.cells (arr4 zeroM) 24))
  obtain ⟨qr_0, qr_1, qr_2, qr_3⟩ := rows4 (rowNew w2 24 zeroM)
  simp only [arr4, zz] at tr_0 tr_1 tr_2 tr_3 tr_4 tr_5 tr_6 tr_7 tr_8 tr_9 tr_10 tr_11 pr_0 pr_1 pr_2 pr_3 qr_0 qr_1 qr_2 qr_3
  repeat (go_big_quiet_step (first
    | (go_at_call 21; exact Calls.regrown_of (alive_any _))))
  refine wpQuiet_nil ?_
  intro w3 hw3
  obtain ⟨q, hq⟩ := hw3
  have hb3 : Below (w2.alloc (.cells (arr4 zeroM) 24)).heap.size (w2.alloc (.cells (arr4 zeroM) 24)) w3 := by
    have h := below_regrown (w2.alloc (.cells (arr4 zeroM) 24)) q.d q.os
    have e : w3 = grow (redrawn (w2.alloc (.cells (arr4 zeroM) 24)) q.d) q.os := hq
    rw [e]; exact h
  clear hq tr_0 tr_1 tr_2 tr_3 tr_4 tr_5 tr_6 tr_7 tr_8 tr_9 tr_10 tr_11 pr_0 pr_1 pr_2 pr_3 qr_0 qr_1 qr_2 qr_3
  have T3 := rowBelow12 (T2.alloc (.cells (arr4 zeroM) 24)) hb3 (by first | (simp; done) | (simp; omega) | exact T2.lt)
  have P3 := rowBelow (P2.alloc (.cells (arr4 zeroM) 24)) hb3 (by first | (simp; done) | (simp; omega) | exact P2.lt)
  have Q3 := rowBelow (rowNew w2 24 zeroM) hb3 (by simp)
  have L3 := Lib.hid ((L2.out.alloc (by have := L2.out.size; omega) _).trans (hb3.mono (by have := L2.out.size; simp; omega)) : Below w.heap.size w w3)
  clear hb3 L2 T2 t2_0 t2_1 t2_2 t2_3 t2_4 t2_5 t2_6 t2_7 t2_8 t2_9 t2_10 t2_11 ltT P2 p2_0 p2_1 p2_2 p2_3 ltP
  obtain ⟨t3_0, t3_1, t3_2, t3_3, t3_4, t3_5, t3_6, t3_7, t3_8, t3_9, t3_10, t3_11⟩ := rowc12 T3
  have ltT := T3.lt
  obtain ⟨p3_0, p3_1, p3_2, p3_3⟩ := rowc P3
  have ltP := P3.lt
  obtain ⟨q3_0, q3_1, q3_2, q3_3⟩ := rowc Q3
  have ltQ := Q3.lt
  go_wp2_with fail
  refine (div_as (a := a) (b := b) (c := divM a b) (n := true) _ HA.out HB.out rfl D0.out).mono ?_
  rintro e w4 ⟨rfl, hb4⟩
  have T4 := rowBelow12 T3 hb4 (by first | (simp; done) | (simp; omega) | exact T3.lt)
  have P4 := rowBelow P3 hb4 (by first | (simp; done) | (simp; omega) | exact P3.lt)
  have Q4 := rowBelow Q3 hb4 (by first | (simp; done) | (simp; omega) | exact Q3.lt)
  have L4 := Lib.hid (L3.out.trans (hb4.mono L3.out.size) : Below w.heap.size w w4)
  clear hb4 L3 T3 t3_0 t3_1 t3_2 t3_3 t3_4 t3_5 t3_6 t3_7 t3_8 t3_9 t3_10 t3_11 ltT P3 p3_0 p3_1 p3_2 p3_3 ltP Q3 q3_0 q3_1 q3_2 q3_3 ltQ
  obtain ⟨t4_0, t4_1, t4_2, t4_3, t4_4, t4_5, t4_6, t4_7, t4_8, t4_9, t4_10, t4_11⟩ := rowc12 T4
  have ltT := T4.lt
  obtain ⟨p4_0, p4_1, p4_2, p4_3⟩ := rowc P4
  have ltP := P4.lt
  obtain ⟨q4_0, q4_1, q4_2, q4_3⟩ := rowc Q4
  have ltQ := Q4.lt
  go_wp2_with fail
  refine (alive_any _).mono ?_
  rintro e w5 ⟨rfl, hb5⟩
  have T5 := rowBelow12 (T4.alloc (.cells (arr4 (divM a b)) 24)) hb5 (by first | (simp; done) | (simp; omega) | exact T4.lt)
  have P5 := rowBelow (P4.alloc (.cells (arr4 (divM a b)) 24)) hb5 (by first | (simp; done) | (simp; omega) | exact P4.lt)
  have Q5 := rowBelow (Q4.alloc (.cells (arr4 (divM a b)) 24)) hb5 (by first | (simp; done) | (simp; omega) | exact Q4.lt)
  have L5 := Lib.hid ((L4.out.alloc (by have := L4.out.size; omega) _).trans (hb5.mono (by have := L4.out.size; simp; omega)) : Below w.heap.size w w5)
  clear hb5 L4 T4 t4_0 t4_1 t4_2 t4_3 t4_4 t4_5 t4_6 t4_7 t4_8 t4_9 t4_10 t4_11 ltT P4 p4_0 p4_1 p4_2 p4_3 ltP Q4 q4_0 q4_1 q4_2 q4_3 ltQ
  obtain ⟨t5_0, t5_1, t5_2, t5_3, t5_4, t5_5, t5_6, t5_7, t5_8, t5_9, t5_10, t5_11⟩ := rowc12 T5
  have ltT := T5.lt
  obtain ⟨p5_0, p5_1, p5_2, p5_3⟩ := rowc P5
  have ltP := P5.lt
  obtain ⟨q5_0, q5_1, q5_2, q5_3⟩ := rowc Q5
  have ltQ := Q5.lt
  go_wp2_with fail
  refine (cmp_any o a b _ HA.out HB.out).mono ?_
  rintro e w6 ⟨rfl, hb6⟩
  have T6 := rowBelow12 T5 hb6 (by first | (simp; done) | (simp; omega) | exact T5.lt)
  have P6 := rowBelow P5 hb6 (by first | (simp; done) | (simp; omega) | exact P5.lt)
  have Q6 := rowBelow Q5 hb6 (by first | (simp; done) | (simp; omega) | exact Q5.lt)
  have L6 := Lib.hid (L5.out.trans (hb6.mono L5.out.size) : Below w.heap.size w w6)
  clear hb6 L5 T5 t5_0 t5_1 t5_2 t5_3 t5_4 t5_5 t5_6 t5_7 t5_8 t5_9 t5_10 t5_11 ltT P5 p5_0 p5_1 p5_2 p5_3 ltP Q5 q5_0 q5_1 q5_2 q5_3 ltQ
  obtain ⟨t6_0, t6_1, t6_2, t6_3, t6_4, t6_5, t6_6, t6_7, t6_8, t6_9, t6_10, t6_11⟩ := rowc12 T6
  have ltT := T6.lt
  obtain ⟨p6_0, p6_1, p6_2, p6_3⟩ := rowc P6
  have ltP := P6.lt
  obtain ⟨q6_0, q6_1, q6_2, q6_3⟩ := rowc Q6
  have ltQ := Q6.lt
  go_wp2
  go_ret
  exact ⟨rfl, L6.out⟩

set_option maxHeartbeats 4000000 in
theorem times_000 (o : Int) (a b c : Nat → Int) (w : World) (ha : Small a) (hb : Small b) (hc : Small c) (h1 : mulB a c = false) (h2 : mulB b c = false) (hd : divB a b = false) :
    Calls Try.prog 8 #[.int .u8 o, mv12 a b c] w fun e w' => e = .returned (.bool true) ∧ Below w.heap.size w w' := by
  have HA := Lib.hid ha
  have HB := Lib.hid hb
  have HC := Lib.hid hc
  have HX := Lib.hid (boxL w 38 a b c)
  have zz : ∀ i, zeroM i = 0 := fun _ => rfl
  have E1 := Lib.hid (mulB_false h1)
  have E2 := Lib.hid (mulB_false h2)
  have D0 := Lib.hid hd
  clear ha hb hc h1 h2 hd
  go_enter Try.func8, Try.ntmps8
  go_wp2_with fail
  refine (mul_as (a := a) (b := c) (c := zeroM) (n := 3) _ HA.out HC.out E1.out.1 E1.out.2).mono ?_
  rintro e w1 ⟨rfl, hb1⟩
  have T1 := rowBelow12 HX.out hb1 (by first | (simp; done) | (simp; omega) | exact T0.lt)
  have L1 := Lib.hid (((Below.refl _ _).alloc (by go_size) _).trans (hb1.mono (by go_size)) : Below w.heap.size w w1)
  clear hb1
  obtain ⟨t1_0, t1_1, t1_2, t1_3, t1_4, t1_5, t1_6, t1_7, t1_8, t1_9, t1_10, t1_11⟩ := rowc12 T1
  have ltT := T1.lt
  go_wp2_with fail
  refine (mul_as (a := b) (b := c) (c := zeroM) (n := 3) _ HB.out HC.out E2.out.1 E2.out.2).mono ?_
  rintro e w2 ⟨rfl, hb2⟩
  have T2 := rowBelow12 (T1.alloc (.cells (arr4 zeroM) 24)) hb2 (by first | (simp; done) | (simp; omega) | exact T1.lt)
  have P2 := rowBelow (rowNew w1 24 zeroM) hb2 (by simp)
  have L2 := Lib.hid ((L1.out.alloc (by have := L1.out.size; omega) _).trans (hb2.mono (by have := L1.out.size; simp; omega)) : Below w.heap.size w w2)
  clear hb2 L1 T1 t1_0 t1_1 t1_2 t1_3 t1_4 t1_5 t1_6 t1_7 t1_8 t1_9 t1_10 t1_11 ltT
  obtain ⟨t2_0, t2_1, t2_2, t2_3, t2_4, t2_5, t2_6, t2_7, t2_8, t2_9, t2_10, t2_11⟩ := rowc12 T2
  have ltT := T2.lt
  obtain ⟨p2_0, p2_1, p2_2, p2_3⟩ := rowc P2
  have ltP := P2.lt
  go_wp2_with fail
  refine wp_region_quiet_below (by kernel_rfl) (by kernel_rfl) ?_
  obtain ⟨tr_0, tr_1, tr_2, tr_3, tr_4, tr_5, tr_6, tr_7, tr_8, tr_9, tr_10, tr_11⟩ := rows12 (T2.alloc (.cells (arr4 zeroM) 24))
  obtain ⟨pr_0, pr_1, pr_2, pr_3⟩ := rows4 (P2.alloc (.cells (arr4 zeroM) 24))
  obtain ⟨qr_0, qr_1, qr_2, qr_3⟩ := rows4 (rowNew w2 24 zeroM)
  simp only [arr4, zz] at tr_0 tr_1 tr_2 tr_3 tr_4 tr_5 tr_6 tr_7 tr_8 tr_9 tr_10 tr_11 pr_0 pr_1 pr_2 pr_3 qr_0 qr_1 qr_2 qr_3
  repeat (go_big_quiet_step (first
    | (go_at_call 21; exact Calls.regrown_of (alive_any _))))
  refine wpQuiet_nil ?_
  intro w3 hw3
  obtain ⟨q, hq⟩ := hw3
  have hb3 : Below (w2.alloc (.cells (arr4 zeroM) 24)).heap.size (w2.alloc (.cells (arr4 zeroM) 24)) w3 := by
    have h := below_regrown (w2.alloc (.cells (arr4 zeroM) 24)) q.d q.os
    have e : w3 = grow (redrawn (w2.alloc (.cells (arr4 zeroM) 24)) q.d) q.os := hq
    rw [e]; exact h
  clear hq tr_0 tr_1 tr_2 tr_3 tr_4 tr_5 tr_6 tr_7 tr_8 tr_9 tr_10 tr_11 pr_0 pr_1 pr_2 pr_3 qr_0 qr_1 qr_2 qr_3
  have T3 := rowBelow12 (T2.alloc (.cells (arr4 zeroM) 24)) hb3 (by first | (simp; done) | (simp; omega) | exact T2.lt)
  have P3 := rowBelow (P2.alloc (.cells (arr4 zeroM) 24)) hb3 (by first | (simp; done) | (simp; omega) | exact P2.lt)
  have Q3 := rowBelow (rowNew w2 24 zeroM) hb3 (by simp)
  have L3 := Lib.hid ((L2.out.alloc (by have := L2.out.size; omega) _).trans (hb3.mono (by have := L2.out.size; simp; omega)) : Below w.heap.size w w3)
  clear hb3 L2 T2 t2_0 t2_1 t2_2 t2_3 t2_4 t2_5 t2_6 t2_7 t2_8 t2_9 t2_10 t2_11 ltT P2 p2_0 p2_1 p2_2 p2_3 ltP
  obtain ⟨t3_0, t3_1, t3_2, t3_3, t3_4, t3_5, t3_6, t3_7, t3_8, t3_9, t3_10, t3_11⟩ := rowc12 T3
  have ltT := T3.lt
  obtain ⟨p3_0, p3_1, p3_2, p3_3⟩ := rowc P3
  have ltP := P3.lt
  obtain ⟨q3_0, q3_1, q3_2, q3_3⟩ := rowc Q3
  have ltQ := Q3.lt
  go_wp2_with fail
  refine (div_as (a := a) (b := b) (c := divM a b) (n := false) _ HA.out HB.out rfl D0.out).mono ?_
  rintro e w4 ⟨rfl, hb4⟩
  have T4 := rowBelow12 T3 hb4 (by first | (simp; done) | (simp; omega) | exact T3.lt)
  have P4 := rowBelow P3 hb4 (by first | (simp; done) | (simp; omega) | exact P3.lt)
  have Q4 := rowBelow Q3 hb4 (by first | (simp; done) | (simp; omega) | exact Q3.lt)
  have L4 := Lib.hid (L3.out.trans (hb4.mono L3.out.size) : Below w.heap.size w w4)
  clear hb4 L3 T3 t3_0 t3_1 t3_2 t3_3 t3_4 t3_5 t3_6 t3_7 t3_8 t3_9 t3_10 t3_11 ltT P3 p3_0 p3_1 p3_2 p3_3 ltP Q3 q3_0 q3_1 q3_2 q3_3 ltQ
  obtain ⟨t4_0, t4_1, t4_2, t4_3, t4_4, t4_5, t4_6, t4_7, t4_8, t4_9, t4_10, t4_11⟩ := rowc12 T4
  have ltT := T4.lt
  obtain ⟨p4_0, p4_1, p4_2, p4_3⟩ := rowc P4
  have ltP := P4.lt
  obtain ⟨q4_0, q4_1, q4_2, q4_3⟩ := rowc Q4
  have ltQ := Q4.lt
  go_wp2_with fail
  refine (alive_any _).mono ?_
  rintro e w5 ⟨rfl, hb5⟩
  have T5 := rowBelow12 (T4.alloc (.cells (arr4 (divM a b)) 24)) hb5 (by first | (simp; done) | (simp; omega) | exact T4.lt)
  have P5 := rowBelow (P4.alloc (.cells (arr4 (divM a b)) 24)) hb5 (by first | (simp; done) | (simp; omega) | exact P4.lt)
  have Q5 := rowBelow (Q4.alloc (.cells (arr4 (divM a b)) 24)) hb5 (by first | (simp; done) | (simp; omega) | exact Q4.lt)
  have L5 := Lib.hid ((L4.out.alloc (by have := L4.out.size; omega) _).trans (hb5.mono (by have := L4.out.size; simp; omega)) : Below w.heap.size w w5)
  clear hb5 L4 T4 t4_0 t4_1 t4_2 t4_3 t4_4 t4_5 t4_6 t4_7 t4_8 t4_9 t4_10 t4_11 ltT P4 p4_0 p4_1 p4_2 p4_3 ltP Q4 q4_0 q4_1 q4_2 q4_3 ltQ
  obtain ⟨t5_0, t5_1, t5_2, t5_3, t5_4, t5_5, t5_6, t5_7, t5_8, t5_9, t5_10, t5_11⟩ := rowc12 T5
  have ltT := T5.lt
  obtain ⟨p5_0, p5_1, p5_2, p5_3⟩ := rowc P5
  have ltP := P5.lt
  obtain ⟨q5_0, q5_1, q5_2, q5_3⟩ := rowc Q5
  have ltQ := Q5.lt
  go_wp2
  go_ret
  exact ⟨rfl, L5.out⟩

theorem times_walk (o : Int) (a b c : Nat → Int) (w : World) (ha : Small a) (hb : Small b) (hc : Small c) :
    Calls Try.prog 8 #[.int .u8 o, mv12 a b c] w fun e w' => e = .returned (.bool true) ∧ Below w.heap.size w w' := by
  cases h1 : mulB a c <;> cases h2 : mulB b c <;> cases hd : divB a b
  · exact times_000 o a b c w ha hb hc h1 h2 hd
  · exact times_001 o a b c w ha hb hc h1 h2 hd
  · exact times_010 o a b c w ha hb hc h1 h2 hd
  · exact times_011 o a b c w ha hb hc h1 h2 hd
  · exact times_100 o a b c w ha hb hc h1 h2 hd
  · exact times_101 o a b c w ha hb hc h1 h2 hd
  · exact times_110 o a b c w ha hb hc h1 h2 hd
  · exact times_111 o a b c w ha hb hc h1 h2 hd

open Go.ChangeShapes Go.WideShapes Go.ChangeAt
theorem own : ownKnob Try.prog.godebug = none := by kernel_rfl
theorem laidOut : laidOutB Try.prog = true := by kernel_rfl
theorem cellsM : Try.prog.cellsOf 24 = 4 := by kernel_rfl
theorem cellsU : Try.prog.cellsOf 22 = 1 := by kernel_rfl

set_option maxRecDepth 100000 in
theorem times_lifted (os : Os) (started : os.Started) (H : Type) (enc : TypeId × Value → H) :
    ReturnsInHanded {} Try.checked os 8 .any (Rows.monosTimesSpec.pre6 enc Try.prog Try.f8 Rows.monosTimesRow.domain false) (Rows.monosTimesSpec.post enc Try.prog Try.f8 false true false false) := by
  refine returnsInHanded_of_change (C := Try.checked) own started (by kernel_rfl) Try.func8
    (ChangeSpec.witness6 (enc := enc) (C := Try.checked) false ⟨#[], #[.int .u8 0, .agg #[.int .u16 0, .int .u16 0, .int .u16 0, .int .u16 0, .int .u16 0, .int .u16 0, .int .u16 0, .int .u16 0, .int .u16 0, .int .u16 0, .int .u16 0, .int .u16 0]], []⟩ 8 (by kernel_rfl) (by kernel_rfl) (by kernel_rfl) (by kernel_rfl)) ?_
  intro W base args ds gs before hval0 hW hcnd _
  have hval : ∀ (j : Nat) t v, Try.f8.params[j]? = some t → args[j]? = some v → Value.okWide Try.prog W .any base t v := hval0
  have hW' := hW
  obtain ⟨p, q, hA0, hV, rfl, hfz, hnd⟩ := hW
  have hA : DataW.TrodAll enc Try.prog W 0 (fun _ => true) true Try.f8.params.toList args.toList ds p := hA0
  rw [Try.params8] at hA hval
  obtain ⟨v0, v1, d0, d1, p0, p1, rfl, rfl, rfl, h0, h1⟩ := trodAll_two hA
  obtain ⟨rfl, rfl⟩ := trodVars_none hV
  obtain ⟨o, rfl, -, -, wo⟩ := open_int Try.underlying33 (hval 0 33 v0 rfl rfl) h0
  obtain ⟨a, b, c, rfl, ha, hb, hc⟩ := LawPost.open_twelve Try.underlying38 Try.underlying24 Try.underlying22 cellsU cellsM cellsL (hval 1 38 v1 rfl rfl) h1
  refine (times_walk o a b c W ha hb hc).mono fun e W' ⟨he, hg⟩ => ?_
  subst he
  exact ⟨_, rfl, LawPost.law_post laidOut (by kernel_rfl) (by kernel_rfl) Try.underlying4 hW' rfl rfl hg⟩

theorem times_holds : Rows.MonosTimesSaid :=
  OpenClaim.holds_of_wide 8 Try.f8 rfl rfl rfl rfl rfl rfl rfl ⟨rfl, rfl, rfl, rfl, rfl⟩ rfl rfl rfl rfl rfl (by kernel_rfl) Try.func8 (by kernel_rfl)
    (of_decide_eq_true (by kernel_rfl)) (by unfold Func.isWrapper; first | (rw [if_pos (by decide +kernel)]; kernel_rfl) | (rw [if_neg (by decide +kernel)]; exact ⟨rfl, rfl⟩))
    (fun os started H enc _ => times_lifted os started H enc)
#print axioms times_holds
end Go.Proofs.Ytlhkiodgjcbjbaa.Mono
