/-
  With small numbers all is as it is with them.
-/
import Derived.Test.YtklidpbdgliemaaGreatDoorQsA
set_option linter.unusedSimpArgs false
set_option linter.unusedVariables false
namespace Go.Proofs.YtklidpbdgliemaaGreatDoor.Limb
open Go.RowKit Go.Sort

theorem small1 {m n p q : Int} (hp : p ≠ 0) (hq : q ≠ 0) (hn : n ≠ 0) : (m : Rat) / (p : Rat) / ((n : Rat) / (q : Rat)) = ((m * q : Int) : Rat) / ((p * n : Int) : Rat) := by
  have hp : (p : Rat) ≠ 0 := by exact_mod_cast hp
  have hq : (q : Rat) ≠ 0 := by exact_mod_cast hq
  have hn : (n : Rat) ≠ 0 := by exact_mod_cast hn
  rw [Rat.intCast_mul, Rat.intCast_mul]
  grind
theorem small2 {m n p q : Int} (hp : p ≠ 0) (hq : q ≠ 0) : (m : Rat) / (p : Rat) + (n : Rat) / (q : Rat) = ((m * q + n * p : Int) : Rat) / ((p * q : Int) : Rat) := by
  have hp : (p : Rat) ≠ 0 := by exact_mod_cast hp
  have hq : (q : Rat) ≠ 0 := by exact_mod_cast hq
  rw [Rat.intCast_add, Rat.intCast_mul, Rat.intCast_mul, Rat.intCast_mul]
  grind
theorem small3 {m n p q : Int} (hp : p ≠ 0) (hq : q ≠ 0) : (m : Rat) / (p : Rat) - (n : Rat) / (q : Rat) = ((m * q - n * p : Int) : Rat) / ((p * q : Int) : Rat) := by
  have hp : (p : Rat) ≠ 0 := by exact_mod_cast hp
  have hq : (q : Rat) ≠ 0 := by exact_mod_cast hq
  rw [Rat.intCast_sub, Rat.intCast_mul, Rat.intCast_mul, Rat.intCast_mul]
  grind
theorem small4 {m n p q : Int} (hp : p ≠ 0) (hq : q ≠ 0) : (m : Rat) / (p : Rat) * ((n : Rat) / (q : Rat)) = ((m * n : Int) : Rat) / ((p * q : Int) : Rat) := by
  have hp : (p : Rat) ≠ 0 := by exact_mod_cast hp
  have hq : (q : Rat) ≠ 0 := by exact_mod_cast hq
  rw [Rat.intCast_mul, Rat.intCast_mul]
  grind
theorem small5 (m : Int) : (m : Rat) = (m : Rat) / ((1 : Int) : Rat) := by
  rw [show ((1 : Int) : Rat) = 1 by decide +kernel]
  grind
theorem small6 {m p : Int} (hp : p ≠ 0) : ((-m : Int) : Rat) / ((-p : Int) : Rat) = (m : Rat) / (p : Rat) := by
  have hp : (p : Rat) ≠ 0 := by exact_mod_cast hp
  rw [Rat.intCast_neg, Rat.intCast_neg]
  grind
theorem small7 {m p : Int} (hp : p ≠ 0) : (m : Rat) / ((-p : Int) : Rat) = -((m : Rat) / (p : Rat)) := by
  have hp : (p : Rat) ≠ 0 := by exact_mod_cast hp
  rw [Rat.intCast_neg]
  grind
theorem small8 {m n p q : Int} (hp : 0 < p) (hq : 0 < q) : (m : Rat) / (p : Rat) < (n : Rat) / (q : Rat) ↔ m * q < n * p := by
  have hp' : (0 : Rat) < (p : Rat) := by exact_mod_cast hp
  have hq' : (0 : Rat) < (q : Rat) := by exact_mod_cast hq
  rw [Rat.div_lt_iff hp', show (n : Rat) / (q : Rat) * (p : Rat) = (n : Rat) * (p : Rat) / (q : Rat) by grind, Rat.lt_div_iff hq', ← Rat.intCast_mul, ← Rat.intCast_mul, Rat.intCast_lt_intCast]
theorem small9 {m p : Int} (hp : 0 < p) : ((((m : Rat) / (p : Rat)).den : Nat) : Int) = 1 ↔ m.tmod p = 0 := by
  have h1 : (m : Rat) / (p : Rat) = Rat.divInt m p := by rw [Rat.divInt_eq_div]
  rw [h1]
  constructor
  · intro h
    have h2 : Rat.divInt m p = ((Rat.divInt m p).num : Rat) := by
      apply Rat.ext
      · rw [Rat.num_intCast]
      · rw [Rat.den_intCast]; omega
    rw [Rat.divInt_eq_div] at h2
    have hp' : (p : Rat) ≠ 0 := by have : p ≠ 0 := by omega
                                   exact_mod_cast this
    have h3 : (m : Rat) = (((Rat.divInt m p).num * p : Int) : Rat) := by rw [Rat.intCast_mul]; rw [Rat.divInt_eq_div] at *; grind
    have h4 : m = (Rat.divInt m p).num * p := by exact_mod_cast h3
    rw [h4]
    exact Int.mul_tmod_left _ _
  · intro h
    obtain ⟨k, hk⟩ := Int.dvd_of_tmod_eq_zero h
    have hp' : (p : Rat) ≠ 0 := by have : p ≠ 0 := by omega
                                   exact_mod_cast this
    rw [Rat.divInt_eq_div, hk, Rat.intCast_mul, show (p : Rat) * (k : Rat) / (p : Rat) = (k : Rat) by grind, Rat.den_intCast]
    rfl
theorem smallB {m p : Int} {M P : Nat} (h1 : m.natAbs ≤ M) (h2 : p.natAbs ≤ P) : (m * p).natAbs ≤ M * P := by rw [Int.natAbs_mul]; exact Nat.mul_le_mul h1 h2
theorem small10 {n q : Int} (hq : q ≠ 0) (hn : n ≠ 0) : (n : Rat) / (q : Rat) ≠ 0 := by
  have hq : (q : Rat) ≠ 0 := by exact_mod_cast hq
  have hn : (n : Rat) ≠ 0 := by exact_mod_cast hn
  intro h
  grind
theorem small11 (q : Int) : ((0 : Int) : Rat) / (q : Rat) = 0 := by
  rw [show ((0 : Int) : Rat) = 0 by decide +kernel]
  grind
set_option maxRecDepth 100000 in
set_option maxHeartbeats 8000000 in
theorem small_zero (m n b0 b1 : Int) (w : World) (htab : Tab w) (hm : -32768 ≤ m ∧ m ≤ 32767) (hn : -32768 ≤ n ∧ n ≤ 32767) (hb0 : 0 ≤ b0 ∧ b0 ≤ 65535) (hb1 : 0 ≤ b1 ∧ b1 ≤ 65535) (hz : n = 0) : Calls Tryz.prog 9 #[.int .i16 m, .int .i16 n, .agg #[.int .u16 b0, .int .u16 b1]] w fun e w' => e = .returned (.bool true) ∧ Below w.heap.size w w' := by
  have HT := Lib.hid htab
  have KG := Lib.hid (Below.refl w.heap.size w)
  clear htab
  obtain ⟨p, hp⟩ : ∃ z : Int, z = b0 + 1 := ⟨_, rfl⟩
  obtain ⟨q, hq⟩ : ∃ z : Int, z = b1 + 1 := ⟨_, rfl⟩
  have em : IntKind.i64.wrap m = m := IntWalk.i64_in _ (by omega)
  have en : IntKind.i64.wrap n = n := IntWalk.i64_in _ (by omega)
  have eb0 : IntKind.i64.wrap b0 = b0 := IntWalk.i64_in _ (by omega)
  have eb1 : IntKind.i64.wrap b1 = b1 := IntWalk.i64_in _ (by omega)
  have ep : IntKind.i64.wrap (b0 + 1) = p := by rw [hp]; exact IntWalk.i64_in _ (by omega)
  have eqq : IntKind.i64.wrap (b1 + 1) = q := by rw [hq]; exact IntWalk.i64_in _ (by omega)
  have HRm := Lib.hid (show -9223372036854775808 ≤ m ∧ m ≤ 9223372036854775807 by omega)
  have HRn := Lib.hid (show -9223372036854775808 ≤ n ∧ n ≤ 9223372036854775807 by omega)
  have HRp := Lib.hid (show -9223372036854775808 ≤ p ∧ p ≤ 9223372036854775807 by omega)
  have HRq := Lib.hid (show -9223372036854775808 ≤ q ∧ q ≤ 9223372036854775807 by omega)
  have HNZp := Lib.hid (show p ≠ 0 by omega)
  have HNZq := Lib.hid (show q ≠ 0 by omega)
  have HP := Lib.hid (show 0 < p by omega)
  have HQ := Lib.hid (show 0 < q by omega)
  have kmq := smallB (m := m) (p := q) (M := 32768) (P := 65536) (by omega) (by omega)
  have knp := smallB (m := n) (p := p) (M := 32768) (P := 65536) (by omega) (by omega)
  have kpn := smallB (m := p) (p := n) (M := 65536) (P := 32768) (by omega) (by omega)
  have kpq := smallB (m := p) (p := q) (M := 65536) (P := 65536) (by omega) (by omega)
  have kmn := smallB (m := m) (p := n) (M := 32768) (P := 32768) (by omega) (by omega)
  obtain ⟨mq, hmq⟩ : ∃ z : Int, z = m * q := ⟨_, rfl⟩
  have emq : IntKind.i64.wrap (m * q) = mq := by rw [hmq]; exact IntWalk.i64_in _ (by omega)
  have HRmq := Lib.hid (show -9223372036854775808 ≤ mq ∧ mq ≤ 9223372036854775807 by rw [hmq]; omega)
  have H_mq := Lib.hid hmq
  obtain ⟨np, hnp⟩ : ∃ z : Int, z = n * p := ⟨_, rfl⟩
  have enp : IntKind.i64.wrap (n * p) = np := by rw [hnp]; exact IntWalk.i64_in _ (by omega)
  have HRnp := Lib.hid (show -9223372036854775808 ≤ np ∧ np ≤ 9223372036854775807 by rw [hnp]; omega)
  have H_np := Lib.hid hnp
  obtain ⟨pn, hpn⟩ : ∃ z : Int, z = p * n := ⟨_, rfl⟩
  have epn : IntKind.i64.wrap (p * n) = pn := by rw [hpn]; exact IntWalk.i64_in _ (by omega)
  have HRpn := Lib.hid (show -9223372036854775808 ≤ pn ∧ pn ≤ 9223372036854775807 by rw [hpn]; omega)
  have H_pn := Lib.hid hpn
  obtain ⟨pq, hpq⟩ : ∃ z : Int, z = p * q := ⟨_, rfl⟩
  have epq : IntKind.i64.wrap (p * q) = pq := by rw [hpq]; exact IntWalk.i64_in _ (by omega)
  have HRpq := Lib.hid (show -9223372036854775808 ≤ pq ∧ pq ≤ 9223372036854775807 by rw [hpq]; omega)
  have H_pq := Lib.hid hpq
  obtain ⟨mn, hmn⟩ : ∃ z : Int, z = m * n := ⟨_, rfl⟩
  have emn : IntKind.i64.wrap (m * n) = mn := by rw [hmn]; exact IntWalk.i64_in _ (by omega)
  have HRmn := Lib.hid (show -9223372036854775808 ≤ mn ∧ mn ≤ 9223372036854775807 by rw [hmn]; omega)
  have H_mn := Lib.hid hmn
  rw [← hmq] at kmq
  rw [← hnp] at knp
  obtain ⟨s1, hs1⟩ : ∃ z : Int, z = mq + np := ⟨_, rfl⟩
  have es1 : IntKind.i64.wrap (mq + np) = s1 := by rw [hs1]; exact IntWalk.i64_in _ (by omega)
  have HRs1 := Lib.hid (show -9223372036854775808 ≤ s1 ∧ s1 ≤ 9223372036854775807 by rw [hs1]; omega)
  have H_s1 := Lib.hid hs1
  obtain ⟨s2, hs2⟩ : ∃ z : Int, z = mq - np := ⟨_, rfl⟩
  have es2 : IntKind.i64.wrap (mq - np) = s2 := by rw [hs2]; exact IntWalk.i64_in _ (by omega)
  have HRs2 := Lib.hid (show -9223372036854775808 ≤ s2 ∧ s2 ≤ 9223372036854775807 by rw [hs2]; omega)
  have H_s2 := Lib.hid hs2
  obtain ⟨nm, hnm⟩ : ∃ z : Int, z = -m := ⟨_, rfl⟩
  have enm : IntKind.i64.wrap (-m) = nm := by rw [hnm]; exact IntWalk.i64_in _ (by omega)
  have HRnm := Lib.hid (show -9223372036854775808 ≤ nm ∧ nm ≤ 9223372036854775807 by rw [hnm]; omega)
  have H_nm := Lib.hid hnm
  obtain ⟨ngp, hngp⟩ : ∃ z : Int, z = -p := ⟨_, rfl⟩
  have engp : IntKind.i64.wrap (-p) = ngp := by rw [hngp]; exact IntWalk.i64_in _ (by omega)
  have HRngp := Lib.hid (show -9223372036854775808 ≤ ngp ∧ ngp ≤ 9223372036854775807 by rw [hngp]; omega)
  have H_ngp := Lib.hid hngp
  have HNZpq := Lib.hid (show pq ≠ 0 by rw [hpq]; exact Int.mul_ne_zero HNZp.out HNZq.out)
  have HNZngp := Lib.hid (show ngp ≠ 0 by have := HNZp.out; omega)
  have fp0 : (p == 0) = false := by have := HNZp.out; simpa using this
  obtain ⟨tm, htm⟩ : ∃ z : Int, z = m.tmod p := ⟨_, rfl⟩
  have etm : m.tmod p = tm := htm.symm
  obtain ⟨wb, hwb⟩ : ∃ b, b = (tm == 0) := ⟨_, rfl⟩
  have ewb : (tm == 0) = wb := hwb.symm
  have etmw : IntKind.i64.wrap tm = tm := by rw [htm]; have h1 := Int.natAbs_tmod m p; have h2 := Nat.mod_le m.natAbs p.natAbs; exact IntWalk.i64_in _ (by omega)
  have HWB := Lib.hid (show decide (((((m : Rat) / (p : Rat)).den : Nat) : Int) = 1) = wb by rw [hwb, htm, show (m.tmod p == 0) = decide (m.tmod p = 0) from rfl]; exact decide_eq_decide.2 (small9 HP.out))
  obtain ⟨cc, hcc⟩ : ∃ z : Int, z = cmpQ ((m : Rat) / (p : Rat)) ((n : Rat) / (q : Rat)) := ⟨_, rfl⟩
  obtain ⟨qb, hqb⟩ : ∃ b, b = decide (mq < np) := ⟨_, rfl⟩
  have eqb : decide (mq < np) = qb := hqb.symm
  have ecc : (cc == -1) = qb := by
    rw [hqb, hmq, hnp, hcc]
    rcases cmpQ_cases ((m : Rat) / (p : Rat)) ((n : Rat) / (q : Rat)) with ⟨h, e⟩ | ⟨h, e⟩ | ⟨h, e⟩ <;> rw [e]
    · rw [decide_eq_true ((small8 HP.out HQ.out).1 h)]; rfl
    · rw [decide_eq_false (fun k => absurd ((small8 HP.out HQ.out).2 k) (by rw [h]; exact Rat.lt_irrefl))]; rfl
    · rw [decide_eq_false (fun k => absurd ((small8 HP.out HQ.out).2 k) (by have := Rat.le_of_lt h; exact Rat.not_lt.2 this))]; rfl
  have HCC := Lib.hid hcc
  obtain ⟨sx, hsx⟩ : ∃ z : Int, z = cmpZ ((m : Rat) / (p : Rat)).num 0 := ⟨_, rfl⟩
  obtain ⟨sy, hsy⟩ : ∃ z : Int, z = cmpZ ((m : Rat) / ((ngp : Int) : Rat)).num 0 := ⟨_, rfl⟩
  have esy : IntKind.i64.wrap (-sx) = sy := by
    rw [hsy, hngp, small7 HNZp.out, sgQ_neg, ← hsx]
    have := cmpZ_range ((m : Rat) / (p : Rat)).num 0
    exact IntWalk.i64_in _ (by omega)
  have HSX := Lib.hid hsx
  have HSY := Lib.hid hsy
  clear hmq hnp hpn hpq hmn hs1 hs2 hnm hngp htm hwb hcc hqb hsx hsy hp hq hm hn hb0 hb1 kmq knp kpn kpq kmn
  have e0 : (n == 0) = true := by rw [hz]; rfl
  have e1 : (n != 0) = false := by rw [hz]; rfl
  have HZ := Lib.hid hz
  clear hz
  obtain ⟨q3, hq3⟩ : ∃ z : Rat, z = ((m : Int) : Rat) / ((p : Int) : Rat) := ⟨_, rfl⟩
  have Hq3 := Lib.hid hq3
  have LQq3 := Lib.hid (show LQ q3 3 by rw [hq3]; exact LQ.of HRm.out.1 HRm.out.2 HRp.out.1 HRp.out.2 HNZp.out)
  clear hq3
  obtain ⟨q9, hq9⟩ : ∃ z : Rat, z = ((n : Int) : Rat) / ((q : Int) : Rat) := ⟨_, rfl⟩
  have Hq9 := Lib.hid hq9
  have LQq9 := Lib.hid (show LQ q9 3 by rw [hq9]; exact LQ.of HRn.out.1 HRn.out.2 HRq.out.1 HRq.out.2 HNZq.out)
  clear hq9
  obtain ⟨q20, hq20⟩ : ∃ z : Rat, z = q3 + q9 := ⟨_, rfl⟩
  have Hq20 := Lib.hid hq20
  have LQq20 := Lib.hid (show LQ q20 7 by rw [hq20]; exact LQ.add (LQq3.out.up (by decide : _ ≤ 3)) (LQq9.out.up (by decide : _ ≤ 3)) (by decide))
  clear hq20
  obtain ⟨q21, hq21⟩ : ∃ z : Rat, z = ((s1 : Int) : Rat) / ((pq : Int) : Rat) := ⟨_, rfl⟩
  have Hq21 := Lib.hid hq21
  have LQq21 := Lib.hid (show LQ q21 3 by rw [hq21]; exact LQ.of HRs1.out.1 HRs1.out.2 HRpq.out.1 HRpq.out.2 HNZpq.out)
  clear hq21
  obtain ⟨q22, hq22⟩ : ∃ z : Rat, z = q3 - q9 := ⟨_, rfl⟩
  have Hq22 := Lib.hid hq22
  have LQq22 := Lib.hid (show LQ q22 7 by rw [hq22]; exact LQ.sub (LQq3.out.up (by decide : _ ≤ 3)) (LQq9.out.up (by decide : _ ≤ 3)) (by decide))
  clear hq22
  obtain ⟨q23, hq23⟩ : ∃ z : Rat, z = ((s2 : Int) : Rat) / ((pq : Int) : Rat) := ⟨_, rfl⟩
  have Hq23 := Lib.hid hq23
  have LQq23 := Lib.hid (show LQ q23 3 by rw [hq23]; exact LQ.of HRs2.out.1 HRs2.out.2 HRpq.out.1 HRpq.out.2 HNZpq.out)
  clear hq23
  obtain ⟨q24, hq24⟩ : ∃ z : Rat, z = q3 * q9 := ⟨_, rfl⟩
  have Hq24 := Lib.hid hq24
  have LQq24 := Lib.hid (show LQ q24 6 by rw [hq24]; exact LQ.mul (LQq3.out.up (by decide : _ ≤ 3)) (LQq9.out.up (by decide : _ ≤ 3)) (by decide))
  clear hq24
  obtain ⟨q25, hq25⟩ : ∃ z : Rat, z = ((mn : Int) : Rat) / ((pq : Int) : Rat) := ⟨_, rfl⟩
  have Hq25 := Lib.hid hq25
  have LQq25 := Lib.hid (show LQ q25 3 by rw [hq25]; exact LQ.of HRmn.out.1 HRmn.out.2 HRpq.out.1 HRpq.out.2 HNZpq.out)
  clear hq25
  obtain ⟨q26, hq26⟩ : ∃ z : Rat, z = ((m : Int) : Rat) := ⟨_, rfl⟩
  have Hq26 := Lib.hid hq26
  have LQq26 := Lib.hid (show LQ q26 3 by rw [hq26]; exact LQ.int HRm.out.1 HRm.out.2)
  clear hq26
  obtain ⟨q27, hq27⟩ : ∃ z : Rat, z = ((m : Int) : Rat) / ((1 : Int) : Rat) := ⟨_, rfl⟩
  have Hq27 := Lib.hid hq27
  have LQq27 := Lib.hid (show LQ q27 3 by rw [hq27]; exact LQ.of HRm.out.1 HRm.out.2 (by decide) (by decide) (by decide))
  clear hq27
  obtain ⟨q28, hq28⟩ : ∃ z : Rat, z = ((nm : Int) : Rat) / ((ngp : Int) : Rat) := ⟨_, rfl⟩
  have Hq28 := Lib.hid hq28
  have LQq28 := Lib.hid (show LQ q28 3 by rw [hq28]; exact LQ.of HRnm.out.1 HRnm.out.2 HRngp.out.1 HRngp.out.2 HNZngp.out)
  clear hq28
  obtain ⟨q29, hq29⟩ : ∃ z : Rat, z = ((m : Int) : Rat) / ((ngp : Int) : Rat) := ⟨_, rfl⟩
  have Hq29 := Lib.hid hq29
  have LQq29 := Lib.hid (show LQ q29 3 by rw [hq29]; exact LQ.of HRm.out.1 HRm.out.2 HRngp.out.1 HRngp.out.2 HNZngp.out)
  clear hq29
  go_enter Tryz.func9, Tryz.ntmps9
  go_upto_region 1 with (fail)
  obtain ⟨v2, hV⟩ : ∃ V, V = w.alloc (.cells #[.int .u16 b0, .int .u16 b1] 66) := ⟨_, rfl⟩
  have hbV : Below w.heap.size w v2 := by rw [hV]; exact ((Below.refl _ _).alloc (Nat.le_refl _) _)
  have BX1 := Lib.hid (show Bxs v2 (w.heap.size) 66 [.int .u16 b0, .int .u16 b1] by have h := Bxs.new (w) 66 [.int .u16 b0, .int .u16 b1]; rw [hV]; exact h)
  rw [show w.alloc (.cells #[.int .u16 b0, .int .u16 b1] 66) = v2 from hV.symm]
  have KG := Lib.hid (KG.out.trans (hbV.mono KG.out.size))
  clear hV hbV
  have cBX10 := BX1.out.cell (i := 0) rfl
  have cBX11 := BX1.out.cell (i := 1) rfl
  have cBX1f := BX1.out.fz
  have cBX1l := BX1.out.lt
  go_wp2_with fail
  have CT := Lib.hid (ofQ m p v2 HRm.out.1 HRm.out.2 HRp.out.1 HRp.out.2 HNZp.out)
  rw [show ((m : Int) : Rat) / ((p : Int) : Rat) = q3 from Hq3.out.symm] at CT
  with_reducible refine CT.out.mono ?_
  rintro e w4 ⟨x5, rfl, hN6, hb⟩
  have N6 := Lib.hid hN6
  clear hN6
  clear CT
  clear cBX10 cBX11 cBX1f cBX1l
  clear BX1
  have KG := Lib.hid (KG.out.trans (hb.mono KG.out.size))
  clear hb
  go_upto_region 6 with (fail)
  obtain ⟨v8, hV⟩ : ∃ V, V = w4.alloc (.cells #[.bool x5.t.s, .slice x5.t.a x5.t.n x5.t.c, .bool x5.l.s, .slice x5.l.a x5.l.n x5.l.c] 26) := ⟨_, rfl⟩
  have hbV : Below w4.heap.size w4 v8 := by rw [hV]; exact ((Below.refl _ _).alloc (Nat.le_refl _) _)
  have BX7 := Lib.hid (show Bxs v8 (w4.heap.size) 26 [.bool x5.t.s, .slice x5.t.a x5.t.n x5.t.c, .bool x5.l.s, .slice x5.l.a x5.l.n x5.l.c] by have h := Bxs.new (w4) 26 [.bool x5.t.s, .slice x5.t.a x5.t.n x5.t.c, .bool x5.l.s, .slice x5.l.a x5.l.n x5.l.c]; rw [hV]; exact h)
  rw [show w4.alloc (.cells #[.bool x5.t.s, .slice x5.t.a x5.t.n x5.t.c, .bool x5.l.s, .slice x5.l.a x5.l.n x5.l.c] 26) = v8 from hV.symm]
  have N6 := Lib.hid (N6.out.below hbV)
  have KG := Lib.hid (KG.out.trans (hbV.mono KG.out.size))
  clear hV hbV
  go_wp2_with fail
  have CT := Lib.hid (ofQ n q v8 HRn.out.1 HRn.out.2 HRq.out.1 HRq.out.2 HNZq.out)
  rw [show ((n : Int) : Rat) / ((q : Int) : Rat) = q9 from Hq9.out.symm] at CT
  with_reducible refine CT.out.mono ?_
  rintro e w10 ⟨x11, rfl, hN12, hb⟩
  have N12 := Lib.hid hN12
  clear hN12
  clear CT
  have N6 := Lib.hid (N6.out.below hb)
  have BX7 := Lib.hid (BX7.out.below hb BX7.out.lt)
  have KG := Lib.hid (KG.out.trans (hb.mono KG.out.size))
  clear hb
  go_upto_region 7 with (fail)
  obtain ⟨v14, hV⟩ : ∃ V, V = w10.alloc (.cells #[.bool x11.t.s, .slice x11.t.a x11.t.n x11.t.c, .bool x11.l.s, .slice x11.l.a x11.l.n x11.l.c] 26) := ⟨_, rfl⟩
  have hbV : Below w10.heap.size w10 v14 := by rw [hV]; exact ((Below.refl _ _).alloc (Nat.le_refl _) _)
  have BX13 := Lib.hid (show Bxs v14 (w10.heap.size) 26 [.bool x11.t.s, .slice x11.t.a x11.t.n x11.t.c, .bool x11.l.s, .slice x11.l.a x11.l.n x11.l.c] by have h := Bxs.new (w10) 26 [.bool x11.t.s, .slice x11.t.a x11.t.n x11.t.c, .bool x11.l.s, .slice x11.l.a x11.l.n x11.l.c]; rw [hV]; exact h)
  rw [show w10.alloc (.cells #[.bool x11.t.s, .slice x11.t.a x11.t.n x11.t.c, .bool x11.l.s, .slice x11.l.a x11.l.n x11.l.c] 26) = v14 from hV.symm]
  have N6 := Lib.hid (N6.out.below hbV)
  have N12 := Lib.hid (N12.out.below hbV)
  have BX7 := Lib.hid (BX7.out.below hbV BX7.out.lt)
  have KG := Lib.hid (KG.out.trans (hbV.mono KG.out.size))
  clear hV hbV
  have cBX70 := BX7.out.cell (i := 0) rfl
  have cBX71 := BX7.out.cell (i := 1) rfl
  have cBX72 := BX7.out.cell (i := 2) rfl
  have cBX73 := BX7.out.cell (i := 3) rfl
  have cBX7f := BX7.out.fz
  have cBX7l := BX7.out.lt
  have cBX130 := BX13.out.cell (i := 0) rfl
  have cBX131 := BX13.out.cell (i := 1) rfl
  have cBX132 := BX13.out.cell (i := 2) rfl
  have cBX133 := BX13.out.cell (i := 3) rfl
  have cBX13f := BX13.out.fz
  have cBX13l := BX13.out.lt
  go_wp2_with fail
  have CT := Lib.hid (qdiv0 (N6.out).k (((N6.out).k).len LQq3.out (by decide : _ ≤ 900000)) (N12.out).k (((N12.out).k).len LQq9.out (by decide : _ ≤ 900000)) (by simp only [Hq9.out, Hq3.out]; rw [HZ.out]; exact small11 q))
  with_reducible refine CT.out.mono ?_
  rintro e w15 ⟨x16, rfl, hb⟩
  clear CT
  clear cBX70 cBX71 cBX72 cBX73 cBX7f cBX7l
  clear cBX130 cBX131 cBX132 cBX133 cBX13f cBX13l
  have N6 := Lib.hid (N6.out.below hb)
  have N12 := Lib.hid (N12.out.below hb)
  have BX7 := Lib.hid (BX7.out.below hb BX7.out.lt)
  have BX13 := Lib.hid (BX13.out.below hb BX13.out.lt)
  have KG := Lib.hid (KG.out.trans (hb.mono KG.out.size))
  clear hb
  go_upto_region 8 with (fail)
  obtain ⟨v18, hV⟩ : ∃ V, V = w15.alloc (.cells #[.bool x16.t.s, .slice x16.t.a x16.t.n x16.t.c, .bool x16.l.s, .slice x16.l.a x16.l.n x16.l.c] 26) := ⟨_, rfl⟩
  have hbV : Below w15.heap.size w15 v18 := by rw [hV]; exact ((Below.refl _ _).alloc (Nat.le_refl _) _)
  have BX17 := Lib.hid (show Bxs v18 (w15.heap.size) 26 [.bool x16.t.s, .slice x16.t.a x16.t.n x16.t.c, .bool x16.l.s, .slice x16.l.a x16.l.n x16.l.c] by have h := Bxs.new (w15) 26 [.bool x16.t.s, .slice x16.t.a x16.t.n x16.t.c, .bool x16.l.s, .slice x16.l.a x16.l.n x16.l.c]; rw [hV]; exact h)
  rw [show w15.alloc (.cells #[.bool x16.t.s, .slice x16.t.a x16.t.n x16.t.c, .bool x16.l.s, .slice x16.l.a x16.l.n x16.l.c] 26) = v18 from hV.symm]
  have N6 := Lib.hid (N6.out.below hbV)
  have N12 := Lib.hid (N12.out.below hbV)
  have BX7 := Lib.hid (BX7.out.below hbV BX7.out.lt)
  have BX13 := Lib.hid (BX13.out.below hbV BX13.out.lt)
  have KG := Lib.hid (KG.out.trans (hbV.mono KG.out.size))
  clear hV hbV
  clear BX17
  go_upto_region 8 with (fail)
  refine Go.FreshS.wp_region_fresh 25 [] (Go.FreshS.spOf [])
    (fun w' => Below v18.heap.size v18 w') (by kernel_rfl) (by kernel_rfl) (by kernel_rfl)
    (Go.FreshS.spOf_nil) (fun _ _ h hb => h.trans (hb.mono h.size)) ((Below.refl _ _).drew) ?_
  simp only [List.append_eq, List.cons_append, List.nil_append, List.take_succ_cons, List.take_zero, List.drop_succ_cons, List.drop_zero]
  refine Go.FreshS.wpF_reads rfl rfl rfl ?_ (fun w' hw' => ?_) ?_
  rotate_left
  · have hb' := hw'.world
    skip
    clear hw'
    go_simp
    try rfl
  conv => arg 10; simp only [Act.put, List.setIfInBounds_toArray, List.set_cons_succ, List.set_cons_zero]
  refine Go.FreshS.wpF_reads rfl rfl rfl ?_ (fun w' hw' => ?_) ?_
  rotate_left
  · have hb' := hw'.world
    skip
    clear hw'
    go_simp
    try rfl
  conv => arg 10; simp only [Act.put, List.setIfInBounds_toArray, List.set_cons_succ, List.set_cons_zero]
  refine Go.FreshS.wpF_reads rfl rfl rfl ?_ (fun w' hw' => ?_) ?_
  rotate_left
  · have hb' := hw'.world
    skip
    clear hw'
    go_simp
    try rfl
  conv => arg 10; simp only [Act.put, List.setIfInBounds_toArray, List.set_cons_succ, List.set_cons_zero]
  refine Go.FreshS.wpF_skip (by rfl) rfl ?_
  conv => arg 10; simp only [Act.put, List.setIfInBounds_toArray, List.set_cons_succ, List.set_cons_zero]
  refine Go.FreshS.wpF_skip (by rfl) rfl ?_
  conv => arg 10; simp only [Act.put, List.setIfInBounds_toArray, List.set_cons_succ, List.set_cons_zero]
  refine Go.FreshS.wpF_skip (by rfl) rfl ?_
  conv => arg 10; simp only [Act.put, List.setIfInBounds_toArray, List.set_cons_succ, List.set_cons_zero]
  refine Go.FreshS.wpF_skip (by rfl) rfl ?_
  conv => arg 10; simp only [Act.put, List.setIfInBounds_toArray, List.set_cons_succ, List.set_cons_zero]
  refine Go.FreshS.wpF_skip (by rfl) rfl ?_
  conv => arg 10; simp only [Act.put, List.setIfInBounds_toArray, List.set_cons_succ, List.set_cons_zero]
  refine Go.FreshS.wpF_skip (by rfl) rfl ?_
  conv => arg 10; simp only [Act.put, List.setIfInBounds_toArray, List.set_cons_succ, List.set_cons_zero]
  refine Go.FreshS.wpF_skip (by rfl) rfl ?_
  conv => arg 10; simp only [Act.put, List.setIfInBounds_toArray, List.set_cons_succ, List.set_cons_zero]
  refine Go.FreshS.wpF_skip (by rfl) rfl ?_
  conv => arg 10; simp only [Act.put, List.setIfInBounds_toArray, List.set_cons_succ, List.set_cons_zero]
  refine Go.FreshS.wpF_skip (by rfl) rfl ?_
  conv => arg 10; simp only [Act.put, List.setIfInBounds_toArray, List.set_cons_succ, List.set_cons_zero]
  refine Go.FreshS.wpF_skip (by rfl) rfl ?_
  conv => arg 10; simp only [Act.put, List.setIfInBounds_toArray, List.set_cons_succ, List.set_cons_zero]
  refine Go.FreshS.wpF_skip (by rfl) rfl ?_
  conv => arg 10; simp only [Act.put, List.setIfInBounds_toArray, List.set_cons_succ, List.set_cons_zero]
  refine Go.FreshS.wpF_skip (by rfl) rfl ?_
  conv => arg 10; simp only [Act.put, List.setIfInBounds_toArray, List.set_cons_succ, List.set_cons_zero]
  refine Go.FreshS.wpF_skip (by rfl) rfl ?_
  conv => arg 10; simp only [Act.put, List.setIfInBounds_toArray, List.set_cons_succ, List.set_cons_zero]
  refine Go.FreshS.wpF_skip (by rfl) rfl ?_
  conv => arg 10; simp only [Act.put, List.setIfInBounds_toArray, List.set_cons_succ, List.set_cons_zero]
  refine Go.FreshS.wpF_reads rfl rfl rfl ?_ (fun w' hw' => ?_) ?_
  rotate_left
  · have hb' := hw'.world
    skip
    clear hw'
    go_simp
    try rfl
  conv => arg 10; simp only [Act.put, List.setIfInBounds_toArray, List.set_cons_succ, List.set_cons_zero]
  refine Go.FreshS.wpF_reads rfl rfl rfl ?_ (fun w' hw' => ?_) ?_
  rotate_left
  · have hb' := hw'.world
    skip
    clear hw'
    go_simp
    try rfl
  conv => arg 10; simp only [Act.put, List.setIfInBounds_toArray, List.set_cons_succ, List.set_cons_zero]
  refine Go.FreshS.wpF_readsG (by rfl) rfl rfl ?_ (fun w' hw' => ?_) ?_
  rotate_left
  · have hb' := hw'.world
    skip
    clear hw'
    go_simp
    try rfl
  conv => arg 10; simp only [Act.put, List.setIfInBounds_toArray, List.set_cons_succ, List.set_cons_zero]
  refine Go.FreshS.wpF_readsG (by rfl) rfl rfl ?_ (fun w' hw' => ?_) ?_
  rotate_left
  · have hb' := hw'.world
    skip
    clear hw'
    go_simp
    try rfl
  conv => arg 10; simp only [Act.put, List.setIfInBounds_toArray, List.set_cons_succ, List.set_cons_zero]
  refine Go.FreshS.wpF_readsG (by rfl) rfl rfl ?_ (fun w' hw' => ?_) ?_
  rotate_left
  · have hb' := hw'.world
    skip
    clear hw'
    go_simp
    try rfl
  conv => arg 10; simp only [Act.put, List.setIfInBounds_toArray, List.set_cons_succ, List.set_cons_zero]
  refine Go.FreshS.wpF_readsG (by rfl) rfl rfl ?_ (fun w' hw' => ?_) ?_
  rotate_left
  · have hb' := hw'.world
    skip
    clear hw'
    go_simp
    try rfl
  conv => arg 10; simp only [Act.put, List.setIfInBounds_toArray, List.set_cons_succ, List.set_cons_zero]
  refine Go.FreshS.wpF_readsG (by rfl) rfl rfl ?_ (fun w' hw' => ?_) ?_
  rotate_left
  · have hb' := hw'.world
    skip
    clear hw'
    go_simp
    try rfl
  conv => arg 10; simp only [Act.put, List.setIfInBounds_toArray, List.set_cons_succ, List.set_cons_zero]
  refine Go.FreshS.wpF_readsG (by rfl) rfl rfl ?_ (fun w' hw' => ?_) ?_
  rotate_left
  · have hb' := hw'.world
    skip
    clear hw'
    go_simp
    try rfl
  conv => arg 10; simp only [Act.put, List.setIfInBounds_toArray, List.set_cons_succ, List.set_cons_zero]
  refine Go.FreshS.wpF_nil (fun w19 hb hF => ?_)
  clear hF
  have N6 := Lib.hid (N6.out.below hb)
  have N12 := Lib.hid (N12.out.below hb)
  have BX7 := Lib.hid (BX7.out.below hb BX7.out.lt)
  have BX13 := Lib.hid (BX13.out.below hb BX13.out.lt)
  have KG := Lib.hid (KG.out.trans (hb.mono KG.out.size))
  clear hb
  go_upto_region 10 with (fail)
  refine Go.FreshS.wp_region_fresh 98 [] (Go.FreshS.spOf [(0, Go.FreshS.Sp.know (.bool true)), (4, Go.FreshS.Sp.made (fun x : FV => x.v) (fun x w' => DF w' w19.heap.size x q20) FV.blk), (15, Go.FreshS.Sp.made (fun x : FV => x.v) (fun x w' => DF w' w19.heap.size x q21) FV.blk), (16, Go.FreshS.Sp.know (.bool true)), (21, Go.FreshS.Sp.made (fun x : FV => x.v) (fun x w' => DF w' w19.heap.size x q22) FV.blk), (32, Go.FreshS.Sp.made (fun x : FV => x.v) (fun x w' => DF w' w19.heap.size x q23) FV.blk), (33, Go.FreshS.Sp.know (.bool true)), (38, Go.FreshS.Sp.made (fun x : FV => x.v) (fun x w' => DF w' w19.heap.size x q24) FV.blk), (45, Go.FreshS.Sp.made (fun x : FV => x.v) (fun x w' => DF w' w19.heap.size x q25) FV.blk), (46, Go.FreshS.Sp.know (.bool true)), (51, Go.FreshS.Sp.know (.int .i64 cc)), (64, Go.FreshS.Sp.know (.bool wb)), (73, Go.FreshS.Sp.made (fun x : FV => x.v) (fun x w' => DF w' w19.heap.size x q26) FV.blk), (75, Go.FreshS.Sp.made (fun x : FV => x.v) (fun x w' => DF w' w19.heap.size x q27) FV.blk), (76, Go.FreshS.Sp.know (.bool true)), (83, Go.FreshS.Sp.made (fun x : FV => x.v) (fun x w' => DF w' w19.heap.size x q28) FV.blk), (85, Go.FreshS.Sp.know (.bool true)), (91, Go.FreshS.Sp.made (fun x : FV => x.v) (fun x w' => DF w' w19.heap.size x q29) FV.blk), (92, Go.FreshS.Sp.know (.int .i64 sy)), (94, Go.FreshS.Sp.know (.int .i64 sx))])
    (fun w' => Below w19.heap.size w19 w') (by kernel_rfl) ((congrArg (fun o => Region.lexTailB .any o 98) (show _ = smOps by kernel_rfl)).trans smChk) (by kernel_rfl)
    (Go.FreshS.spOf_cons (Go.FreshS.Sp.know_keeps _ _) (Go.FreshS.spOf_cons (Go.FreshS.Sp.made_keeps _ (fun _ _ _ h _ hk => h.kept hk) (Go.FreshS.notTaken (by kernel_rfl))) (Go.FreshS.spOf_cons (Go.FreshS.Sp.made_keeps _ (fun _ _ _ h _ hk => h.kept hk) (Go.FreshS.notTaken (by kernel_rfl))) (Go.FreshS.spOf_cons (Go.FreshS.Sp.know_keeps _ _) (Go.FreshS.spOf_cons (Go.FreshS.Sp.made_keeps _ (fun _ _ _ h _ hk => h.kept hk) (Go.FreshS.notTaken (by kernel_rfl))) (Go.FreshS.spOf_cons (Go.FreshS.Sp.made_keeps _ (fun _ _ _ h _ hk => h.kept hk) (Go.FreshS.notTaken (by kernel_rfl))) (Go.FreshS.spOf_cons (Go.FreshS.Sp.know_keeps _ _) (Go.FreshS.spOf_cons (Go.FreshS.Sp.made_keeps _ (fun _ _ _ h _ hk => h.kept hk) (Go.FreshS.notTaken (by kernel_rfl))) (Go.FreshS.spOf_cons (Go.FreshS.Sp.made_keeps _ (fun _ _ _ h _ hk => h.kept hk) (Go.FreshS.notTaken (by kernel_rfl))) (Go.FreshS.spOf_cons (Go.FreshS.Sp.know_keeps _ _) (Go.FreshS.spOf_cons (Go.FreshS.Sp.know_keeps _ _) (Go.FreshS.spOf_cons (Go.FreshS.Sp.know_keeps _ _) (Go.FreshS.spOf_cons (Go.FreshS.Sp.made_keeps _ (fun _ _ _ h _ hk => h.kept hk) (Go.FreshS.notTaken (by kernel_rfl))) (Go.FreshS.spOf_cons (Go.FreshS.Sp.made_keeps _ (fun _ _ _ h _ hk => h.kept hk) (Go.FreshS.notTaken (by kernel_rfl))) (Go.FreshS.spOf_cons (Go.FreshS.Sp.know_keeps _ _) (Go.FreshS.spOf_cons (Go.FreshS.Sp.made_keeps _ (fun _ _ _ h _ hk => h.kept hk) (Go.FreshS.notTaken (by kernel_rfl))) (Go.FreshS.spOf_cons (Go.FreshS.Sp.know_keeps _ _) (Go.FreshS.spOf_cons (Go.FreshS.Sp.made_keeps _ (fun _ _ _ h _ hk => h.kept hk) (Go.FreshS.notTaken (by kernel_rfl))) (Go.FreshS.spOf_cons (Go.FreshS.Sp.know_keeps _ _) (Go.FreshS.spOf_cons (Go.FreshS.Sp.know_keeps _ _) (Go.FreshS.spOf_nil))))))))))))))))))))) (fun _ _ h hb => h.trans (hb.mono h.size)) ((Below.refl _ _).drew) ?_
  simp only [List.append_eq, List.cons_append, List.nil_append, List.take_succ_cons, List.take_zero, List.drop_succ_cons, List.drop_zero]
  refine Go.FreshS.wpF_spec rfl rfl rfl (fun w' hw' => ?_) ?_
  · have hb' := hw'.world
    refine Go.FreshS.gives_of (Go.FreshS.PK (.bool true)) ?_ (fun _ _ h => h.post)
    go_simp
    have CT := qalive w' (HT.out.on (KG.out.trans (hb'.mono KG.out.size)))
    refine CT.mono ?_
    rintro e w'' ⟨rfl, hb⟩
    exact ⟨_, rfl, rfl, hb⟩
  rintro _ rfl
  conv => arg 10; simp only [Act.put, List.setIfInBounds_toArray, List.set_cons_succ, List.set_cons_zero]
  refine Go.FreshS.wpF_reads rfl rfl rfl ?_ (fun w' hw' => ?_) ?_
  rotate_left
  · have hb' := hw'.world
    skip
    clear hw'
    go_simp
    try rfl
  conv => arg 10; simp only [Act.put, List.setIfInBounds_toArray, List.set_cons_succ, List.set_cons_zero]
  refine Go.FreshS.wpF_readsG (by rfl) rfl rfl ?_ (fun w' hw' => ?_) ?_
  rotate_left
  · have hb' := hw'.world
    have hs0 := (BX7.out.below hb' BX7.out.lt).cell (i := 0) rfl
    have hs1 := (BX7.out.below hb' BX7.out.lt).cell (i := 1) rfl
    have hs2 := (BX7.out.below hb' BX7.out.lt).cell (i := 2) rfl
    have hs3 := (BX7.out.below hb' BX7.out.lt).cell (i := 3) rfl
    have hsf := (BX7.out.below hb' BX7.out.lt).fz
    have hsl := (BX7.out.below hb' BX7.out.lt).lt
    clear hw'
    go_simp
    try rfl
  conv => arg 10; simp only [Act.put, List.setIfInBounds_toArray, List.set_cons_succ, List.set_cons_zero]
  refine Go.FreshS.wpF_readsG (by rfl) rfl rfl ?_ (fun w' hw' => ?_) ?_
  rotate_left
  · have hb' := hw'.world
    have hs0 := (BX13.out.below hb' BX13.out.lt).cell (i := 0) rfl
    have hs1 := (BX13.out.below hb' BX13.out.lt).cell (i := 1) rfl
    have hs2 := (BX13.out.below hb' BX13.out.lt).cell (i := 2) rfl
    have hs3 := (BX13.out.below hb' BX13.out.lt).cell (i := 3) rfl
    have hsf := (BX13.out.below hb' BX13.out.lt).fz
    have hsl := (BX13.out.below hb' BX13.out.lt).lt
    clear hw'
    go_simp
    try rfl
  conv => arg 10; simp only [Act.put, List.setIfInBounds_toArray, List.set_cons_succ, List.set_cons_zero]
  refine Go.FreshS.wpF_gspec (by rfl) rfl rfl (fun w' hw' => ?_) ?_
  · have hb' := hw'.world
    refine Go.FreshS.gives_of (Go.FreshS.PM (fun x : FV => x.v) (fun x w' => DF w' w19.heap.size x q20) FV.blk w'.heap.size) ?_ (fun _ _ h => h.post (fun _ _ => FV.inj))
    go_simp
    have CT := qadd ((N6.out.below hb')).k.any ((((N6.out.below hb')).k).len LQq3.out (by decide : _ ≤ 900000)) ((N12.out.below hb')).k.any ((((N12.out.below hb')).k).len LQq9.out (by decide : _ ≤ 900000))
    rw [show q3 + q9 = q20 from Hq20.out.symm] at CT
    refine CT.mono ?_
    rintro e w'' ⟨za, rfl, ho, hb⟩
    exact ⟨_, rfl, ⟨za, rfl, ho.mono hb'.size, ho.blks⟩, hb⟩
  rintro _ ⟨y4, rfl⟩
  conv => arg 10; simp only [Act.put, List.setIfInBounds_toArray, List.set_cons_succ, List.set_cons_zero]
  refine Go.FreshS.wpF_readsG (by rfl) rfl rfl ?_ (fun w' hw' => ?_) ?_
  rotate_left
  · have hb' := hw'.world
    skip
    clear hw'
    go_simp
    try rfl
  conv => arg 10; simp only [Act.put, List.setIfInBounds_toArray, List.set_cons_succ, List.set_cons_zero]
  refine Go.FreshS.wpF_readsG (by rfl) rfl rfl ?_ (fun w' hw' => ?_) ?_
  rotate_left
  · have hb' := hw'.world
    skip
    clear hw'
    go_simp
    try rfl
  conv => arg 10; simp only [Act.put, List.setIfInBounds_toArray, List.set_cons_succ, List.set_cons_zero]
  refine Go.FreshS.wpF_readsG (by rfl) rfl rfl ?_ (fun w' hw' => ?_) ?_
  rotate_left
  · have hb' := hw'.world
    skip
    clear hw'
    go_simp
    try rfl
  conv => arg 10; simp only [Act.put, List.setIfInBounds_toArray, List.set_cons_succ, List.set_cons_zero]
  refine Go.FreshS.wpF_readsG (by rfl) rfl rfl ?_ (fun w' hw' => ?_) ?_
  rotate_left
  · have hb' := hw'.world
    skip
    clear hw'
    go_simp
    try rfl
  conv => arg 10; simp only [Act.put, List.setIfInBounds_toArray, List.set_cons_succ, List.set_cons_zero]
  refine Go.FreshS.wpF_readsG (by rfl) rfl rfl ?_ (fun w' hw' => ?_) ?_
  rotate_left
  · have hb' := hw'.world
    skip
    clear hw'
    go_simp
    try rfl
  conv => arg 10; simp only [Act.put, List.setIfInBounds_toArray, List.set_cons_succ, List.set_cons_zero]
  refine Go.FreshS.wpF_readsG (by rfl) rfl rfl ?_ (fun w' hw' => ?_) ?_
  rotate_left
  · have hb' := hw'.world
    skip
    clear hw'
    go_simp
    try rfl
  conv => arg 10; simp only [Act.put, List.setIfInBounds_toArray, List.set_cons_succ, List.set_cons_zero]
  refine Go.FreshS.wpF_readsG (by rfl) rfl rfl ?_ (fun w' hw' => ?_) ?_
  rotate_left
  · have hb' := hw'.world
    skip
    clear hw'
    go_simp
    try rfl
  conv => arg 10; simp only [Act.put, List.setIfInBounds_toArray, List.set_cons_succ, List.set_cons_zero]
  refine Go.FreshS.wpF_readsG (by rfl) rfl rfl ?_ (fun w' hw' => ?_) ?_
  rotate_left
  · have hb' := hw'.world
    skip
    clear hw'
    go_simp
    try rfl
  conv => arg 10; simp only [Act.put, List.setIfInBounds_toArray, List.set_cons_succ, List.set_cons_zero]
  refine Go.FreshS.wpF_readsG (by rfl) rfl rfl ?_ (fun w' hw' => ?_) ?_
  rotate_left
  · have hb' := hw'.world
    skip
    clear hw'
    go_simp
    try rfl
  conv => arg 10; simp only [Act.put, List.setIfInBounds_toArray, List.set_cons_succ, List.set_cons_zero]
  refine Go.FreshS.wpF_readsG (by rfl) rfl rfl ?_ (fun w' hw' => ?_) ?_
  rotate_left
  · have hb' := hw'.world
    skip
    clear hw'
    go_simp
    try rfl
  conv => arg 10; simp only [Act.put, List.setIfInBounds_toArray, List.set_cons_succ, List.set_cons_zero]
  refine Go.FreshS.wpF_gspec (by rfl) rfl rfl (fun w' hw' => ?_) ?_
  · have hb' := hw'.world
    refine Go.FreshS.gives_of (Go.FreshS.PM (fun x : FV => x.v) (fun x w' => DF w' w19.heap.size x q21) FV.blk w'.heap.size) ?_ (fun _ _ h => h.post (fun _ _ => FV.inj))
    go_simp
    have CT := ofQ s1 pq w' HRs1.out.1 HRs1.out.2 HRpq.out.1 HRpq.out.2 HNZpq.out
    rw [show ((s1 : Int) : Rat) / ((pq : Int) : Rat) = q21 from Hq21.out.symm] at CT
    refine CT.mono ?_
    rintro e w'' ⟨za, rfl, ho, hb⟩
    exact ⟨_, rfl, ⟨za, rfl, ho.mono hb'.size, ho.blks⟩, hb⟩
  rintro _ ⟨y15, rfl⟩
  conv => arg 10; simp only [Act.put, List.setIfInBounds_toArray, List.set_cons_succ, List.set_cons_zero]
  refine Go.FreshS.wpF_gspec (by rfl) rfl rfl (fun w' hw' => ?_) ?_
  · have hb' := hw'.world
    refine Go.FreshS.gives_of (Go.FreshS.PK (.bool true)) ?_ (fun _ _ h => h.post)
    go_simp
    have f4 := Go.FreshS.made_of (val := (fun x : FV => x.v)) (Φ := fun x w' => DF w' w19.heap.size x q20) (fun _ _ => FV.inj) (hw'.fact 4 (by kernel_rfl))
    have f15 := Go.FreshS.made_of (val := (fun x : FV => x.v)) (Φ := fun x w' => DF w' w19.heap.size x q21) (fun _ _ => FV.inj) (hw'.fact 15 (by kernel_rfl))
    have CT := qsame (f4).k (((f4).k).len LQq20.out (by decide : _ ≤ 900000)) (f15).k (((f15).k).len LQq21.out (by decide : _ ≤ 900000)) (by simp only [Hq21.out, Hq20.out, Hq9.out, Hq3.out]; rw [H_s1.out, H_mq.out, H_np.out, H_pq.out]; exact small2 HNZp.out HNZq.out)
    refine CT.mono ?_
    rintro e w'' ⟨rfl, hb⟩
    exact ⟨_, rfl, rfl, hb⟩
  rintro _ rfl
  conv => arg 10; simp only [Act.put, List.setIfInBounds_toArray, List.set_cons_succ, List.set_cons_zero]
  refine Go.FreshS.wpF_reads rfl rfl rfl ?_ (fun w' hw' => ?_) ?_
  rotate_left
  · have hb' := hw'.world
    skip
    clear hw'
    go_simp
    try rfl
  conv => arg 10; simp only [Act.put, List.setIfInBounds_toArray, List.set_cons_succ, List.set_cons_zero]
  refine Go.FreshS.wpF_reads rfl rfl rfl ?_ (fun w' hw' => ?_) ?_
  rotate_left
  · have hb' := hw'.world
    skip
    clear hw'
    go_simp
    try rfl
  conv => arg 10; simp only [Act.put, List.setIfInBounds_toArray, List.set_cons_succ, List.set_cons_zero]
  refine Go.FreshS.wpF_readsG (by rfl) rfl rfl ?_ (fun w' hw' => ?_) ?_
  rotate_left
  · have hb' := hw'.world
    have hs0 := (BX7.out.below hb' BX7.out.lt).cell (i := 0) rfl
    have hs1 := (BX7.out.below hb' BX7.out.lt).cell (i := 1) rfl
    have hs2 := (BX7.out.below hb' BX7.out.lt).cell (i := 2) rfl
    have hs3 := (BX7.out.below hb' BX7.out.lt).cell (i := 3) rfl
    have hsf := (BX7.out.below hb' BX7.out.lt).fz
    have hsl := (BX7.out.below hb' BX7.out.lt).lt
    clear hw'
    go_simp
    try rfl
  conv => arg 10; simp only [Act.put, List.setIfInBounds_toArray, List.set_cons_succ, List.set_cons_zero]
  refine Go.FreshS.wpF_readsG (by rfl) rfl rfl ?_ (fun w' hw' => ?_) ?_
  rotate_left
  · have hb' := hw'.world
    have hs0 := (BX13.out.below hb' BX13.out.lt).cell (i := 0) rfl
    have hs1 := (BX13.out.below hb' BX13.out.lt).cell (i := 1) rfl
    have hs2 := (BX13.out.below hb' BX13.out.lt).cell (i := 2) rfl
    have hs3 := (BX13.out.below hb' BX13.out.lt).cell (i := 3) rfl
    have hsf := (BX13.out.below hb' BX13.out.lt).fz
    have hsl := (BX13.out.below hb' BX13.out.lt).lt
    clear hw'
    go_simp
    try rfl
  conv => arg 10; simp only [Act.put, List.setIfInBounds_toArray, List.set_cons_succ, List.set_cons_zero]
  refine Go.FreshS.wpF_gspec (by rfl) rfl rfl (fun w' hw' => ?_) ?_
  · have hb' := hw'.world
    refine Go.FreshS.gives_of (Go.FreshS.PM (fun x : FV => x.v) (fun x w' => DF w' w19.heap.size x q22) FV.blk w'.heap.size) ?_ (fun _ _ h => h.post (fun _ _ => FV.inj))
    go_simp
    have CT := qsub ((N6.out.below hb')).k.any ((((N6.out.below hb')).k).len LQq3.out (by decide : _ ≤ 900000)) ((N12.out.below hb')).k.any ((((N12.out.below hb')).k).len LQq9.out (by decide : _ ≤ 900000))
    rw [show q3 - q9 = q22 from Hq22.out.symm] at CT
    refine CT.mono ?_
    rintro e w'' ⟨za, rfl, ho, hb⟩
    exact ⟨_, rfl, ⟨za, rfl, ho.mono hb'.size, ho.blks⟩, hb⟩
  rintro _ ⟨y21, rfl⟩
  conv => arg 10; simp only [Act.put, List.setIfInBounds_toArray, List.set_cons_succ, List.set_cons_zero]
  refine Go.FreshS.wpF_readsG (by rfl) rfl rfl ?_ (fun w' hw' => ?_) ?_
  rotate_left
  · have hb' := hw'.world
    skip
    clear hw'
    go_simp
    try rfl
  conv => arg 10; simp only [Act.put, List.setIfInBounds_toArray, List.set_cons_succ, List.set_cons_zero]
  refine Go.FreshS.wpF_readsG (by rfl) rfl rfl ?_ (fun w' hw' => ?_) ?_
  rotate_left
  · have hb' := hw'.world
    skip
    clear hw'
    go_simp
    try rfl
  conv => arg 10; simp only [Act.put, List.setIfInBounds_toArray, List.set_cons_succ, List.set_cons_zero]
  refine Go.FreshS.wpF_readsG (by rfl) rfl rfl ?_ (fun w' hw' => ?_) ?_
  rotate_left
  · have hb' := hw'.world
    skip
    clear hw'
    go_simp
    try rfl
  conv => arg 10; simp only [Act.put, List.setIfInBounds_toArray, List.set_cons_succ, List.set_cons_zero]
  refine Go.FreshS.wpF_readsG (by rfl) rfl rfl ?_ (fun w' hw' => ?_) ?_
  rotate_left
  · have hb' := hw'.world
    skip
    clear hw'
    go_simp
    try rfl
  conv => arg 10; simp only [Act.put, List.setIfInBounds_toArray, List.set_cons_succ, List.set_cons_zero]
  refine Go.FreshS.wpF_readsG (by rfl) rfl rfl ?_ (fun w' hw' => ?_) ?_
  rotate_left
  · have hb' := hw'.world
    skip
    clear hw'
    go_simp
    try rfl
  conv => arg 10; simp only [Act.put, List.setIfInBounds_toArray, List.set_cons_succ, List.set_cons_zero]
  refine Go.FreshS.wpF_readsG (by rfl) rfl rfl ?_ (fun w' hw' => ?_) ?_
  rotate_left
  · have hb' := hw'.world
    skip
    clear hw'
    go_simp
    try rfl
  conv => arg 10; simp only [Act.put, List.setIfInBounds_toArray, List.set_cons_succ, List.set_cons_zero]
  refine Go.FreshS.wpF_readsG (by rfl) rfl rfl ?_ (fun w' hw' => ?_) ?_
  rotate_left
  · have hb' := hw'.world
    skip
    clear hw'
    go_simp
    try rfl
  conv => arg 10; simp only [Act.put, List.setIfInBounds_toArray, List.set_cons_succ, List.set_cons_zero]
  refine Go.FreshS.wpF_readsG (by rfl) rfl rfl ?_ (fun w' hw' => ?_) ?_
  rotate_left
  · have hb' := hw'.world
    skip
    clear hw'
    go_simp
    try rfl
  conv => arg 10; simp only [Act.put, List.setIfInBounds_toArray, List.set_cons_succ, List.set_cons_zero]
  refine Go.FreshS.wpF_readsG (by rfl) rfl rfl ?_ (fun w' hw' => ?_) ?_
  rotate_left
  · have hb' := hw'.world
    skip
    clear hw'
    go_simp
    try rfl
  conv => arg 10; simp only [Act.put, List.setIfInBounds_toArray, List.set_cons_succ, List.set_cons_zero]
  refine Go.FreshS.wpF_readsG (by rfl) rfl rfl ?_ (fun w' hw' => ?_) ?_
  rotate_left
  · have hb' := hw'.world
    skip
    clear hw'
    go_simp
    try rfl
  conv => arg 10; simp only [Act.put, List.setIfInBounds_toArray, List.set_cons_succ, List.set_cons_zero]
  refine Go.FreshS.wpF_gspec (by rfl) rfl rfl (fun w' hw' => ?_) ?_
  · have hb' := hw'.world
    refine Go.FreshS.gives_of (Go.FreshS.PM (fun x : FV => x.v) (fun x w' => DF w' w19.heap.size x q23) FV.blk w'.heap.size) ?_ (fun _ _ h => h.post (fun _ _ => FV.inj))
    go_simp
    have CT := ofQ s2 pq w' HRs2.out.1 HRs2.out.2 HRpq.out.1 HRpq.out.2 HNZpq.out
    rw [show ((s2 : Int) : Rat) / ((pq : Int) : Rat) = q23 from Hq23.out.symm] at CT
    refine CT.mono ?_
    rintro e w'' ⟨za, rfl, ho, hb⟩
    exact ⟨_, rfl, ⟨za, rfl, ho.mono hb'.size, ho.blks⟩, hb⟩
  rintro _ ⟨y32, rfl⟩
  conv => arg 10; simp only [Act.put, List.setIfInBounds_toArray, List.set_cons_succ, List.set_cons_zero]
  refine Go.FreshS.wpF_gspec (by rfl) rfl rfl (fun w' hw' => ?_) ?_
  · have hb' := hw'.world
    refine Go.FreshS.gives_of (Go.FreshS.PK (.bool true)) ?_ (fun _ _ h => h.post)
    go_simp
    have f21 := Go.FreshS.made_of (val := (fun x : FV => x.v)) (Φ := fun x w' => DF w' w19.heap.size x q22) (fun _ _ => FV.inj) (hw'.fact 21 (by kernel_rfl))
    have f32 := Go.FreshS.made_of (val := (fun x : FV => x.v)) (Φ := fun x w' => DF w' w19.heap.size x q23) (fun _ _ => FV.inj) (hw'.fact 32 (by kernel_rfl))
    have CT := qsame (f21).k (((f21).k).len LQq22.out (by decide : _ ≤ 900000)) (f32).k (((f32).k).len LQq23.out (by decide : _ ≤ 900000)) (by simp only [Hq23.out, Hq22.out, Hq21.out, Hq20.out, Hq9.out, Hq3.out]; rw [H_s2.out, H_mq.out, H_np.out, H_pq.out]; exact small3 HNZp.out HNZq.out)
    refine CT.mono ?_
    rintro e w'' ⟨rfl, hb⟩
    exact ⟨_, rfl, rfl, hb⟩
  rintro _ rfl
  conv => arg 10; simp only [Act.put, List.setIfInBounds_toArray, List.set_cons_succ, List.set_cons_zero]
  refine Go.FreshS.wpF_reads rfl rfl rfl ?_ (fun w' hw' => ?_) ?_
  rotate_left
  · have hb' := hw'.world
    skip
    clear hw'
    go_simp
    try rfl
  conv => arg 10; simp only [Act.put, List.setIfInBounds_toArray, List.set_cons_succ, List.set_cons_zero]
  refine Go.FreshS.wpF_reads rfl rfl rfl ?_ (fun w' hw' => ?_) ?_
  rotate_left
  · have hb' := hw'.world
    skip
    clear hw'
    go_simp
    try rfl
  conv => arg 10; simp only [Act.put, List.setIfInBounds_toArray, List.set_cons_succ, List.set_cons_zero]
  refine Go.FreshS.wpF_readsG (by rfl) rfl rfl ?_ (fun w' hw' => ?_) ?_
  rotate_left
  · have hb' := hw'.world
    have hs0 := (BX7.out.below hb' BX7.out.lt).cell (i := 0) rfl
    have hs1 := (BX7.out.below hb' BX7.out.lt).cell (i := 1) rfl
    have hs2 := (BX7.out.below hb' BX7.out.lt).cell (i := 2) rfl
    have hs3 := (BX7.out.below hb' BX7.out.lt).cell (i := 3) rfl
    have hsf := (BX7.out.below hb' BX7.out.lt).fz
    have hsl := (BX7.out.below hb' BX7.out.lt).lt
    clear hw'
    go_simp
    try rfl
  conv => arg 10; simp only [Act.put, List.setIfInBounds_toArray, List.set_cons_succ, List.set_cons_zero]
  refine Go.FreshS.wpF_readsG (by rfl) rfl rfl ?_ (fun w' hw' => ?_) ?_
  rotate_left
  · have hb' := hw'.world
    have hs0 := (BX13.out.below hb' BX13.out.lt).cell (i := 0) rfl
    have hs1 := (BX13.out.below hb' BX13.out.lt).cell (i := 1) rfl
    have hs2 := (BX13.out.below hb' BX13.out.lt).cell (i := 2) rfl
    have hs3 := (BX13.out.below hb' BX13.out.lt).cell (i := 3) rfl
    have hsf := (BX13.out.below hb' BX13.out.lt).fz
    have hsl := (BX13.out.below hb' BX13.out.lt).lt
    clear hw'
    go_simp
    try rfl
  conv => arg 10; simp only [Act.put, List.setIfInBounds_toArray, List.set_cons_succ, List.set_cons_zero]
  refine Go.FreshS.wpF_gspec (by rfl) rfl rfl (fun w' hw' => ?_) ?_
  · have hb' := hw'.world
    refine Go.FreshS.gives_of (Go.FreshS.PM (fun x : FV => x.v) (fun x w' => DF w' w19.heap.size x q24) FV.blk w'.heap.size) ?_ (fun _ _ h => h.post (fun _ _ => FV.inj))
    go_simp
    have CT := qmul ((N6.out.below hb')).k.any ((((N6.out.below hb')).k).len LQq3.out (by decide : _ ≤ 900000)) ((N12.out.below hb')).k.any ((((N12.out.below hb')).k).len LQq9.out (by decide : _ ≤ 900000))
    rw [show q3 * q9 = q24 from Hq24.out.symm] at CT
    refine CT.mono ?_
    rintro e w'' ⟨za, rfl, ho, hb⟩
    exact ⟨_, rfl, ⟨za, rfl, ho.mono hb'.size, ho.blks⟩, hb⟩
  rintro _ ⟨y38, rfl⟩
  conv => arg 10; simp only [Act.put, List.setIfInBounds_toArray, List.set_cons_succ, List.set_cons_zero]
  refine Go.FreshS.wpF_readsG (by rfl) rfl rfl ?_ (fun w' hw' => ?_) ?_
  rotate_left
  · have hb' := hw'.world
    skip
    clear hw'
    go_simp
    try rfl
  conv => arg 10; simp only [Act.put, List.setIfInBounds_toArray, List.set_cons_succ, List.set_cons_zero]
  refine Go.FreshS.wpF_readsG (by rfl) rfl rfl ?_ (fun w' hw' => ?_) ?_
  rotate_left
  · have hb' := hw'.world
    skip
    clear hw'
    go_simp
    try rfl
  conv => arg 10; simp only [Act.put, List.setIfInBounds_toArray, List.set_cons_succ, List.set_cons_zero]
  refine Go.FreshS.wpF_readsG (by rfl) rfl rfl ?_ (fun w' hw' => ?_) ?_
  rotate_left
  · have hb' := hw'.world
    skip
    clear hw'
    go_simp
    try rfl
  conv => arg 10; simp only [Act.put, List.setIfInBounds_toArray, List.set_cons_succ, List.set_cons_zero]
  refine Go.FreshS.wpF_readsG (by rfl) rfl rfl ?_ (fun w' hw' => ?_) ?_
  rotate_left
  · have hb' := hw'.world
    skip
    clear hw'
    go_simp
    try rfl
  conv => arg 10; simp only [Act.put, List.setIfInBounds_toArray, List.set_cons_succ, List.set_cons_zero]
  refine Go.FreshS.wpF_readsG (by rfl) rfl rfl ?_ (fun w' hw' => ?_) ?_
  rotate_left
  · have hb' := hw'.world
    skip
    clear hw'
    go_simp
    try rfl
  conv => arg 10; simp only [Act.put, List.setIfInBounds_toArray, List.set_cons_succ, List.set_cons_zero]
  refine Go.FreshS.wpF_readsG (by rfl) rfl rfl ?_ (fun w' hw' => ?_) ?_
  rotate_left
  · have hb' := hw'.world
    skip
    clear hw'
    go_simp
    try rfl
  conv => arg 10; simp only [Act.put, List.setIfInBounds_toArray, List.set_cons_succ, List.set_cons_zero]
  refine Go.FreshS.wpF_gspec (by rfl) rfl rfl (fun w' hw' => ?_) ?_
  · have hb' := hw'.world
    refine Go.FreshS.gives_of (Go.FreshS.PM (fun x : FV => x.v) (fun x w' => DF w' w19.heap.size x q25) FV.blk w'.heap.size) ?_ (fun _ _ h => h.post (fun _ _ => FV.inj))
    go_simp
    have CT := ofQ mn pq w' HRmn.out.1 HRmn.out.2 HRpq.out.1 HRpq.out.2 HNZpq.out
    rw [show ((mn : Int) : Rat) / ((pq : Int) : Rat) = q25 from Hq25.out.symm] at CT
    refine CT.mono ?_
    rintro e w'' ⟨za, rfl, ho, hb⟩
    exact ⟨_, rfl, ⟨za, rfl, ho.mono hb'.size, ho.blks⟩, hb⟩
  rintro _ ⟨y45, rfl⟩
  conv => arg 10; simp only [Act.put, List.setIfInBounds_toArray, List.set_cons_succ, List.set_cons_zero]
  refine Go.FreshS.wpF_gspec (by rfl) rfl rfl (fun w' hw' => ?_) ?_
  · have hb' := hw'.world
    refine Go.FreshS.gives_of (Go.FreshS.PK (.bool true)) ?_ (fun _ _ h => h.post)
    go_simp
    have f38 := Go.FreshS.made_of (val := (fun x : FV => x.v)) (Φ := fun x w' => DF w' w19.heap.size x q24) (fun _ _ => FV.inj) (hw'.fact 38 (by kernel_rfl))
    have f45 := Go.FreshS.made_of (val := (fun x : FV => x.v)) (Φ := fun x w' => DF w' w19.heap.size x q25) (fun _ _ => FV.inj) (hw'.fact 45 (by kernel_rfl))
    have CT := qsame (f38).k (((f38).k).len LQq24.out (by decide : _ ≤ 900000)) (f45).k (((f45).k).len LQq25.out (by decide : _ ≤ 900000)) (by simp only [Hq25.out, Hq24.out, Hq23.out, Hq22.out, Hq21.out, Hq20.out, Hq9.out, Hq3.out]; rw [H_mn.out, H_pq.out]; exact small4 HNZp.out HNZq.out)
    refine CT.mono ?_
    rintro e w'' ⟨rfl, hb⟩
    exact ⟨_, rfl, rfl, hb⟩
  rintro _ rfl
  conv => arg 10; simp only [Act.put, List.setIfInBounds_toArray, List.set_cons_succ, List.set_cons_zero]
  refine Go.FreshS.wpF_reads rfl rfl rfl ?_ (fun w' hw' => ?_) ?_
  rotate_left
  · have hb' := hw'.world
    skip
    clear hw'
    go_simp
    try rfl
  conv => arg 10; simp only [Act.put, List.setIfInBounds_toArray, List.set_cons_succ, List.set_cons_zero]
  refine Go.FreshS.wpF_reads rfl rfl rfl ?_ (fun w' hw' => ?_) ?_
  rotate_left
  · have hb' := hw'.world
    skip
    clear hw'
    go_simp
    try rfl
  conv => arg 10; simp only [Act.put, List.setIfInBounds_toArray, List.set_cons_succ, List.set_cons_zero]
  refine Go.FreshS.wpF_readsG (by rfl) rfl rfl ?_ (fun w' hw' => ?_) ?_
  rotate_left
  · have hb' := hw'.world
    have hs0 := (BX7.out.below hb' BX7.out.lt).cell (i := 0) rfl
    have hs1 := (BX7.out.below hb' BX7.out.lt).cell (i := 1) rfl
    have hs2 := (BX7.out.below hb' BX7.out.lt).cell (i := 2) rfl
    have hs3 := (BX7.out.below hb' BX7.out.lt).cell (i := 3) rfl
    have hsf := (BX7.out.below hb' BX7.out.lt).fz
    have hsl := (BX7.out.below hb' BX7.out.lt).lt
    clear hw'
    go_simp
    try rfl
  conv => arg 10; simp only [Act.put, List.setIfInBounds_toArray, List.set_cons_succ, List.set_cons_zero]
  refine Go.FreshS.wpF_readsG (by rfl) rfl rfl ?_ (fun w' hw' => ?_) ?_
  rotate_left
  · have hb' := hw'.world
    have hs0 := (BX13.out.below hb' BX13.out.lt).cell (i := 0) rfl
    have hs1 := (BX13.out.below hb' BX13.out.lt).cell (i := 1) rfl
    have hs2 := (BX13.out.below hb' BX13.out.lt).cell (i := 2) rfl
    have hs3 := (BX13.out.below hb' BX13.out.lt).cell (i := 3) rfl
    have hsf := (BX13.out.below hb' BX13.out.lt).fz
    have hsl := (BX13.out.below hb' BX13.out.lt).lt
    clear hw'
    go_simp
    try rfl
  conv => arg 10; simp only [Act.put, List.setIfInBounds_toArray, List.set_cons_succ, List.set_cons_zero]
  refine Go.FreshS.wpF_gspec (by rfl) rfl rfl (fun w' hw' => ?_) ?_
  · have hb' := hw'.world
    refine Go.FreshS.gives_of (Go.FreshS.PK (.int .i64 cc)) ?_ (fun _ _ h => h.post)
    go_simp
    have CT := qcmp ((N6.out.below hb')).k.any ((((N6.out.below hb')).k).len LQq3.out (by decide : _ ≤ 900000)) ((N12.out.below hb')).k.any ((((N12.out.below hb')).k).len LQq9.out (by decide : _ ≤ 900000))
    rw [show cmpQ q3 q9 = cc from by simp only [Hq25.out, Hq24.out, Hq23.out, Hq22.out, Hq21.out, Hq20.out, Hq9.out, Hq3.out]; exact HCC.out.symm] at CT
    refine CT.mono ?_
    rintro e w'' ⟨rfl, hb⟩
    exact ⟨_, rfl, rfl, hb⟩
  rintro _ rfl
  conv => arg 10; simp only [Act.put, List.setIfInBounds_toArray, List.set_cons_succ, List.set_cons_zero]
  refine Go.FreshS.wpF_readsG (by rfl) rfl rfl ?_ (fun w' hw' => ?_) ?_
  rotate_left
  · have hb' := hw'.world
    skip
    clear hw'
    go_simp
    try rfl
  conv => arg 10; simp only [Act.put, List.setIfInBounds_toArray, List.set_cons_succ, List.set_cons_zero]
  refine Go.FreshS.wpF_readsG (by rfl) rfl rfl ?_ (fun w' hw' => ?_) ?_
  rotate_left
  · have hb' := hw'.world
    skip
    clear hw'
    go_simp
    try rfl
  conv => arg 10; simp only [Act.put, List.setIfInBounds_toArray, List.set_cons_succ, List.set_cons_zero]
  refine Go.FreshS.wpF_readsG (by rfl) rfl rfl ?_ (fun w' hw' => ?_) ?_
  rotate_left
  · have hb' := hw'.world
    skip
    clear hw'
    go_simp
    try rfl
  conv => arg 10; simp only [Act.put, List.setIfInBounds_toArray, List.set_cons_succ, List.set_cons_zero]
  refine Go.FreshS.wpF_readsG (by rfl) rfl rfl ?_ (fun w' hw' => ?_) ?_
  rotate_left
  · have hb' := hw'.world
    skip
    clear hw'
    go_simp
    try rfl
  conv => arg 10; simp only [Act.put, List.setIfInBounds_toArray, List.set_cons_succ, List.set_cons_zero]
  refine Go.FreshS.wpF_readsG (by rfl) rfl rfl ?_ (fun w' hw' => ?_) ?_
  rotate_left
  · have hb' := hw'.world
    skip
    clear hw'
    go_simp
    try rfl
  conv => arg 10; simp only [Act.put, List.setIfInBounds_toArray, List.set_cons_succ, List.set_cons_zero]
  refine Go.FreshS.wpF_readsG (by rfl) rfl rfl ?_ (fun w' hw' => ?_) ?_
  rotate_left
  · have hb' := hw'.world
    skip
    clear hw'
    go_simp
    try rfl
  conv => arg 10; simp only [Act.put, List.setIfInBounds_toArray, List.set_cons_succ, List.set_cons_zero]
  refine Go.FreshS.wpF_readsG (by rfl) rfl rfl ?_ (fun w' hw' => ?_) ?_
  rotate_left
  · have hb' := hw'.world
    skip
    clear hw'
    go_simp
    try rfl
  conv => arg 10; simp only [Act.put, List.setIfInBounds_toArray, List.set_cons_succ, List.set_cons_zero]
  refine Go.FreshS.wpF_readsG (by rfl) rfl rfl ?_ (fun w' hw' => ?_) ?_
  rotate_left
  · have hb' := hw'.world
    skip
    clear hw'
    go_simp
    try rfl
  conv => arg 10; simp only [Act.put, List.setIfInBounds_toArray, List.set_cons_succ, List.set_cons_zero]
  refine Go.FreshS.wpF_readsG (by rfl) rfl rfl ?_ (fun w' hw' => ?_) ?_
  rotate_left
  · have hb' := hw'.world
    skip
    clear hw'
    go_simp
    try rfl
  conv => arg 10; simp only [Act.put, List.setIfInBounds_toArray, List.set_cons_succ, List.set_cons_zero]
  refine Go.FreshS.wpF_reads rfl rfl rfl ?_ (fun w' hw' => ?_) ?_
  rotate_left
  · have hb' := hw'.world
    skip
    clear hw'
    go_simp
    try rfl
  conv => arg 10; simp only [Act.put, List.setIfInBounds_toArray, List.set_cons_succ, List.set_cons_zero]
  refine Go.FreshS.wpF_reads rfl rfl rfl ?_ (fun w' hw' => ?_) ?_
  rotate_left
  · have hb' := hw'.world
    skip
    clear hw'
    go_simp
    try rfl
  conv => arg 10; simp only [Act.put, List.setIfInBounds_toArray, List.set_cons_succ, List.set_cons_zero]
  refine Go.FreshS.wpF_readsG (by rfl) rfl rfl ?_ (fun w' hw' => ?_) ?_
  rotate_left
  · have hb' := hw'.world
    have hs0 := (BX7.out.below hb' BX7.out.lt).cell (i := 0) rfl
    have hs1 := (BX7.out.below hb' BX7.out.lt).cell (i := 1) rfl
    have hs2 := (BX7.out.below hb' BX7.out.lt).cell (i := 2) rfl
    have hs3 := (BX7.out.below hb' BX7.out.lt).cell (i := 3) rfl
    have hsf := (BX7.out.below hb' BX7.out.lt).fz
    have hsl := (BX7.out.below hb' BX7.out.lt).lt
    clear hw'
    go_simp
    try rfl
  conv => arg 10; simp only [Act.put, List.setIfInBounds_toArray, List.set_cons_succ, List.set_cons_zero]
  refine Go.FreshS.wpF_gspec (by rfl) rfl rfl (fun w' hw' => ?_) ?_
  · have hb' := hw'.world
    refine Go.FreshS.gives_of (Go.FreshS.PK (.bool wb)) ?_ (fun _ _ h => h.post)
    go_simp
    have CT := qwhole x5 q3 w' ((N6.out.below hb')).k.any ((((N6.out.below hb')).k).len LQq3.out (by decide : _ ≤ 100)) (LQq3.out.up (by decide : _ ≤ 101))
    rw [show decide ((q3.den : Int) = 1) = wb from by simp only [Hq25.out, Hq24.out, Hq23.out, Hq22.out, Hq21.out, Hq20.out, Hq9.out, Hq3.out]; exact HWB.out] at CT
    refine CT.mono ?_
    rintro e w'' ⟨rfl, hb⟩
    exact ⟨_, rfl, rfl, hb⟩
  rintro _ rfl
  conv => arg 10; simp only [Act.put, List.setIfInBounds_toArray, List.set_cons_succ, List.set_cons_zero]
  refine Go.FreshS.wpF_readsG (by rfl) rfl rfl ?_ (fun w' hw' => ?_) ?_
  rotate_left
  · have hb' := hw'.world
    skip
    clear hw'
    go_simp
    try rfl
  conv => arg 10; simp only [Act.put, List.setIfInBounds_toArray, List.set_cons_succ, List.set_cons_zero]
  refine Go.FreshS.wpF_readsG (by rfl) rfl rfl ?_ (fun w' hw' => ?_) ?_
  rotate_left
  · have hb' := hw'.world
    skip
    clear hw'
    go_simp
    try rfl
  conv => arg 10; simp only [Act.put, List.setIfInBounds_toArray, List.set_cons_succ, List.set_cons_zero]
  refine Go.FreshS.wpF_readsG (by rfl) rfl rfl ?_ (fun w' hw' => ?_) ?_
  rotate_left
  · have hb' := hw'.world
    have fp1 : ¬ (p = 0) := HNZp.out
    clear hw'
    go_simp
    try rfl
  conv => arg 10; simp only [Act.put, List.setIfInBounds_toArray, List.set_cons_succ, List.set_cons_zero]
  refine Go.FreshS.wpF_readsG (by rfl) rfl rfl ?_ (fun w' hw' => ?_) ?_
  rotate_left
  · have hb' := hw'.world
    skip
    clear hw'
    go_simp
    try rfl
  conv => arg 10; simp only [Act.put, List.setIfInBounds_toArray, List.set_cons_succ, List.set_cons_zero]
  refine Go.FreshS.wpF_readsG (by rfl) rfl rfl ?_ (fun w' hw' => ?_) ?_
  rotate_left
  · have hb' := hw'.world
    skip
    clear hw'
    go_simp
    try rfl
  conv => arg 10; simp only [Act.put, List.setIfInBounds_toArray, List.set_cons_succ, List.set_cons_zero]
  refine Go.FreshS.wpF_reads rfl rfl rfl ?_ (fun w' hw' => ?_) ?_
  rotate_left
  · have hb' := hw'.world
    skip
    clear hw'
    go_simp
    try rfl
  conv => arg 10; simp only [Act.put, List.setIfInBounds_toArray, List.set_cons_succ, List.set_cons_zero]
  refine Go.FreshS.wpF_reads rfl rfl rfl ?_ (fun w' hw' => ?_) ?_
  rotate_left
  · have hb' := hw'.world
    skip
    clear hw'
    go_simp
    try rfl
  conv => arg 10; simp only [Act.put, List.setIfInBounds_toArray, List.set_cons_succ, List.set_cons_zero]
  refine Go.FreshS.wpF_readsG (by rfl) rfl rfl ?_ (fun w' hw' => ?_) ?_
  rotate_left
  · have hb' := hw'.world
    skip
    clear hw'
    go_simp
    try rfl
  conv => arg 10; simp only [Act.put, List.setIfInBounds_toArray, List.set_cons_succ, List.set_cons_zero]
  refine Go.FreshS.wpF_gspec (by rfl) rfl rfl (fun w' hw' => ?_) ?_
  · have hb' := hw'.world
    refine Go.FreshS.gives_of (Go.FreshS.PM (fun x : FV => x.v) (fun x w' => DF w' w19.heap.size x q26) FV.blk w'.heap.size) ?_ (fun _ _ h => h.post (fun _ _ => FV.inj))
    go_simp
    have CT := qof m w' HRm.out.1 HRm.out.2
    rw [show ((m : Int) : Rat) = q26 from Hq26.out.symm] at CT
    refine CT.mono ?_
    rintro e w'' ⟨za, rfl, ho, hb⟩
    exact ⟨_, rfl, ⟨za, rfl, ho.mono hb'.size, ho.blks⟩, hb⟩
  rintro _ ⟨y73, rfl⟩
  conv => arg 10; simp only [Act.put, List.setIfInBounds_toArray, List.set_cons_succ, List.set_cons_zero]
  refine Go.FreshS.wpF_readsG (by rfl) rfl rfl ?_ (fun w' hw' => ?_) ?_
  rotate_left
  · have hb' := hw'.world
    skip
    clear hw'
    go_simp
    try rfl
  conv => arg 10; simp only [Act.put, List.setIfInBounds_toArray, List.set_cons_succ, List.set_cons_zero]
  refine Go.FreshS.wpF_gspec (by rfl) rfl rfl (fun w' hw' => ?_) ?_
  · have hb' := hw'.world
    refine Go.FreshS.gives_of (Go.FreshS.PM (fun x : FV => x.v) (fun x w' => DF w' w19.heap.size x q27) FV.blk w'.heap.size) ?_ (fun _ _ h => h.post (fun _ _ => FV.inj))
    go_simp
    have CT := ofQ m 1 w' HRm.out.1 HRm.out.2 (by decide) (by decide) (by decide)
    rw [show ((m : Int) : Rat) / ((1 : Int) : Rat) = q27 from Hq27.out.symm] at CT
    refine CT.mono ?_
    rintro e w'' ⟨za, rfl, ho, hb⟩
    exact ⟨_, rfl, ⟨za, rfl, ho.mono hb'.size, ho.blks⟩, hb⟩
  rintro _ ⟨y75, rfl⟩
  conv => arg 10; simp only [Act.put, List.setIfInBounds_toArray, List.set_cons_succ, List.set_cons_zero]
  refine Go.FreshS.wpF_gspec (by rfl) rfl rfl (fun w' hw' => ?_) ?_
  · have hb' := hw'.world
    refine Go.FreshS.gives_of (Go.FreshS.PK (.bool true)) ?_ (fun _ _ h => h.post)
    go_simp
    have f73 := Go.FreshS.made_of (val := (fun x : FV => x.v)) (Φ := fun x w' => DF w' w19.heap.size x q26) (fun _ _ => FV.inj) (hw'.fact 73 (by kernel_rfl))
    have f75 := Go.FreshS.made_of (val := (fun x : FV => x.v)) (Φ := fun x w' => DF w' w19.heap.size x q27) (fun _ _ => FV.inj) (hw'.fact 75 (by kernel_rfl))
    have CT := qsame (f73).k (((f73).k).len LQq26.out (by decide : _ ≤ 900000)) (f75).k (((f75).k).len LQq27.out (by decide : _ ≤ 900000)) (by simp only [Hq27.out, Hq26.out, Hq25.out, Hq24.out, Hq23.out, Hq22.out, Hq21.out, Hq20.out, Hq9.out, Hq3.out]; exact small5 m)
    refine CT.mono ?_
    rintro e w'' ⟨rfl, hb⟩
    exact ⟨_, rfl, rfl, hb⟩
  rintro _ rfl
  conv => arg 10; simp only [Act.put, List.setIfInBounds_toArray, List.set_cons_succ, List.set_cons_zero]
  refine Go.FreshS.wpF_reads rfl rfl rfl ?_ (fun w' hw' => ?_) ?_
  rotate_left
  · have hb' := hw'.world
    skip
    clear hw'
    go_simp
    try rfl
  conv => arg 10; simp only [Act.put, List.setIfInBounds_toArray, List.set_cons_succ, List.set_cons_zero]
  refine Go.FreshS.wpF_reads rfl rfl rfl ?_ (fun w' hw' => ?_) ?_
  rotate_left
  · have hb' := hw'.world
    skip
    clear hw'
    go_simp
    try rfl
  conv => arg 10; simp only [Act.put, List.setIfInBounds_toArray, List.set_cons_succ, List.set_cons_zero]
  refine Go.FreshS.wpF_readsG (by rfl) rfl rfl ?_ (fun w' hw' => ?_) ?_
  rotate_left
  · have hb' := hw'.world
    skip
    clear hw'
    go_simp
    try rfl
  conv => arg 10; simp only [Act.put, List.setIfInBounds_toArray, List.set_cons_succ, List.set_cons_zero]
  refine Go.FreshS.wpF_readsG (by rfl) rfl rfl ?_ (fun w' hw' => ?_) ?_
  rotate_left
  · have hb' := hw'.world
    skip
    clear hw'
    go_simp
    try rfl
  conv => arg 10; simp only [Act.put, List.setIfInBounds_toArray, List.set_cons_succ, List.set_cons_zero]
  refine Go.FreshS.wpF_readsG (by rfl) rfl rfl ?_ (fun w' hw' => ?_) ?_
  rotate_left
  · have hb' := hw'.world
    skip
    clear hw'
    go_simp
    try rfl
  conv => arg 10; simp only [Act.put, List.setIfInBounds_toArray, List.set_cons_succ, List.set_cons_zero]
  refine Go.FreshS.wpF_readsG (by rfl) rfl rfl ?_ (fun w' hw' => ?_) ?_
  rotate_left
  · have hb' := hw'.world
    skip
    clear hw'
    go_simp
    try rfl
  conv => arg 10; simp only [Act.put, List.setIfInBounds_toArray, List.set_cons_succ, List.set_cons_zero]
  refine Go.FreshS.wpF_gspec (by rfl) rfl rfl (fun w' hw' => ?_) ?_
  · have hb' := hw'.world
    refine Go.FreshS.gives_of (Go.FreshS.PM (fun x : FV => x.v) (fun x w' => DF w' w19.heap.size x q28) FV.blk w'.heap.size) ?_ (fun _ _ h => h.post (fun _ _ => FV.inj))
    go_simp
    have CT := ofQ nm ngp w' HRnm.out.1 HRnm.out.2 HRngp.out.1 HRngp.out.2 HNZngp.out
    rw [show ((nm : Int) : Rat) / ((ngp : Int) : Rat) = q28 from Hq28.out.symm] at CT
    refine CT.mono ?_
    rintro e w'' ⟨za, rfl, ho, hb⟩
    exact ⟨_, rfl, ⟨za, rfl, ho.mono hb'.size, ho.blks⟩, hb⟩
  rintro _ ⟨y83, rfl⟩
  conv => arg 10; simp only [Act.put, List.setIfInBounds_toArray, List.set_cons_succ, List.set_cons_zero]
  refine Go.FreshS.wpF_readsG (by rfl) rfl rfl ?_ (fun w' hw' => ?_) ?_
  rotate_left
  · have hb' := hw'.world
    have hs0 := (BX7.out.below hb' BX7.out.lt).cell (i := 0) rfl
    have hs1 := (BX7.out.below hb' BX7.out.lt).cell (i := 1) rfl
    have hs2 := (BX7.out.below hb' BX7.out.lt).cell (i := 2) rfl
    have hs3 := (BX7.out.below hb' BX7.out.lt).cell (i := 3) rfl
    have hsf := (BX7.out.below hb' BX7.out.lt).fz
    have hsl := (BX7.out.below hb' BX7.out.lt).lt
    clear hw'
    go_simp
    try rfl
  conv => arg 10; simp only [Act.put, List.setIfInBounds_toArray, List.set_cons_succ, List.set_cons_zero]
  refine Go.FreshS.wpF_gspec (by rfl) rfl rfl (fun w' hw' => ?_) ?_
  · have hb' := hw'.world
    refine Go.FreshS.gives_of (Go.FreshS.PK (.bool true)) ?_ (fun _ _ h => h.post)
    go_simp
    have f83 := Go.FreshS.made_of (val := (fun x : FV => x.v)) (Φ := fun x w' => DF w' w19.heap.size x q28) (fun _ _ => FV.inj) (hw'.fact 83 (by kernel_rfl))
    have CT := qsame (f83).k (((f83).k).len LQq28.out (by decide : _ ≤ 900000)) ((N6.out.below hb')).k ((((N6.out.below hb')).k).len LQq3.out (by decide : _ ≤ 900000)) (by simp only [Hq28.out, Hq27.out, Hq26.out, Hq25.out, Hq24.out, Hq23.out, Hq22.out, Hq21.out, Hq20.out, Hq9.out, Hq3.out]; rw [H_nm.out, H_ngp.out]; exact small6 HNZp.out)
    refine CT.mono ?_
    rintro e w'' ⟨rfl, hb⟩
    exact ⟨_, rfl, rfl, hb⟩
  rintro _ rfl
  conv => arg 10; simp only [Act.put, List.setIfInBounds_toArray, List.set_cons_succ, List.set_cons_zero]
  refine Go.FreshS.wpF_reads rfl rfl rfl ?_ (fun w' hw' => ?_) ?_
  rotate_left
  · have hb' := hw'.world
    skip
    clear hw'
    go_simp
    try rfl
  conv => arg 10; simp only [Act.put, List.setIfInBounds_toArray, List.set_cons_succ, List.set_cons_zero]
  refine Go.FreshS.wpF_reads rfl rfl rfl ?_ (fun w' hw' => ?_) ?_
  rotate_left
  · have hb' := hw'.world
    skip
    clear hw'
    go_simp
    try rfl
  conv => arg 10; simp only [Act.put, List.setIfInBounds_toArray, List.set_cons_succ, List.set_cons_zero]
  refine Go.FreshS.wpF_readsG (by rfl) rfl rfl ?_ (fun w' hw' => ?_) ?_
  rotate_left
  · have hb' := hw'.world
    skip
    clear hw'
    go_simp
    try rfl
  conv => arg 10; simp only [Act.put, List.setIfInBounds_toArray, List.set_cons_succ, List.set_cons_zero]
  refine Go.FreshS.wpF_readsG (by rfl) rfl rfl ?_ (fun w' hw' => ?_) ?_
  rotate_left
  · have hb' := hw'.world
    skip
    clear hw'
    go_simp
    try rfl
  conv => arg 10; simp only [Act.put, List.setIfInBounds_toArray, List.set_cons_succ, List.set_cons_zero]
  refine Go.FreshS.wpF_readsG (by rfl) rfl rfl ?_ (fun w' hw' => ?_) ?_
  rotate_left
  · have hb' := hw'.world
    skip
    clear hw'
    go_simp
    try rfl
  conv => arg 10; simp only [Act.put, List.setIfInBounds_toArray, List.set_cons_succ, List.set_cons_zero]
  refine Go.FreshS.wpF_gspec (by rfl) rfl rfl (fun w' hw' => ?_) ?_
  · have hb' := hw'.world
    refine Go.FreshS.gives_of (Go.FreshS.PM (fun x : FV => x.v) (fun x w' => DF w' w19.heap.size x q29) FV.blk w'.heap.size) ?_ (fun _ _ h => h.post (fun _ _ => FV.inj))
    go_simp
    have CT := ofQ m ngp w' HRm.out.1 HRm.out.2 HRngp.out.1 HRngp.out.2 HNZngp.out
    rw [show ((m : Int) : Rat) / ((ngp : Int) : Rat) = q29 from Hq29.out.symm] at CT
    refine CT.mono ?_
    rintro e w'' ⟨za, rfl, ho, hb⟩
    exact ⟨_, rfl, ⟨za, rfl, ho.mono hb'.size, ho.blks⟩, hb⟩
  rintro _ ⟨y91, rfl⟩
  conv => arg 10; simp only [Act.put, List.setIfInBounds_toArray, List.set_cons_succ, List.set_cons_zero]
  refine Go.FreshS.wpF_gspec (by rfl) rfl rfl (fun w' hw' => ?_) ?_
  · have hb' := hw'.world
    refine Go.FreshS.gives_of (Go.FreshS.PK (.int .i64 sy)) ?_ (fun _ _ h => h.post)
    go_simp
    have f91 := Go.FreshS.made_of (val := (fun x : FV => x.v)) (Φ := fun x w' => DF w' w19.heap.size x q29) (fun _ _ => FV.inj) (hw'.fact 91 (by kernel_rfl))
    have CT := qsign (f91).k.any (((f91).k).len LQq29.out (by decide : _ ≤ 900000))
    rw [show cmpZ q29.num 0 = sy from by simp only [Hq29.out, Hq28.out, Hq27.out, Hq26.out, Hq25.out, Hq24.out, Hq23.out, Hq22.out, Hq21.out, Hq20.out, Hq9.out, Hq3.out]; exact HSY.out.symm] at CT
    refine CT.mono ?_
    rintro e w'' ⟨rfl, hb⟩
    exact ⟨_, rfl, rfl, hb⟩
  rintro _ rfl
  conv => arg 10; simp only [Act.put, List.setIfInBounds_toArray, List.set_cons_succ, List.set_cons_zero]
  refine Go.FreshS.wpF_readsG (by rfl) rfl rfl ?_ (fun w' hw' => ?_) ?_
  rotate_left
  · have hb' := hw'.world
    have hs0 := (BX7.out.below hb' BX7.out.lt).cell (i := 0) rfl
    have hs1 := (BX7.out.below hb' BX7.out.lt).cell (i := 1) rfl
    have hs2 := (BX7.out.below hb' BX7.out.lt).cell (i := 2) rfl
    have hs3 := (BX7.out.below hb' BX7.out.lt).cell (i := 3) rfl
    have hsf := (BX7.out.below hb' BX7.out.lt).fz
    have hsl := (BX7.out.below hb' BX7.out.lt).lt
    clear hw'
    go_simp
    try rfl
  conv => arg 10; simp only [Act.put, List.setIfInBounds_toArray, List.set_cons_succ, List.set_cons_zero]
  refine Go.FreshS.wpF_gspec (by rfl) rfl rfl (fun w' hw' => ?_) ?_
  · have hb' := hw'.world
    refine Go.FreshS.gives_of (Go.FreshS.PK (.int .i64 sx)) ?_ (fun _ _ h => h.post)
    go_simp
    have CT := qsign ((N6.out.below hb')).k.any ((((N6.out.below hb')).k).len LQq3.out (by decide : _ ≤ 900000))
    rw [show cmpZ q3.num 0 = sx from by simp only [Hq29.out, Hq28.out, Hq27.out, Hq26.out, Hq25.out, Hq24.out, Hq23.out, Hq22.out, Hq21.out, Hq20.out, Hq9.out, Hq3.out]; exact HSX.out.symm] at CT
    refine CT.mono ?_
    rintro e w'' ⟨rfl, hb⟩
    exact ⟨_, rfl, rfl, hb⟩
  rintro _ rfl
  conv => arg 10; simp only [Act.put, List.setIfInBounds_toArray, List.set_cons_succ, List.set_cons_zero]
  refine Go.FreshS.wpF_readsG (by rfl) rfl rfl ?_ (fun w' hw' => ?_) ?_
  rotate_left
  · have hb' := hw'.world
    skip
    clear hw'
    go_simp
    try rfl
  conv => arg 10; simp only [Act.put, List.setIfInBounds_toArray, List.set_cons_succ, List.set_cons_zero]
  refine Go.FreshS.wpF_readsG (by rfl) rfl rfl ?_ (fun w' hw' => ?_) ?_
  rotate_left
  · have hb' := hw'.world
    skip
    clear hw'
    go_simp
    try rfl
  conv => arg 10; simp only [Act.put, List.setIfInBounds_toArray, List.set_cons_succ, List.set_cons_zero]
  refine Go.FreshS.wpF_reads rfl rfl rfl ?_ (fun w' hw' => ?_) ?_
  rotate_left
  · have hb' := hw'.world
    skip
    clear hw'
    go_simp
    try rfl
  conv => arg 10; simp only [Act.put, List.setIfInBounds_toArray, List.set_cons_succ, List.set_cons_zero]
  refine Go.FreshS.wpF_nil (fun w30 hb hF => ?_)
  clear hF
  clear N6
  clear N12
  clear BX7
  clear BX13
  have KG := Lib.hid (KG.out.trans (hb.mono KG.out.size))
  clear hb
  go_wp2_with fail
  go_ret
  exact ⟨rfl, KG.out⟩
set_option maxRecDepth 100000 in
set_option maxHeartbeats 8000000 in
theorem small_ok (m n b0 b1 : Int) (w : World) (htab : Tab w) (hm : -32768 ≤ m ∧ m ≤ 32767) (hn : -32768 ≤ n ∧ n ≤ 32767) (hb0 : 0 ≤ b0 ∧ b0 ≤ 65535) (hb1 : 0 ≤ b1 ∧ b1 ≤ 65535) (hz : n ≠ 0) : Calls Tryz.prog 9 #[.int .i16 m, .int .i16 n, .agg #[.int .u16 b0, .int .u16 b1]] w fun e w' => e = .returned (.bool true) ∧ Below w.heap.size w w' := by
  have HT := Lib.hid htab
  have KG := Lib.hid (Below.refl w.heap.size w)
  clear htab
  obtain ⟨p, hp⟩ : ∃ z : Int, z = b0 + 1 := ⟨_, rfl⟩
  obtain ⟨q, hq⟩ : ∃ z : Int, z = b1 + 1 := ⟨_, rfl⟩
  have em : IntKind.i64.wrap m = m := IntWalk.i64_in _ (by omega)
  have en : IntKind.i64.wrap n = n := IntWalk.i64_in _ (by omega)
  have eb0 : IntKind.i64.wrap b0 = b0 := IntWalk.i64_in _ (by omega)
  have eb1 : IntKind.i64.wrap b1 = b1 := IntWalk.i64_in _ (by omega)
  have ep : IntKind.i64.wrap (b0 + 1) = p := by rw [hp]; exact IntWalk.i64_in _ (by omega)
  have eqq : IntKind.i64.wrap (b1 + 1) = q := by rw [hq]; exact IntWalk.i64_in _ (by omega)
  have HRm := Lib.hid (show -9223372036854775808 ≤ m ∧ m ≤ 9223372036854775807 by omega)
  have HRn := Lib.hid (show -9223372036854775808 ≤ n ∧ n ≤ 9223372036854775807 by omega)
  have HRp := Lib.hid (show -9223372036854775808 ≤ p ∧ p ≤ 9223372036854775807 by omega)
  have HRq := Lib.hid (show -9223372036854775808 ≤ q ∧ q ≤ 9223372036854775807 by omega)
  have HNZp := Lib.hid (show p ≠ 0 by omega)
  have HNZq := Lib.hid (show q ≠ 0 by omega)
  have HP := Lib.hid (show 0 < p by omega)
  have HQ := Lib.hid (show 0 < q by omega)
  have kmq := smallB (m := m) (p := q) (M := 32768) (P := 65536) (by omega) (by omega)
  have knp := smallB (m := n) (p := p) (M := 32768) (P := 65536) (by omega) (by omega)
  have kpn := smallB (m := p) (p := n) (M := 65536) (P := 32768) (by omega) (by omega)
  have kpq := smallB (m := p) (p := q) (M := 65536) (P := 65536) (by omega) (by omega)
  have kmn := smallB (m := m) (p := n) (M := 32768) (P := 32768) (by omega) (by omega)
  obtain ⟨mq, hmq⟩ : ∃ z : Int, z = m * q := ⟨_, rfl⟩
  have emq : IntKind.i64.wrap (m * q) = mq := by rw [hmq]; exact IntWalk.i64_in _ (by omega)
  have HRmq := Lib.hid (show -9223372036854775808 ≤ mq ∧ mq ≤ 9223372036854775807 by rw [hmq]; omega)
  have H_mq := Lib.hid hmq
  obtain ⟨np, hnp⟩ : ∃ z : Int, z = n * p := ⟨_, rfl⟩
  have enp : IntKind.i64.wrap (n * p) = np := by rw [hnp]; exact IntWalk.i64_in _ (by omega)
  have HRnp := Lib.hid (show -9223372036854775808 ≤ np ∧ np ≤ 9223372036854775807 by rw [hnp]; omega)
  have H_np := Lib.hid hnp
  obtain ⟨pn, hpn⟩ : ∃ z : Int, z = p * n := ⟨_, rfl⟩
  have epn : IntKind.i64.wrap (p * n) = pn := by rw [hpn]; exact IntWalk.i64_in _ (by omega)
  have HRpn := Lib.hid (show -9223372036854775808 ≤ pn ∧ pn ≤ 9223372036854775807 by rw [hpn]; omega)
  have H_pn := Lib.hid hpn
  obtain ⟨pq, hpq⟩ : ∃ z : Int, z = p * q := ⟨_, rfl⟩
  have epq : IntKind.i64.wrap (p * q) = pq := by rw [hpq]; exact IntWalk.i64_in _ (by omega)
  have HRpq := Lib.hid (show -9223372036854775808 ≤ pq ∧ pq ≤ 9223372036854775807 by rw [hpq]; omega)
  have H_pq := Lib.hid hpq
  obtain ⟨mn, hmn⟩ : ∃ z : Int, z = m * n := ⟨_, rfl⟩
  have emn : IntKind.i64.wrap (m * n) = mn := by rw [hmn]; exact IntWalk.i64_in _ (by omega)
  have HRmn := Lib.hid (show -9223372036854775808 ≤ mn ∧ mn ≤ 9223372036854775807 by rw [hmn]; omega)
  have H_mn := Lib.hid hmn
  rw [← hmq] at kmq
  rw [← hnp] at knp
  obtain ⟨s1, hs1⟩ : ∃ z : Int, z = mq + np := ⟨_, rfl⟩
  have es1 : IntKind.i64.wrap (mq + np) = s1 := by rw [hs1]; exact IntWalk.i64_in _ (by omega)
  have HRs1 := Lib.hid (show -9223372036854775808 ≤ s1 ∧ s1 ≤ 9223372036854775807 by rw [hs1]; omega)
  have H_s1 := Lib.hid hs1
  obtain ⟨s2, hs2⟩ : ∃ z : Int, z = mq - np := ⟨_, rfl⟩
  have es2 : IntKind.i64.wrap (mq - np) = s2 := by rw [hs2]; exact IntWalk.i64_in _ (by omega)
  have HRs2 := Lib.hid (show -9223372036854775808 ≤ s2 ∧ s2 ≤ 9223372036854775807 by rw [hs2]; omega)
  have H_s2 := Lib.hid hs2
  obtain ⟨nm, hnm⟩ : ∃ z : Int, z = -m := ⟨_, rfl⟩
  have enm : IntKind.i64.wrap (-m) = nm := by rw [hnm]; exact IntWalk.i64_in _ (by omega)
  have HRnm := Lib.hid (show -9223372036854775808 ≤ nm ∧ nm ≤ 9223372036854775807 by rw [hnm]; omega)
  have H_nm := Lib.hid hnm
  obtain ⟨ngp, hngp⟩ : ∃ z : Int, z = -p := ⟨_, rfl⟩
  have engp : IntKind.i64.wrap (-p) = ngp := by rw [hngp]; exact IntWalk.i64_in _ (by omega)
  have HRngp := Lib.hid (show -9223372036854775808 ≤ ngp ∧ ngp ≤ 9223372036854775807 by rw [hngp]; omega)
  have H_ngp := Lib.hid hngp
  have HNZpq := Lib.hid (show pq ≠ 0 by rw [hpq]; exact Int.mul_ne_zero HNZp.out HNZq.out)
  have HNZngp := Lib.hid (show ngp ≠ 0 by have := HNZp.out; omega)
  have fp0 : (p == 0) = false := by have := HNZp.out; simpa using this
  obtain ⟨tm, htm⟩ : ∃ z : Int, z = m.tmod p := ⟨_, rfl⟩
  have etm : m.tmod p = tm := htm.symm
  obtain ⟨wb, hwb⟩ : ∃ b, b = (tm == 0) := ⟨_, rfl⟩
  have ewb : (tm == 0) = wb := hwb.symm
  have etmw : IntKind.i64.wrap tm = tm := by rw [htm]; have h1 := Int.natAbs_tmod m p; have h2 := Nat.mod_le m.natAbs p.natAbs; exact IntWalk.i64_in _ (by omega)
  have HWB := Lib.hid (show decide (((((m : Rat) / (p : Rat)).den : Nat) : Int) = 1) = wb by rw [hwb, htm, show (m.tmod p == 0) = decide (m.tmod p = 0) from rfl]; exact decide_eq_decide.2 (small9 HP.out))
  obtain ⟨cc, hcc⟩ : ∃ z : Int, z = cmpQ ((m : Rat) / (p : Rat)) ((n : Rat) / (q : Rat)) := ⟨_, rfl⟩
  obtain ⟨qb, hqb⟩ : ∃ b, b = decide (mq < np) := ⟨_, rfl⟩
  have eqb : decide (mq < np) = qb := hqb.symm
  have ecc : (cc == -1) = qb := by
    rw [hqb, hmq, hnp, hcc]
    rcases cmpQ_cases ((m : Rat) / (p : Rat)) ((n : Rat) / (q : Rat)) with ⟨h, e⟩ | ⟨h, e⟩ | ⟨h, e⟩ <;> rw [e]
    · rw [decide_eq_true ((small8 HP.out HQ.out).1 h)]; rfl
    · rw [decide_eq_false (fun k => absurd ((small8 HP.out HQ.out).2 k) (by rw [h]; exact Rat.lt_irrefl))]; rfl
    · rw [decide_eq_false (fun k => absurd ((small8 HP.out HQ.out).2 k) (by have := Rat.le_of_lt h; exact Rat.not_lt.2 this))]; rfl
  have HCC := Lib.hid hcc
  obtain ⟨sx, hsx⟩ : ∃ z : Int, z = cmpZ ((m : Rat) / (p : Rat)).num 0 := ⟨_, rfl⟩
  obtain ⟨sy, hsy⟩ : ∃ z : Int, z = cmpZ ((m : Rat) / ((ngp : Int) : Rat)).num 0 := ⟨_, rfl⟩
  have esy : IntKind.i64.wrap (-sx) = sy := by
    rw [hsy, hngp, small7 HNZp.out, sgQ_neg, ← hsx]
    have := cmpZ_range ((m : Rat) / (p : Rat)).num 0
    exact IntWalk.i64_in _ (by omega)
  have HSX := Lib.hid hsx
  have HSY := Lib.hid hsy
  clear hmq hnp hpn hpq hmn hs1 hs2 hnm hngp htm hwb hcc hqb hsx hsy hp hq hm hn hb0 hb1 kmq knp kpn kpq kmn
  have e0 : (n == 0) = false := by simpa using hz
  have e1 : (n != 0) = true := by simpa using hz
  have HN0 := Lib.hid hz
  have HNZpn := Lib.hid (show pn ≠ 0 by rw [H_pn.out]; exact Int.mul_ne_zero HNZp.out hz)
  clear hz
  obtain ⟨q3, hq3⟩ : ∃ z : Rat, z = ((m : Int) : Rat) / ((p : Int) : Rat) := ⟨_, rfl⟩
  have Hq3 := Lib.hid hq3
  have LQq3 := Lib.hid (show LQ q3 3 by rw [hq3]; exact LQ.of HRm.out.1 HRm.out.2 HRp.out.1 HRp.out.2 HNZp.out)
  clear hq3
  obtain ⟨q9, hq9⟩ : ∃ z : Rat, z = ((n : Int) : Rat) / ((q : Int) : Rat) := ⟨_, rfl⟩
  have Hq9 := Lib.hid hq9
  have LQq9 := Lib.hid (show LQ q9 3 by rw [hq9]; exact LQ.of HRn.out.1 HRn.out.2 HRq.out.1 HRq.out.2 HNZq.out)
  clear hq9
  obtain ⟨q15, hq15⟩ : ∃ z : Rat, z = q3 / q9 := ⟨_, rfl⟩
  have Hq15 := Lib.hid hq15
  have LQq15 := Lib.hid (show LQ q15 6 by rw [hq15]; exact LQ.div (by simp only [Hq9.out, Hq3.out]; exact small10 HNZq.out HN0.out) (LQq3.out.up (by decide : _ ≤ 3)) (LQq9.out.up (by decide : _ ≤ 3)) (by decide))
  clear hq15
  obtain ⟨q21, hq21⟩ : ∃ z : Rat, z = ((mq : Int) : Rat) / ((pn : Int) : Rat) := ⟨_, rfl⟩
  have Hq21 := Lib.hid hq21
  have LQq21 := Lib.hid (show LQ q21 3 by rw [hq21]; exact LQ.of HRmq.out.1 HRmq.out.2 HRpn.out.1 HRpn.out.2 HNZpn.out)
  clear hq21
  obtain ⟨q23, hq23⟩ : ∃ z : Rat, z = q3 + q9 := ⟨_, rfl⟩
  have Hq23 := Lib.hid hq23
  have LQq23 := Lib.hid (show LQ q23 7 by rw [hq23]; exact LQ.add (LQq3.out.up (by decide : _ ≤ 3)) (LQq9.out.up (by decide : _ ≤ 3)) (by decide))
  clear hq23
  obtain ⟨q24, hq24⟩ : ∃ z : Rat, z = ((s1 : Int) : Rat) / ((pq : Int) : Rat) := ⟨_, rfl⟩
  have Hq24 := Lib.hid hq24
  have LQq24 := Lib.hid (show LQ q24 3 by rw [hq24]; exact LQ.of HRs1.out.1 HRs1.out.2 HRpq.out.1 HRpq.out.2 HNZpq.out)
  clear hq24
  obtain ⟨q25, hq25⟩ : ∃ z : Rat, z = q3 - q9 := ⟨_, rfl⟩
  have Hq25 := Lib.hid hq25
  have LQq25 := Lib.hid (show LQ q25 7 by rw [hq25]; exact LQ.sub (LQq3.out.up (by decide : _ ≤ 3)) (LQq9.out.up (by decide : _ ≤ 3)) (by decide))
  clear hq25
  obtain ⟨q26, hq26⟩ : ∃ z : Rat, z = ((s2 : Int) : Rat) / ((pq : Int) : Rat) := ⟨_, rfl⟩
  have Hq26 := Lib.hid hq26
  have LQq26 := Lib.hid (show LQ q26 3 by rw [hq26]; exact LQ.of HRs2.out.1 HRs2.out.2 HRpq.out.1 HRpq.out.2 HNZpq.out)
  clear hq26
  obtain ⟨q27, hq27⟩ : ∃ z : Rat, z = q3 * q9 := ⟨_, rfl⟩
  have Hq27 := Lib.hid hq27
  have LQq27 := Lib.hid (show LQ q27 6 by rw [hq27]; exact LQ.mul (LQq3.out.up (by decide : _ ≤ 3)) (LQq9.out.up (by decide : _ ≤ 3)) (by decide))
  clear hq27
  obtain ⟨q28, hq28⟩ : ∃ z : Rat, z = ((mn : Int) : Rat) / ((pq : Int) : Rat) := ⟨_, rfl⟩
  have Hq28 := Lib.hid hq28
  have LQq28 := Lib.hid (show LQ q28 3 by rw [hq28]; exact LQ.of HRmn.out.1 HRmn.out.2 HRpq.out.1 HRpq.out.2 HNZpq.out)
  clear hq28
  obtain ⟨q29, hq29⟩ : ∃ z : Rat, z = ((m : Int) : Rat) := ⟨_, rfl⟩
  have Hq29 := Lib.hid hq29
  have LQq29 := Lib.hid (show LQ q29 3 by rw [hq29]; exact LQ.int HRm.out.1 HRm.out.2)
  clear hq29
  obtain ⟨q30, hq30⟩ : ∃ z : Rat, z = ((m : Int) : Rat) / ((1 : Int) : Rat) := ⟨_, rfl⟩
  have Hq30 := Lib.hid hq30
  have LQq30 := Lib.hid (show LQ q30 3 by rw [hq30]; exact LQ.of HRm.out.1 HRm.out.2 (by decide) (by decide) (by decide))
  clear hq30
  obtain ⟨q31, hq31⟩ : ∃ z : Rat, z = ((nm : Int) : Rat) / ((ngp : Int) : Rat) := ⟨_, rfl⟩
  have Hq31 := Lib.hid hq31
  have LQq31 := Lib.hid (show LQ q31 3 by rw [hq31]; exact LQ.of HRnm.out.1 HRnm.out.2 HRngp.out.1 HRngp.out.2 HNZngp.out)
  clear hq31
  obtain ⟨q32, hq32⟩ : ∃ z : Rat, z = ((m : Int) : Rat) / ((ngp : Int) : Rat) := ⟨_, rfl⟩
  have Hq32 := Lib.hid hq32
  have LQq32 := Lib.hid (show LQ q32 3 by rw [hq32]; exact LQ.of HRm.out.1 HRm.out.2 HRngp.out.1 HRngp.out.2 HNZngp.out)
  clear hq32
  go_enter Tryz.func9, Tryz.ntmps9
  go_upto_region 1 with (fail)
  obtain ⟨v2, hV⟩ : ∃ V, V = w.alloc (.cells #[.int .u16 b0, .int .u16 b1] 66) := ⟨_, rfl⟩
  have hbV : Below w.heap.size w v2 := by rw [hV]; exact ((Below.refl _ _).alloc (Nat.le_refl _) _)
  have BX1 := Lib.hid (show Bxs v2 (w.heap.size) 66 [.int .u16 b0, .int .u16 b1] by have h := Bxs.new (w) 66 [.int .u16 b0, .int .u16 b1]; rw [hV]; exact h)
  rw [show w.alloc (.cells #[.int .u16 b0, .int .u16 b1] 66) = v2 from hV.symm]
  have KG := Lib.hid (KG.out.trans (hbV.mono KG.out.size))
  clear hV hbV
  have cBX10 := BX1.out.cell (i := 0) rfl
  have cBX11 := BX1.out.cell (i := 1) rfl
  have cBX1f := BX1.out.fz
  have cBX1l := BX1.out.lt
  go_wp2_with fail
  have CT := Lib.hid (ofQ m p v2 HRm.out.1 HRm.out.2 HRp.out.1 HRp.out.2 HNZp.out)
  rw [show ((m : Int) : Rat) / ((p : Int) : Rat) = q3 from Hq3.out.symm] at CT
  with_reducible refine CT.out.mono ?_
  rintro e w4 ⟨x5, rfl, hN6, hb⟩
  have N6 := Lib.hid hN6
  clear hN6
  clear CT
  clear cBX10 cBX11 cBX1f cBX1l
  clear BX1
  have KG := Lib.hid (KG.out.trans (hb.mono KG.out.size))
  clear hb
  go_upto_region 6 with (fail)
  obtain ⟨v8, hV⟩ : ∃ V, V = w4.alloc (.cells #[.bool x5.t.s, .slice x5.t.a x5.t.n x5.t.c, .bool x5.l.s, .slice x5.l.a x5.l.n x5.l.c] 26) := ⟨_, rfl⟩
  have hbV : Below w4.heap.size w4 v8 := by rw [hV]; exact ((Below.refl _ _).alloc (Nat.le_refl _) _)
  have BX7 := Lib.hid (show Bxs v8 (w4.heap.size) 26 [.bool x5.t.s, .slice x5.t.a x5.t.n x5.t.c, .bool x5.l.s, .slice x5.l.a x5.l.n x5.l.c] by have h := Bxs.new (w4) 26 [.bool x5.t.s, .slice x5.t.a x5.t.n x5.t.c, .bool x5.l.s, .slice x5.l.a x5.l.n x5.l.c]; rw [hV]; exact h)
  rw [show w4.alloc (.cells #[.bool x5.t.s, .slice x5.t.a x5.t.n x5.t.c, .bool x5.l.s, .slice x5.l.a x5.l.n x5.l.c] 26) = v8 from hV.symm]
  have N6 := Lib.hid (N6.out.below hbV)
  have KG := Lib.hid (KG.out.trans (hbV.mono KG.out.size))
  clear hV hbV
  go_wp2_with fail
  have CT := Lib.hid (ofQ n q v8 HRn.out.1 HRn.out.2 HRq.out.1 HRq.out.2 HNZq.out)
  rw [show ((n : Int) : Rat) / ((q : Int) : Rat) = q9 from Hq9.out.symm] at CT
  with_reducible refine CT.out.mono ?_
  rintro e w10 ⟨x11, rfl, hN12, hb⟩
  have N12 := Lib.hid hN12
  clear hN12
  clear CT
  have N6 := Lib.hid (N6.out.below hb)
  have BX7 := Lib.hid (BX7.out.below hb BX7.out.lt)
  have KG := Lib.hid (KG.out.trans (hb.mono KG.out.size))
  clear hb
  go_upto_region 7 with (fail)
  obtain ⟨v14, hV⟩ : ∃ V, V = w10.alloc (.cells #[.bool x11.t.s, .slice x11.t.a x11.t.n x11.t.c, .bool x11.l.s, .slice x11.l.a x11.l.n x11.l.c] 26) := ⟨_, rfl⟩
  have hbV : Below w10.heap.size w10 v14 := by rw [hV]; exact ((Below.refl _ _).alloc (Nat.le_refl _) _)
  have BX13 := Lib.hid (show Bxs v14 (w10.heap.size) 26 [.bool x11.t.s, .slice x11.t.a x11.t.n x11.t.c, .bool x11.l.s, .slice x11.l.a x11.l.n x11.l.c] by have h := Bxs.new (w10) 26 [.bool x11.t.s, .slice x11.t.a x11.t.n x11.t.c, .bool x11.l.s, .slice x11.l.a x11.l.n x11.l.c]; rw [hV]; exact h)
  rw [show w10.alloc (.cells #[.bool x11.t.s, .slice x11.t.a x11.t.n x11.t.c, .bool x11.l.s, .slice x11.l.a x11.l.n x11.l.c] 26) = v14 from hV.symm]
  have N6 := Lib.hid (N6.out.below hbV)
  have N12 := Lib.hid (N12.out.below hbV)
  have BX7 := Lib.hid (BX7.out.below hbV BX7.out.lt)
  have KG := Lib.hid (KG.out.trans (hbV.mono KG.out.size))
  clear hV hbV
  have cBX70 := BX7.out.cell (i := 0) rfl
  have cBX71 := BX7.out.cell (i := 1) rfl
  have cBX72 := BX7.out.cell (i := 2) rfl
  have cBX73 := BX7.out.cell (i := 3) rfl
  have cBX7f := BX7.out.fz
  have cBX7l := BX7.out.lt
  have cBX130 := BX13.out.cell (i := 0) rfl
  have cBX131 := BX13.out.cell (i := 1) rfl
  have cBX132 := BX13.out.cell (i := 2) rfl
  have cBX133 := BX13.out.cell (i := 3) rfl
  have cBX13f := BX13.out.fz
  have cBX13l := BX13.out.lt
  go_wp2_with fail
  have CT := Lib.hid (qdiv (N6.out).k (((N6.out).k).len LQq3.out (by decide : _ ≤ 900000)) (N12.out).k (((N12.out).k).len LQq9.out (by decide : _ ≤ 900000)) (by simp only [Hq9.out, Hq3.out]; exact small10 HNZq.out HN0.out))
  rw [show q3 / q9 = q15 from Hq15.out.symm] at CT
  with_reducible refine CT.out.mono ?_
  rintro e w16 ⟨x17, rfl, hN18, hb⟩
  have N18 := Lib.hid hN18
  clear hN18
  clear CT
  clear cBX70 cBX71 cBX72 cBX73 cBX7f cBX7l
  clear cBX130 cBX131 cBX132 cBX133 cBX13f cBX13l
  have N6 := Lib.hid (N6.out.below hb)
  have N12 := Lib.hid (N12.out.below hb)
  have BX7 := Lib.hid (BX7.out.below hb BX7.out.lt)
  have BX13 := Lib.hid (BX13.out.below hb BX13.out.lt)
  have KG := Lib.hid (KG.out.trans (hb.mono KG.out.size))
  clear hb
  go_upto_region 8 with (fail)
  obtain ⟨v20, hV⟩ : ∃ V, V = w16.alloc (.cells #[.bool x17.t.s, .slice x17.t.a x17.t.n x17.t.c, .bool x17.l.s, .slice x17.l.a x17.l.n x17.l.c] 26) := ⟨_, rfl⟩
  have hbV : Below w16.heap.size w16 v20 := by rw [hV]; exact ((Below.refl _ _).alloc (Nat.le_refl _) _)
  have BX19 := Lib.hid (show Bxs v20 (w16.heap.size) 26 [.bool x17.t.s, .slice x17.t.a x17.t.n x17.t.c, .bool x17.l.s, .slice x17.l.a x17.l.n x17.l.c] by have h := Bxs.new (w16) 26 [.bool x17.t.s, .slice x17.t.a x17.t.n x17.t.c, .bool x17.l.s, .slice x17.l.a x17.l.n x17.l.c]; rw [hV]; exact h)
  rw [show w16.alloc (.cells #[.bool x17.t.s, .slice x17.t.a x17.t.n x17.t.c, .bool x17.l.s, .slice x17.l.a x17.l.n x17.l.c] 26) = v20 from hV.symm]
  have N6 := Lib.hid (N6.out.below hbV)
  have N12 := Lib.hid (N12.out.below hbV)
  have N18 := Lib.hid (N18.out.below hbV)
  have BX7 := Lib.hid (BX7.out.below hbV BX7.out.lt)
  have BX13 := Lib.hid (BX13.out.below hbV BX13.out.lt)
  have KG := Lib.hid (KG.out.trans (hbV.mono KG.out.size))
  clear hV hbV
  go_upto_region 8 with (fail)
  refine Go.FreshS.wp_region_fresh 25 [] (Go.FreshS.spOf [(13, Go.FreshS.Sp.made (fun x : FV => x.v) (fun x w' => DF w' v20.heap.size x q21) FV.blk), (14, Go.FreshS.Sp.know (.bool true))])
    (fun w' => Below v20.heap.size v20 w') (by kernel_rfl) (by kernel_rfl) (by kernel_rfl)
    (Go.FreshS.spOf_cons (Go.FreshS.Sp.made_keeps _ (fun _ _ _ h _ hk => h.kept hk) (Go.FreshS.notTaken (by kernel_rfl))) (Go.FreshS.spOf_cons (Go.FreshS.Sp.know_keeps _ _) (Go.FreshS.spOf_nil))) (fun _ _ h hb => h.trans (hb.mono h.size)) ((Below.refl _ _).drew) ?_
  simp only [List.append_eq, List.cons_append, List.nil_append, List.take_succ_cons, List.take_zero, List.drop_succ_cons, List.drop_zero]
  refine Go.FreshS.wpF_reads rfl rfl rfl ?_ (fun w' hw' => ?_) ?_
  rotate_left
  · have hb' := hw'.world
    skip
    clear hw'
    go_simp
    try rfl
  conv => arg 10; simp only [Act.put, List.setIfInBounds_toArray, List.set_cons_succ, List.set_cons_zero]
  refine Go.FreshS.wpF_reads rfl rfl rfl ?_ (fun w' hw' => ?_) ?_
  rotate_left
  · have hb' := hw'.world
    skip
    clear hw'
    go_simp
    try rfl
  conv => arg 10; simp only [Act.put, List.setIfInBounds_toArray, List.set_cons_succ, List.set_cons_zero]
  refine Go.FreshS.wpF_reads rfl rfl rfl ?_ (fun w' hw' => ?_) ?_
  rotate_left
  · have hb' := hw'.world
    skip
    clear hw'
    go_simp
    try rfl
  conv => arg 10; simp only [Act.put, List.setIfInBounds_toArray, List.set_cons_succ, List.set_cons_zero]
  refine Go.FreshS.wpF_readsG (by rfl) rfl rfl ?_ (fun w' hw' => ?_) ?_
  rotate_left
  · have hb' := hw'.world
    skip
    clear hw'
    go_simp
    try rfl
  conv => arg 10; simp only [Act.put, List.setIfInBounds_toArray, List.set_cons_succ, List.set_cons_zero]
  refine Go.FreshS.wpF_readsG (by rfl) rfl rfl ?_ (fun w' hw' => ?_) ?_
  rotate_left
  · have hb' := hw'.world
    skip
    clear hw'
    go_simp
    try rfl
  conv => arg 10; simp only [Act.put, List.setIfInBounds_toArray, List.set_cons_succ, List.set_cons_zero]
  refine Go.FreshS.wpF_readsG (by rfl) rfl rfl ?_ (fun w' hw' => ?_) ?_
  rotate_left
  · have hb' := hw'.world
    skip
    clear hw'
    go_simp
    try rfl
  conv => arg 10; simp only [Act.put, List.setIfInBounds_toArray, List.set_cons_succ, List.set_cons_zero]
  refine Go.FreshS.wpF_readsG (by rfl) rfl rfl ?_ (fun w' hw' => ?_) ?_
  rotate_left
  · have hb' := hw'.world
    have hs0 := (BX19.out.below hb' BX19.out.lt).cell (i := 0) rfl
    have hs1 := (BX19.out.below hb' BX19.out.lt).cell (i := 1) rfl
    have hs2 := (BX19.out.below hb' BX19.out.lt).cell (i := 2) rfl
    have hs3 := (BX19.out.below hb' BX19.out.lt).cell (i := 3) rfl
    have hsf := (BX19.out.below hb' BX19.out.lt).fz
    have hsl := (BX19.out.below hb' BX19.out.lt).lt
    clear hw'
    go_simp
    try rfl
  conv => arg 10; simp only [Act.put, List.setIfInBounds_toArray, List.set_cons_succ, List.set_cons_zero]
  refine Go.FreshS.wpF_readsG (by rfl) rfl rfl ?_ (fun w' hw' => ?_) ?_
  rotate_left
  · have hb' := hw'.world
    skip
    clear hw'
    go_simp
    try rfl
  conv => arg 10; simp only [Act.put, List.setIfInBounds_toArray, List.set_cons_succ, List.set_cons_zero]
  refine Go.FreshS.wpF_readsG (by rfl) rfl rfl ?_ (fun w' hw' => ?_) ?_
  rotate_left
  · have hb' := hw'.world
    skip
    clear hw'
    go_simp
    try rfl
  conv => arg 10; simp only [Act.put, List.setIfInBounds_toArray, List.set_cons_succ, List.set_cons_zero]
  refine Go.FreshS.wpF_readsG (by rfl) rfl rfl ?_ (fun w' hw' => ?_) ?_
  rotate_left
  · have hb' := hw'.world
    skip
    clear hw'
    go_simp
    try rfl
  conv => arg 10; simp only [Act.put, List.setIfInBounds_toArray, List.set_cons_succ, List.set_cons_zero]
  refine Go.FreshS.wpF_readsG (by rfl) rfl rfl ?_ (fun w' hw' => ?_) ?_
  rotate_left
  · have hb' := hw'.world
    skip
    clear hw'
    go_simp
    try rfl
  conv => arg 10; simp only [Act.put, List.setIfInBounds_toArray, List.set_cons_succ, List.set_cons_zero]
  refine Go.FreshS.wpF_readsG (by rfl) rfl rfl ?_ (fun w' hw' => ?_) ?_
  rotate_left
  · have hb' := hw'.world
    skip
    clear hw'
    go_simp
    try rfl
  conv => arg 10; simp only [Act.put, List.setIfInBounds_toArray, List.set_cons_succ, List.set_cons_zero]
  refine Go.FreshS.wpF_readsG (by rfl) rfl rfl ?_ (fun w' hw' => ?_) ?_
  rotate_left
  · have hb' := hw'.world
    skip
    clear hw'
    go_simp
    try rfl
  conv => arg 10; simp only [Act.put, List.setIfInBounds_toArray, List.set_cons_succ, List.set_cons_zero]
  refine Go.FreshS.wpF_gspec (by rfl) rfl rfl (fun w' hw' => ?_) ?_
  · have hb' := hw'.world
    refine Go.FreshS.gives_of (Go.FreshS.PM (fun x : FV => x.v) (fun x w' => DF w' v20.heap.size x q21) FV.blk w'.heap.size) ?_ (fun _ _ h => h.post (fun _ _ => FV.inj))
    go_simp
    have CT := ofQ mq pn w' HRmq.out.1 HRmq.out.2 HRpn.out.1 HRpn.out.2 HNZpn.out
    rw [show ((mq : Int) : Rat) / ((pn : Int) : Rat) = q21 from Hq21.out.symm] at CT
    refine CT.mono ?_
    rintro e w'' ⟨za, rfl, ho, hb⟩
    exact ⟨_, rfl, ⟨za, rfl, ho.mono hb'.size, ho.blks⟩, hb⟩
  rintro _ ⟨y13, rfl⟩
  conv => arg 10; simp only [Act.put, List.setIfInBounds_toArray, List.set_cons_succ, List.set_cons_zero]
  refine Go.FreshS.wpF_gspec (by rfl) rfl rfl (fun w' hw' => ?_) ?_
  · have hb' := hw'.world
    refine Go.FreshS.gives_of (Go.FreshS.PK (.bool true)) ?_ (fun _ _ h => h.post)
    go_simp
    have f13 := Go.FreshS.made_of (val := (fun x : FV => x.v)) (Φ := fun x w' => DF w' v20.heap.size x q21) (fun _ _ => FV.inj) (hw'.fact 13 (by kernel_rfl))
    have CT := qsame ((N18.out.below hb')).k ((((N18.out.below hb')).k).len LQq15.out (by decide : _ ≤ 900000)) (f13).k (((f13).k).len LQq21.out (by decide : _ ≤ 900000)) (by simp only [Hq21.out, Hq15.out, Hq9.out, Hq3.out]; rw [H_mq.out, H_pn.out]; exact small1 HNZp.out HNZq.out HN0.out)
    refine CT.mono ?_
    rintro e w'' ⟨rfl, hb⟩
    exact ⟨_, rfl, rfl, hb⟩
  rintro _ rfl
  conv => arg 10; simp only [Act.put, List.setIfInBounds_toArray, List.set_cons_succ, List.set_cons_zero]
  refine Go.FreshS.wpF_readsG (by rfl) rfl rfl ?_ (fun w' hw' => ?_) ?_
  rotate_left
  · have hb' := hw'.world
    skip
    clear hw'
    go_simp
    try rfl
  conv => arg 10; simp only [Act.put, List.setIfInBounds_toArray, List.set_cons_succ, List.set_cons_zero]
  refine Go.FreshS.wpF_readsG (by rfl) rfl rfl ?_ (fun w' hw' => ?_) ?_
  rotate_left
  · have hb' := hw'.world
    skip
    clear hw'
    go_simp
    try rfl
  conv => arg 10; simp only [Act.put, List.setIfInBounds_toArray, List.set_cons_succ, List.set_cons_zero]
  refine Go.FreshS.wpF_reads rfl rfl rfl ?_ (fun w' hw' => ?_) ?_
  rotate_left
  · have hb' := hw'.world
    skip
    clear hw'
    go_simp
    try rfl
  conv => arg 10; simp only [Act.put, List.setIfInBounds_toArray, List.set_cons_succ, List.set_cons_zero]
  refine Go.FreshS.wpF_reads rfl rfl rfl ?_ (fun w' hw' => ?_) ?_
  rotate_left
  · have hb' := hw'.world
    skip
    clear hw'
    go_simp
    try rfl
  conv => arg 10; simp only [Act.put, List.setIfInBounds_toArray, List.set_cons_succ, List.set_cons_zero]
  refine Go.FreshS.wpF_readsG (by rfl) rfl rfl ?_ (fun w' hw' => ?_) ?_
  rotate_left
  · have hb' := hw'.world
    skip
    clear hw'
    go_simp
    try rfl
  conv => arg 10; simp only [Act.put, List.setIfInBounds_toArray, List.set_cons_succ, List.set_cons_zero]
  refine Go.FreshS.wpF_readsG (by rfl) rfl rfl ?_ (fun w' hw' => ?_) ?_
  rotate_left
  · have hb' := hw'.world
    skip
    clear hw'
    go_simp
    try rfl
  conv => arg 10; simp only [Act.put, List.setIfInBounds_toArray, List.set_cons_succ, List.set_cons_zero]
  refine Go.FreshS.wpF_readsG (by rfl) rfl rfl ?_ (fun w' hw' => ?_) ?_
  rotate_left
  · have hb' := hw'.world
    skip
    clear hw'
    go_simp
    try rfl
  conv => arg 10; simp only [Act.put, List.setIfInBounds_toArray, List.set_cons_succ, List.set_cons_zero]
  refine Go.FreshS.wpF_skip (by rfl) rfl ?_
  conv => arg 10; simp only [Act.put, List.setIfInBounds_toArray, List.set_cons_succ, List.set_cons_zero]
  refine Go.FreshS.wpF_skip (by rfl) rfl ?_
  conv => arg 10; simp only [Act.put, List.setIfInBounds_toArray, List.set_cons_succ, List.set_cons_zero]
  refine Go.FreshS.wpF_readsG (by rfl) rfl rfl ?_ (fun w' hw' => ?_) ?_
  rotate_left
  · have hb' := hw'.world
    skip
    clear hw'
    go_simp
    try rfl
  conv => arg 10; simp only [Act.put, List.setIfInBounds_toArray, List.set_cons_succ, List.set_cons_zero]
  refine Go.FreshS.wpF_nil (fun w22 hb hF => ?_)
  clear hF
  have N6 := Lib.hid (N6.out.below hb)
  have N12 := Lib.hid (N12.out.below hb)
  clear N18
  have BX7 := Lib.hid (BX7.out.below hb BX7.out.lt)
  have BX13 := Lib.hid (BX13.out.below hb BX13.out.lt)
  clear BX19
  have KG := Lib.hid (KG.out.trans (hb.mono KG.out.size))
  clear hb
  go_upto_region 10 with (fail)
  refine Go.FreshS.wp_region_fresh 98 [] (Go.FreshS.spOf [(0, Go.FreshS.Sp.know (.bool true)), (4, Go.FreshS.Sp.made (fun x : FV => x.v) (fun x w' => DF w' w22.heap.size x q23) FV.blk), (15, Go.FreshS.Sp.made (fun x : FV => x.v) (fun x w' => DF w' w22.heap.size x q24) FV.blk), (16, Go.FreshS.Sp.know (.bool true)), (21, Go.FreshS.Sp.made (fun x : FV => x.v) (fun x w' => DF w' w22.heap.size x q25) FV.blk), (32, Go.FreshS.Sp.made (fun x : FV => x.v) (fun x w' => DF w' w22.heap.size x q26) FV.blk), (33, Go.FreshS.Sp.know (.bool true)), (38, Go.FreshS.Sp.made (fun x : FV => x.v) (fun x w' => DF w' w22.heap.size x q27) FV.blk), (45, Go.FreshS.Sp.made (fun x : FV => x.v) (fun x w' => DF w' w22.heap.size x q28) FV.blk), (46, Go.FreshS.Sp.know (.bool true)), (51, Go.FreshS.Sp.know (.int .i64 cc)), (64, Go.FreshS.Sp.know (.bool wb)), (73, Go.FreshS.Sp.made (fun x : FV => x.v) (fun x w' => DF w' w22.heap.size x q29) FV.blk), (75, Go.FreshS.Sp.made (fun x : FV => x.v) (fun x w' => DF w' w22.heap.size x q30) FV.blk), (76, Go.FreshS.Sp.know (.bool true)), (83, Go.FreshS.Sp.made (fun x : FV => x.v) (fun x w' => DF w' w22.heap.size x q31) FV.blk), (85, Go.FreshS.Sp.know (.bool true)), (91, Go.FreshS.Sp.made (fun x : FV => x.v) (fun x w' => DF w' w22.heap.size x q32) FV.blk), (92, Go.FreshS.Sp.know (.int .i64 sy)), (94, Go.FreshS.Sp.know (.int .i64 sx))])
    (fun w' => Below w22.heap.size w22 w') (by kernel_rfl) ((congrArg (fun o => Region.lexTailB .any o 98) (show _ = smOps by kernel_rfl)).trans smChk) (by kernel_rfl)
    (Go.FreshS.spOf_cons (Go.FreshS.Sp.know_keeps _ _) (Go.FreshS.spOf_cons (Go.FreshS.Sp.made_keeps _ (fun _ _ _ h _ hk => h.kept hk) (Go.FreshS.notTaken (by kernel_rfl))) (Go.FreshS.spOf_cons (Go.FreshS.Sp.made_keeps _ (fun _ _ _ h _ hk => h.kept hk) (Go.FreshS.notTaken (by kernel_rfl))) (Go.FreshS.spOf_cons (Go.FreshS.Sp.know_keeps _ _) (Go.FreshS.spOf_cons (Go.FreshS.Sp.made_keeps _ (fun _ _ _ h _ hk => h.kept hk) (Go.FreshS.notTaken (by kernel_rfl))) (Go.FreshS.spOf_cons (Go.FreshS.Sp.made_keeps _ (fun _ _ _ h _ hk => h.kept hk) (Go.FreshS.notTaken (by kernel_rfl))) (Go.FreshS.spOf_cons (Go.FreshS.Sp.know_keeps _ _) (Go.FreshS.spOf_cons (Go.FreshS.Sp.made_keeps _ (fun _ _ _ h _ hk => h.kept hk) (Go.FreshS.notTaken (by kernel_rfl))) (Go.FreshS.spOf_cons (Go.FreshS.Sp.made_keeps _ (fun _ _ _ h _ hk => h.kept hk) (Go.FreshS.notTaken (by kernel_rfl))) (Go.FreshS.spOf_cons (Go.FreshS.Sp.know_keeps _ _) (Go.FreshS.spOf_cons (Go.FreshS.Sp.know_keeps _ _) (Go.FreshS.spOf_cons (Go.FreshS.Sp.know_keeps _ _) (Go.FreshS.spOf_cons (Go.FreshS.Sp.made_keeps _ (fun _ _ _ h _ hk => h.kept hk) (Go.FreshS.notTaken (by kernel_rfl))) (Go.FreshS.spOf_cons (Go.FreshS.Sp.made_keeps _ (fun _ _ _ h _ hk => h.kept hk) (Go.FreshS.notTaken (by kernel_rfl))) (Go.FreshS.spOf_cons (Go.FreshS.Sp.know_keeps _ _) (Go.FreshS.spOf_cons (Go.FreshS.Sp.made_keeps _ (fun _ _ _ h _ hk => h.kept hk) (Go.FreshS.notTaken (by kernel_rfl))) (Go.FreshS.spOf_cons (Go.FreshS.Sp.know_keeps _ _) (Go.FreshS.spOf_cons (Go.FreshS.Sp.made_keeps _ (fun _ _ _ h _ hk => h.kept hk) (Go.FreshS.notTaken (by kernel_rfl))) (Go.FreshS.spOf_cons (Go.FreshS.Sp.know_keeps _ _) (Go.FreshS.spOf_cons (Go.FreshS.Sp.know_keeps _ _) (Go.FreshS.spOf_nil))))))))))))))))))))) (fun _ _ h hb => h.trans (hb.mono h.size)) ((Below.refl _ _).drew) ?_
  simp only [List.append_eq, List.cons_append, List.nil_append, List.take_succ_cons, List.take_zero, List.drop_succ_cons, List.drop_zero]
  refine Go.FreshS.wpF_spec rfl rfl rfl (fun w' hw' => ?_) ?_
  · have hb' := hw'.world
    refine Go.FreshS.gives_of (Go.FreshS.PK (.bool true)) ?_ (fun _ _ h => h.post)
    go_simp
    have CT := qalive w' (HT.out.on (KG.out.trans (hb'.mono KG.out.size)))
    refine CT.mono ?_
    rintro e w'' ⟨rfl, hb⟩
    exact ⟨_, rfl, rfl, hb⟩
  rintro _ rfl
  conv => arg 10; simp only [Act.put, List.setIfInBounds_toArray, List.set_cons_succ, List.set_cons_zero]
  refine Go.FreshS.wpF_reads rfl rfl rfl ?_ (fun w' hw' => ?_) ?_
  rotate_left
  · have hb' := hw'.world
    skip
    clear hw'
    go_simp
    try rfl
  conv => arg 10; simp only [Act.put, List.setIfInBounds_toArray, List.set_cons_succ, List.set_cons_zero]
  refine Go.FreshS.wpF_readsG (by rfl) rfl rfl ?_ (fun w' hw' => ?_) ?_
  rotate_left
  · have hb' := hw'.world
    have hs0 := (BX7.out.below hb' BX7.out.lt).cell (i := 0) rfl
    have hs1 := (BX7.out.below hb' BX7.out.lt).cell (i := 1) rfl
    have hs2 := (BX7.out.below hb' BX7.out.lt).cell (i := 2) rfl
    have hs3 := (BX7.out.below hb' BX7.out.lt).cell (i := 3) rfl
    have hsf := (BX7.out.below hb' BX7.out.lt).fz
    have hsl := (BX7.out.below hb' BX7.out.lt).lt
    clear hw'
    go_simp
    try rfl
  conv => arg 10; simp only [Act.put, List.setIfInBounds_toArray, List.set_cons_succ, List.set_cons_zero]
  refine Go.FreshS.wpF_readsG (by rfl) rfl rfl ?_ (fun w' hw' => ?_) ?_
  rotate_left
  · have hb' := hw'.world
    have hs0 := (BX13.out.below hb' BX13.out.lt).cell (i := 0) rfl
    have hs1 := (BX13.out.below hb' BX13.out.lt).cell (i := 1) rfl
    have hs2 := (BX13.out.below hb' BX13.out.lt).cell (i := 2) rfl
    have hs3 := (BX13.out.below hb' BX13.out.lt).cell (i := 3) rfl
    have hsf := (BX13.out.below hb' BX13.out.lt).fz
    have hsl := (BX13.out.below hb' BX13.out.lt).lt
    clear hw'
    go_simp
    try rfl
  conv => arg 10; simp only [Act.put, List.setIfInBounds_toArray, List.set_cons_succ, List.set_cons_zero]
  refine Go.FreshS.wpF_gspec (by rfl) rfl rfl (fun w' hw' => ?_) ?_
  · have hb' := hw'.world
    refine Go.FreshS.gives_of (Go.FreshS.PM (fun x : FV => x.v) (fun x w' => DF w' w22.heap.size x q23) FV.blk w'.heap.size) ?_ (fun _ _ h => h.post (fun _ _ => FV.inj))
    go_simp
    have CT := qadd ((N6.out.below hb')).k.any ((((N6.out.below hb')).k).len LQq3.out (by decide : _ ≤ 900000)) ((N12.out.below hb')).k.any ((((N12.out.below hb')).k).len LQq9.out (by decide : _ ≤ 900000))
    rw [show q3 + q9 = q23 from Hq23.out.symm] at CT
    refine CT.mono ?_
    rintro e w'' ⟨za, rfl, ho, hb⟩
    exact ⟨_, rfl, ⟨za, rfl, ho.mono hb'.size, ho.blks⟩, hb⟩
  rintro _ ⟨y4, rfl⟩
  conv => arg 10; simp only [Act.put, List.setIfInBounds_toArray, List.set_cons_succ, List.set_cons_zero]
  refine Go.FreshS.wpF_readsG (by rfl) rfl rfl ?_ (fun w' hw' => ?_) ?_
  rotate_left
  · have hb' := hw'.world
    skip
    clear hw'
    go_simp
    try rfl
  conv => arg 10; simp only [Act.put, List.setIfInBounds_toArray, List.set_cons_succ, List.set_cons_zero]
  refine Go.FreshS.wpF_readsG (by rfl) rfl rfl ?_ (fun w' hw' => ?_) ?_
  rotate_left
  · have hb' := hw'.world
    skip
    clear hw'
    go_simp
    try rfl
  conv => arg 10; simp only [Act.put, List.setIfInBounds_toArray, List.set_cons_succ, List.set_cons_zero]
  refine Go.FreshS.wpF_readsG (by rfl) rfl rfl ?_ (fun w' hw' => ?_) ?_
  rotate_left
  · have hb' := hw'.world
    skip
    clear hw'
    go_simp
    try rfl
  conv => arg 10; simp only [Act.put, List.setIfInBounds_toArray, List.set_cons_succ, List.set_cons_zero]
  refine Go.FreshS.wpF_readsG (by rfl) rfl rfl ?_ (fun w' hw' => ?_) ?_
  rotate_left
  · have hb' := hw'.world
    skip
    clear hw'
    go_simp
    try rfl
  conv => arg 10; simp only [Act.put, List.setIfInBounds_toArray, List.set_cons_succ, List.set_cons_zero]
  refine Go.FreshS.wpF_readsG (by rfl) rfl rfl ?_ (fun w' hw' => ?_) ?_
  rotate_left
  · have hb' := hw'.world
    skip
    clear hw'
    go_simp
    try rfl
  conv => arg 10; simp only [Act.put, List.setIfInBounds_toArray, List.set_cons_succ, List.set_cons_zero]
  refine Go.FreshS.wpF_readsG (by rfl) rfl rfl ?_ (fun w' hw' => ?_) ?_
  rotate_left
  · have hb' := hw'.world
    skip
    clear hw'
    go_simp
    try rfl
  conv => arg 10; simp only [Act.put, List.setIfInBounds_toArray, List.set_cons_succ, List.set_cons_zero]
  refine Go.FreshS.wpF_readsG (by rfl) rfl rfl ?_ (fun w' hw' => ?_) ?_
  rotate_left
  · have hb' := hw'.world
    skip
    clear hw'
    go_simp
    try rfl
  conv => arg 10; simp only [Act.put, List.setIfInBounds_toArray, List.set_cons_succ, List.set_cons_zero]
  refine Go.FreshS.wpF_readsG (by rfl) rfl rfl ?_ (fun w' hw' => ?_) ?_
  rotate_left
  · have hb' := hw'.world
    skip
    clear hw'
    go_simp
    try rfl
  conv => arg 10; simp only [Act.put, List.setIfInBounds_toArray, List.set_cons_succ, List.set_cons_zero]
  refine Go.FreshS.wpF_readsG (by rfl) rfl rfl ?_ (fun w' hw' => ?_) ?_
  rotate_left
  · have hb' := hw'.world
    skip
    clear hw'
    go_simp
    try rfl
  conv => arg 10; simp only [Act.put, List.setIfInBounds_toArray, List.set_cons_succ, List.set_cons_zero]
  refine Go.FreshS.wpF_readsG (by rfl) rfl rfl ?_ (fun w' hw' => ?_) ?_
  rotate_left
  · have hb' := hw'.world
    skip
    clear hw'
    go_simp
    try rfl
  conv => arg 10; simp only [Act.put, List.setIfInBounds_toArray, List.set_cons_succ, List.set_cons_zero]
  refine Go.FreshS.wpF_gspec (by rfl) rfl rfl (fun w' hw' => ?_) ?_
  · have hb' := hw'.world
    refine Go.FreshS.gives_of (Go.FreshS.PM (fun x : FV => x.v) (fun x w' => DF w' w22.heap.size x q24) FV.blk w'.heap.size) ?_ (fun _ _ h => h.post (fun _ _ => FV.inj))
    go_simp
    have CT := ofQ s1 pq w' HRs1.out.1 HRs1.out.2 HRpq.out.1 HRpq.out.2 HNZpq.out
    rw [show ((s1 : Int) : Rat) / ((pq : Int) : Rat) = q24 from Hq24.out.symm] at CT
    refine CT.mono ?_
    rintro e w'' ⟨za, rfl, ho, hb⟩
    exact ⟨_, rfl, ⟨za, rfl, ho.mono hb'.size, ho.blks⟩, hb⟩
  rintro _ ⟨y15, rfl⟩
  conv => arg 10; simp only [Act.put, List.setIfInBounds_toArray, List.set_cons_succ, List.set_cons_zero]
  refine Go.FreshS.wpF_gspec (by rfl) rfl rfl (fun w' hw' => ?_) ?_
  · have hb' := hw'.world
    refine Go.FreshS.gives_of (Go.FreshS.PK (.bool true)) ?_ (fun _ _ h => h.post)
    go_simp
    have f4 := Go.FreshS.made_of (val := (fun x : FV => x.v)) (Φ := fun x w' => DF w' w22.heap.size x q23) (fun _ _ => FV.inj) (hw'.fact 4 (by kernel_rfl))
    have f15 := Go.FreshS.made_of (val := (fun x : FV => x.v)) (Φ := fun x w' => DF w' w22.heap.size x q24) (fun _ _ => FV.inj) (hw'.fact 15 (by kernel_rfl))
    have CT := qsame (f4).k (((f4).k).len LQq23.out (by decide : _ ≤ 900000)) (f15).k (((f15).k).len LQq24.out (by decide : _ ≤ 900000)) (by simp only [Hq24.out, Hq23.out, Hq21.out, Hq15.out, Hq9.out, Hq3.out]; rw [H_s1.out, H_mq.out, H_np.out, H_pq.out]; exact small2 HNZp.out HNZq.out)
    refine CT.mono ?_
    rintro e w'' ⟨rfl, hb⟩
    exact ⟨_, rfl, rfl, hb⟩
  rintro _ rfl
  conv => arg 10; simp only [Act.put, List.setIfInBounds_toArray, List.set_cons_succ, List.set_cons_zero]
  refine Go.FreshS.wpF_reads rfl rfl rfl ?_ (fun w' hw' => ?_) ?_
  rotate_left
  · have hb' := hw'.world
    skip
    clear hw'
    go_simp
    try rfl
  conv => arg 10; simp only [Act.put, List.setIfInBounds_toArray, List.set_cons_succ, List.set_cons_zero]
  refine Go.FreshS.wpF_reads rfl rfl rfl ?_ (fun w' hw' => ?_) ?_
  rotate_left
  · have hb' := hw'.world
    skip
    clear hw'
    go_simp
    try rfl
  conv => arg 10; simp only [Act.put, List.setIfInBounds_toArray, List.set_cons_succ, List.set_cons_zero]
  refine Go.FreshS.wpF_readsG (by rfl) rfl rfl ?_ (fun w' hw' => ?_) ?_
  rotate_left
  · have hb' := hw'.world
    have hs0 := (BX7.out.below hb' BX7.out.lt).cell (i := 0) rfl
    have hs1 := (BX7.out.below hb' BX7.out.lt).cell (i := 1) rfl
    have hs2 := (BX7.out.below hb' BX7.out.lt).cell (i := 2) rfl
    have hs3 := (BX7.out.below hb' BX7.out.lt).cell (i := 3) rfl
    have hsf := (BX7.out.below hb' BX7.out.lt).fz
    have hsl := (BX7.out.below hb' BX7.out.lt).lt
    clear hw'
    go_simp
    try rfl
  conv => arg 10; simp only [Act.put, List.setIfInBounds_toArray, List.set_cons_succ, List.set_cons_zero]
  refine Go.FreshS.wpF_readsG (by rfl) rfl rfl ?_ (fun w' hw' => ?_) ?_
  rotate_left
  · have hb' := hw'.world
    have hs0 := (BX13.out.below hb' BX13.out.lt).cell (i := 0) rfl
    have hs1 := (BX13.out.below hb' BX13.out.lt).cell (i := 1) rfl
    have hs2 := (BX13.out.below hb' BX13.out.lt).cell (i := 2) rfl
    have hs3 := (BX13.out.below hb' BX13.out.lt).cell (i := 3) rfl
    have hsf := (BX13.out.below hb' BX13.out.lt).fz
    have hsl := (BX13.out.below hb' BX13.out.lt).lt
    clear hw'
    go_simp
    try rfl
  conv => arg 10; simp only [Act.put, List.setIfInBounds_toArray, List.set_cons_succ, List.set_cons_zero]
  refine Go.FreshS.wpF_gspec (by rfl) rfl rfl (fun w' hw' => ?_) ?_
  · have hb' := hw'.world
    refine Go.FreshS.gives_of (Go.FreshS.PM (fun x : FV => x.v) (fun x w' => DF w' w22.heap.size x q25) FV.blk w'.heap.size) ?_ (fun _ _ h => h.post (fun _ _ => FV.inj))
    go_simp
    have CT := qsub ((N6.out.below hb')).k.any ((((N6.out.below hb')).k).len LQq3.out (by decide : _ ≤ 900000)) ((N12.out.below hb')).k.any ((((N12.out.below hb')).k).len LQq9.out (by decide : _ ≤ 900000))
    rw [show q3 - q9 = q25 from Hq25.out.symm] at CT
    refine CT.mono ?_
    rintro e w'' ⟨za, rfl, ho, hb⟩
    exact ⟨_, rfl, ⟨za, rfl, ho.mono hb'.size, ho.blks⟩, hb⟩
  rintro _ ⟨y21, rfl⟩
  conv => arg 10; simp only [Act.put, List.setIfInBounds_toArray, List.set_cons_succ, List.set_cons_zero]
  refine Go.FreshS.wpF_readsG (by rfl) rfl rfl ?_ (fun w' hw' => ?_) ?_
  rotate_left
  · have hb' := hw'.world
    skip
    clear hw'
    go_simp
    try rfl
  conv => arg 10; simp only [Act.put, List.setIfInBounds_toArray, List.set_cons_succ, List.set_cons_zero]
  refine Go.FreshS.wpF_readsG (by rfl) rfl rfl ?_ (fun w' hw' => ?_) ?_
  rotate_left
  · have hb' := hw'.world
    skip
    clear hw'
    go_simp
    try rfl
  conv => arg 10; simp only [Act.put, List.setIfInBounds_toArray, List.set_cons_succ, List.set_cons_zero]
  refine Go.FreshS.wpF_readsG (by rfl) rfl rfl ?_ (fun w' hw' => ?_) ?_
  rotate_left
  · have hb' := hw'.world
    skip
    clear hw'
    go_simp
    try rfl
  conv => arg 10; simp only [Act.put, List.setIfInBounds_toArray, List.set_cons_succ, List.set_cons_zero]
  refine Go.FreshS.wpF_readsG (by rfl) rfl rfl ?_ (fun w' hw' => ?_) ?_
  rotate_left
  · have hb' := hw'.world
    skip
    clear hw'
    go_simp
    try rfl
  conv => arg 10; simp only [Act.put, List.setIfInBounds_toArray, List.set_cons_succ, List.set_cons_zero]
  refine Go.FreshS.wpF_readsG (by rfl) rfl rfl ?_ (fun w' hw' => ?_) ?_
  rotate_left
  · have hb' := hw'.world
    skip
    clear hw'
    go_simp
    try rfl
  conv => arg 10; simp only [Act.put, List.setIfInBounds_toArray, List.set_cons_succ, List.set_cons_zero]
  refine Go.FreshS.wpF_readsG (by rfl) rfl rfl ?_ (fun w' hw' => ?_) ?_
  rotate_left
  · have hb' := hw'.world
    skip
    clear hw'
    go_simp
    try rfl
  conv => arg 10; simp only [Act.put, List.setIfInBounds_toArray, List.set_cons_succ, List.set_cons_zero]
  refine Go.FreshS.wpF_readsG (by rfl) rfl rfl ?_ (fun w' hw' => ?_) ?_
  rotate_left
  · have hb' := hw'.world
    skip
    clear hw'
    go_simp
    try rfl
  conv => arg 10; simp only [Act.put, List.setIfInBounds_toArray, List.set_cons_succ, List.set_cons_zero]
  refine Go.FreshS.wpF_readsG (by rfl) rfl rfl ?_ (fun w' hw' => ?_) ?_
  rotate_left
  · have hb' := hw'.world
    skip
    clear hw'
    go_simp
    try rfl
  conv => arg 10; simp only [Act.put, List.setIfInBounds_toArray, List.set_cons_succ, List.set_cons_zero]
  refine Go.FreshS.wpF_readsG (by rfl) rfl rfl ?_ (fun w' hw' => ?_) ?_
  rotate_left
  · have hb' := hw'.world
    skip
    clear hw'
    go_simp
    try rfl
  conv => arg 10; simp only [Act.put, List.setIfInBounds_toArray, List.set_cons_succ, List.set_cons_zero]
  refine Go.FreshS.wpF_readsG (by rfl) rfl rfl ?_ (fun w' hw' => ?_) ?_
  rotate_left
  · have hb' := hw'.world
    skip
    clear hw'
    go_simp
    try rfl
  conv => arg 10; simp only [Act.put, List.setIfInBounds_toArray, List.set_cons_succ, List.set_cons_zero]
  refine Go.FreshS.wpF_gspec (by rfl) rfl rfl (fun w' hw' => ?_) ?_
  · have hb' := hw'.world
    refine Go.FreshS.gives_of (Go.FreshS.PM (fun x : FV => x.v) (fun x w' => DF w' w22.heap.size x q26) FV.blk w'.heap.size) ?_ (fun _ _ h => h.post (fun _ _ => FV.inj))
    go_simp
    have CT := ofQ s2 pq w' HRs2.out.1 HRs2.out.2 HRpq.out.1 HRpq.out.2 HNZpq.out
    rw [show ((s2 : Int) : Rat) / ((pq : Int) : Rat) = q26 from Hq26.out.symm] at CT
    refine CT.mono ?_
    rintro e w'' ⟨za, rfl, ho, hb⟩
    exact ⟨_, rfl, ⟨za, rfl, ho.mono hb'.size, ho.blks⟩, hb⟩
  rintro _ ⟨y32, rfl⟩
  conv => arg 10; simp only [Act.put, List.setIfInBounds_toArray, List.set_cons_succ, List.set_cons_zero]
  refine Go.FreshS.wpF_gspec (by rfl) rfl rfl (fun w' hw' => ?_) ?_
  · have hb' := hw'.world
    refine Go.FreshS.gives_of (Go.FreshS.PK (.bool true)) ?_ (fun _ _ h => h.post)
    go_simp
    have f21 := Go.FreshS.made_of (val := (fun x : FV => x.v)) (Φ := fun x w' => DF w' w22.heap.size x q25) (fun _ _ => FV.inj) (hw'.fact 21 (by kernel_rfl))
    have f32 := Go.FreshS.made_of (val := (fun x : FV => x.v)) (Φ := fun x w' => DF w' w22.heap.size x q26) (fun _ _ => FV.inj) (hw'.fact 32 (by kernel_rfl))
    have CT := qsame (f21).k (((f21).k).len LQq25.out (by decide : _ ≤ 900000)) (f32).k (((f32).k).len LQq26.out (by decide : _ ≤ 900000)) (by simp only [Hq26.out, Hq25.out, Hq24.out, Hq23.out, Hq21.out, Hq15.out, Hq9.out, Hq3.out]; rw [H_s2.out, H_mq.out, H_np.out, H_pq.out]; exact small3 HNZp.out HNZq.out)
    refine CT.mono ?_
    rintro e w'' ⟨rfl, hb⟩
    exact ⟨_, rfl, rfl, hb⟩
  rintro _ rfl
  conv => arg 10; simp only [Act.put, List.setIfInBounds_toArray, List.set_cons_succ, List.set_cons_zero]
  refine Go.FreshS.wpF_reads rfl rfl rfl ?_ (fun w' hw' => ?_) ?_
  rotate_left
  · have hb' := hw'.world
    skip
    clear hw'
    go_simp
    try rfl
  conv => arg 10; simp only [Act.put, List.setIfInBounds_toArray, List.set_cons_succ, List.set_cons_zero]
  refine Go.FreshS.wpF_reads rfl rfl rfl ?_ (fun w' hw' => ?_) ?_
  rotate_left
  · have hb' := hw'.world
    skip
    clear hw'
    go_simp
    try rfl
  conv => arg 10; simp only [Act.put, List.setIfInBounds_toArray, List.set_cons_succ, List.set_cons_zero]
  refine Go.FreshS.wpF_readsG (by rfl) rfl rfl ?_ (fun w' hw' => ?_) ?_
  rotate_left
  · have hb' := hw'.world
    have hs0 := (BX7.out.below hb' BX7.out.lt).cell (i := 0) rfl
    have hs1 := (BX7.out.below hb' BX7.out.lt).cell (i := 1) rfl
    have hs2 := (BX7.out.below hb' BX7.out.lt).cell (i := 2) rfl
    have hs3 := (BX7.out.below hb' BX7.out.lt).cell (i := 3) rfl
    have hsf := (BX7.out.below hb' BX7.out.lt).fz
    have hsl := (BX7.out.below hb' BX7.out.lt).lt
    clear hw'
    go_simp
    try rfl
  conv => arg 10; simp only [Act.put, List.setIfInBounds_toArray, List.set_cons_succ, List.set_cons_zero]
  refine Go.FreshS.wpF_readsG (by rfl) rfl rfl ?_ (fun w' hw' => ?_) ?_
  rotate_left
  · have hb' := hw'.world
    have hs0 := (BX13.out.below hb' BX13.out.lt).cell (i := 0) rfl
    have hs1 := (BX13.out.below hb' BX13.out.lt).cell (i := 1) rfl
    have hs2 := (BX13.out.below hb' BX13.out.lt).cell (i := 2) rfl
    have hs3 := (BX13.out.below hb' BX13.out.lt).cell (i := 3) rfl
    have hsf := (BX13.out.below hb' BX13.out.lt).fz
    have hsl := (BX13.out.below hb' BX13.out.lt).lt
    clear hw'
    go_simp
    try rfl
  conv => arg 10; simp only [Act.put, List.setIfInBounds_toArray, List.set_cons_succ, List.set_cons_zero]
  refine Go.FreshS.wpF_gspec (by rfl) rfl rfl (fun w' hw' => ?_) ?_
  · have hb' := hw'.world
    refine Go.FreshS.gives_of (Go.FreshS.PM (fun x : FV => x.v) (fun x w' => DF w' w22.heap.size x q27) FV.blk w'.heap.size) ?_ (fun _ _ h => h.post (fun _ _ => FV.inj))
    go_simp
    have CT := qmul ((N6.out.below hb')).k.any ((((N6.out.below hb')).k).len LQq3.out (by decide : _ ≤ 900000)) ((N12.out.below hb')).k.any ((((N12.out.below hb')).k).len LQq9.out (by decide : _ ≤ 900000))
    rw [show q3 * q9 = q27 from Hq27.out.symm] at CT
    refine CT.mono ?_
    rintro e w'' ⟨za, rfl, ho, hb⟩
    exact ⟨_, rfl, ⟨za, rfl, ho.mono hb'.size, ho.blks⟩, hb⟩
  rintro _ ⟨y38, rfl⟩
  conv => arg 10; simp only [Act.put, List.setIfInBounds_toArray, List.set_cons_succ, List.set_cons_zero]
  refine Go.FreshS.wpF_readsG (by rfl) rfl rfl ?_ (fun w' hw' => ?_) ?_
  rotate_left
  · have hb' := hw'.world
    skip
    clear hw'
    go_simp
    try rfl
  conv => arg 10; simp only [Act.put, List.setIfInBounds_toArray, List.set_cons_succ, List.set_cons_zero]
  refine Go.FreshS.wpF_readsG (by rfl) rfl rfl ?_ (fun w' hw' => ?_) ?_
  rotate_left
  · have hb' := hw'.world
    skip
    clear hw'
    go_simp
    try rfl
  conv => arg 10; simp only [Act.put, List.setIfInBounds_toArray, List.set_cons_succ, List.set_cons_zero]
  refine Go.FreshS.wpF_readsG (by rfl) rfl rfl ?_ (fun w' hw' => ?_) ?_
  rotate_left
  · have hb' := hw'.world
    skip
    clear hw'
    go_simp
    try rfl
  conv => arg 10; simp only [Act.put, List.setIfInBounds_toArray, List.set_cons_succ, List.set_cons_zero]
  refine Go.FreshS.wpF_readsG (by rfl) rfl rfl ?_ (fun w' hw' => ?_) ?_
  rotate_left
  · have hb' := hw'.world
    skip
    clear hw'
    go_simp
    try rfl
  conv => arg 10; simp only [Act.put, List.setIfInBounds_toArray, List.set_cons_succ, List.set_cons_zero]
  refine Go.FreshS.wpF_readsG (by rfl) rfl rfl ?_ (fun w' hw' => ?_) ?_
  rotate_left
  · have hb' := hw'.world
    skip
    clear hw'
    go_simp
    try rfl
  conv => arg 10; simp only [Act.put, List.setIfInBounds_toArray, List.set_cons_succ, List.set_cons_zero]
  refine Go.FreshS.wpF_readsG (by rfl) rfl rfl ?_ (fun w' hw' => ?_) ?_
  rotate_left
  · have hb' := hw'.world
    skip
    clear hw'
    go_simp
    try rfl
  conv => arg 10; simp only [Act.put, List.setIfInBounds_toArray, List.set_cons_succ, List.set_cons_zero]
  refine Go.FreshS.wpF_gspec (by rfl) rfl rfl (fun w' hw' => ?_) ?_
  · have hb' := hw'.world
    refine Go.FreshS.gives_of (Go.FreshS.PM (fun x : FV => x.v) (fun x w' => DF w' w22.heap.size x q28) FV.blk w'.heap.size) ?_ (fun _ _ h => h.post (fun _ _ => FV.inj))
    go_simp
    have CT := ofQ mn pq w' HRmn.out.1 HRmn.out.2 HRpq.out.1 HRpq.out.2 HNZpq.out
    rw [show ((mn : Int) : Rat) / ((pq : Int) : Rat) = q28 from Hq28.out.symm] at CT
    refine CT.mono ?_
    rintro e w'' ⟨za, rfl, ho, hb⟩
    exact ⟨_, rfl, ⟨za, rfl, ho.mono hb'.size, ho.blks⟩, hb⟩
  rintro _ ⟨y45, rfl⟩
  conv => arg 10; simp only [Act.put, List.setIfInBounds_toArray, List.set_cons_succ, List.set_cons_zero]
  refine Go.FreshS.wpF_gspec (by rfl) rfl rfl (fun w' hw' => ?_) ?_
  · have hb' := hw'.world
    refine Go.FreshS.gives_of (Go.FreshS.PK (.bool true)) ?_ (fun _ _ h => h.post)
    go_simp
    have f38 := Go.FreshS.made_of (val := (fun x : FV => x.v)) (Φ := fun x w' => DF w' w22.heap.size x q27) (fun _ _ => FV.inj) (hw'.fact 38 (by kernel_rfl))
    have f45 := Go.FreshS.made_of (val := (fun x : FV => x.v)) (Φ := fun x w' => DF w' w22.heap.size x q28) (fun _ _ => FV.inj) (hw'.fact 45 (by kernel_rfl))
    have CT := qsame (f38).k (((f38).k).len LQq27.out (by decide : _ ≤ 900000)) (f45).k (((f45).k).len LQq28.out (by decide : _ ≤ 900000)) (by simp only [Hq28.out, Hq27.out, Hq26.out, Hq25.out, Hq24.out, Hq23.out, Hq21.out, Hq15.out, Hq9.out, Hq3.out]; rw [H_mn.out, H_pq.out]; exact small4 HNZp.out HNZq.out)
    refine CT.mono ?_
    rintro e w'' ⟨rfl, hb⟩
    exact ⟨_, rfl, rfl, hb⟩
  rintro _ rfl
  conv => arg 10; simp only [Act.put, List.setIfInBounds_toArray, List.set_cons_succ, List.set_cons_zero]
  refine Go.FreshS.wpF_reads rfl rfl rfl ?_ (fun w' hw' => ?_) ?_
  rotate_left
  · have hb' := hw'.world
    skip
    clear hw'
    go_simp
    try rfl
  conv => arg 10; simp only [Act.put, List.setIfInBounds_toArray, List.set_cons_succ, List.set_cons_zero]
  refine Go.FreshS.wpF_reads rfl rfl rfl ?_ (fun w' hw' => ?_) ?_
  rotate_left
  · have hb' := hw'.world
    skip
    clear hw'
    go_simp
    try rfl
  conv => arg 10; simp only [Act.put, List.setIfInBounds_toArray, List.set_cons_succ, List.set_cons_zero]
  refine Go.FreshS.wpF_readsG (by rfl) rfl rfl ?_ (fun w' hw' => ?_) ?_
  rotate_left
  · have hb' := hw'.world
    have hs0 := (BX7.out.below hb' BX7.out.lt).cell (i := 0) rfl
    have hs1 := (BX7.out.below hb' BX7.out.lt).cell (i := 1) rfl
    have hs2 := (BX7.out.below hb' BX7.out.lt).cell (i := 2) rfl
    have hs3 := (BX7.out.below hb' BX7.out.lt).cell (i := 3) rfl
    have hsf := (BX7.out.below hb' BX7.out.lt).fz
    have hsl := (BX7.out.below hb' BX7.out.lt).lt
    clear hw'
    go_simp
    try rfl
  conv => arg 10; simp only [Act.put, List.setIfInBounds_toArray, List.set_cons_succ, List.set_cons_zero]
  refine Go.FreshS.wpF_readsG (by rfl) rfl rfl ?_ (fun w' hw' => ?_) ?_
  rotate_left
  · have hb' := hw'.world
    have hs0 := (BX13.out.below hb' BX13.out.lt).cell (i := 0) rfl
    have hs1 := (BX13.out.below hb' BX13.out.lt).cell (i := 1) rfl
    have hs2 := (BX13.out.below hb' BX13.out.lt).cell (i := 2) rfl
    have hs3 := (BX13.out.below hb' BX13.out.lt).cell (i := 3) rfl
    have hsf := (BX13.out.below hb' BX13.out.lt).fz
    have hsl := (BX13.out.below hb' BX13.out.lt).lt
    clear hw'
    go_simp
    try rfl
  conv => arg 10; simp only [Act.put, List.setIfInBounds_toArray, List.set_cons_succ, List.set_cons_zero]
  refine Go.FreshS.wpF_gspec (by rfl) rfl rfl (fun w' hw' => ?_) ?_
  · have hb' := hw'.world
    refine Go.FreshS.gives_of (Go.FreshS.PK (.int .i64 cc)) ?_ (fun _ _ h => h.post)
    go_simp
    have CT := qcmp ((N6.out.below hb')).k.any ((((N6.out.below hb')).k).len LQq3.out (by decide : _ ≤ 900000)) ((N12.out.below hb')).k.any ((((N12.out.below hb')).k).len LQq9.out (by decide : _ ≤ 900000))
    rw [show cmpQ q3 q9 = cc from by simp only [Hq28.out, Hq27.out, Hq26.out, Hq25.out, Hq24.out, Hq23.out, Hq21.out, Hq15.out, Hq9.out, Hq3.out]; exact HCC.out.symm] at CT
    refine CT.mono ?_
    rintro e w'' ⟨rfl, hb⟩
    exact ⟨_, rfl, rfl, hb⟩
  rintro _ rfl
  conv => arg 10; simp only [Act.put, List.setIfInBounds_toArray, List.set_cons_succ, List.set_cons_zero]
  refine Go.FreshS.wpF_readsG (by rfl) rfl rfl ?_ (fun w' hw' => ?_) ?_
  rotate_left
  · have hb' := hw'.world
    skip
    clear hw'
    go_simp
    try rfl
  conv => arg 10; simp only [Act.put, List.setIfInBounds_toArray, List.set_cons_succ, List.set_cons_zero]
  refine Go.FreshS.wpF_readsG (by rfl) rfl rfl ?_ (fun w' hw' => ?_) ?_
  rotate_left
  · have hb' := hw'.world
    skip
    clear hw'
    go_simp
    try rfl
  conv => arg 10; simp only [Act.put, List.setIfInBounds_toArray, List.set_cons_succ, List.set_cons_zero]
  refine Go.FreshS.wpF_readsG (by rfl) rfl rfl ?_ (fun w' hw' => ?_) ?_
  rotate_left
  · have hb' := hw'.world
    skip
    clear hw'
    go_simp
    try rfl
  conv => arg 10; simp only [Act.put, List.setIfInBounds_toArray, List.set_cons_succ, List.set_cons_zero]
  refine Go.FreshS.wpF_readsG (by rfl) rfl rfl ?_ (fun w' hw' => ?_) ?_
  rotate_left
  · have hb' := hw'.world
    skip
    clear hw'
    go_simp
    try rfl
  conv => arg 10; simp only [Act.put, List.setIfInBounds_toArray, List.set_cons_succ, List.set_cons_zero]
  refine Go.FreshS.wpF_readsG (by rfl) rfl rfl ?_ (fun w' hw' => ?_) ?_
  rotate_left
  · have hb' := hw'.world
    skip
    clear hw'
    go_simp
    try rfl
  conv => arg 10; simp only [Act.put, List.setIfInBounds_toArray, List.set_cons_succ, List.set_cons_zero]
  refine Go.FreshS.wpF_readsG (by rfl) rfl rfl ?_ (fun w' hw' => ?_) ?_
  rotate_left
  · have hb' := hw'.world
    skip
    clear hw'
    go_simp
    try rfl
  conv => arg 10; simp only [Act.put, List.setIfInBounds_toArray, List.set_cons_succ, List.set_cons_zero]
  refine Go.FreshS.wpF_readsG (by rfl) rfl rfl ?_ (fun w' hw' => ?_) ?_
  rotate_left
  · have hb' := hw'.world
    skip
    clear hw'
    go_simp
    try rfl
  conv => arg 10; simp only [Act.put, List.setIfInBounds_toArray, List.set_cons_succ, List.set_cons_zero]
  refine Go.FreshS.wpF_readsG (by rfl) rfl rfl ?_ (fun w' hw' => ?_) ?_
  rotate_left
  · have hb' := hw'.world
    skip
    clear hw'
    go_simp
    try rfl
  conv => arg 10; simp only [Act.put, List.setIfInBounds_toArray, List.set_cons_succ, List.set_cons_zero]
  refine Go.FreshS.wpF_readsG (by rfl) rfl rfl ?_ (fun w' hw' => ?_) ?_
  rotate_left
  · have hb' := hw'.world
    skip
    clear hw'
    go_simp
    try rfl
  conv => arg 10; simp only [Act.put, List.setIfInBounds_toArray, List.set_cons_succ, List.set_cons_zero]
  refine Go.FreshS.wpF_reads rfl rfl rfl ?_ (fun w' hw' => ?_) ?_
  rotate_left
  · have hb' := hw'.world
    skip
    clear hw'
    go_simp
    try rfl
  conv => arg 10; simp only [Act.put, List.setIfInBounds_toArray, List.set_cons_succ, List.set_cons_zero]
  refine Go.FreshS.wpF_reads rfl rfl rfl ?_ (fun w' hw' => ?_) ?_
  rotate_left
  · have hb' := hw'.world
    skip
    clear hw'
    go_simp
    try rfl
  conv => arg 10; simp only [Act.put, List.setIfInBounds_toArray, List.set_cons_succ, List.set_cons_zero]
  refine Go.FreshS.wpF_readsG (by rfl) rfl rfl ?_ (fun w' hw' => ?_) ?_
  rotate_left
  · have hb' := hw'.world
    have hs0 := (BX7.out.below hb' BX7.out.lt).cell (i := 0) rfl
    have hs1 := (BX7.out.below hb' BX7.out.lt).cell (i := 1) rfl
    have hs2 := (BX7.out.below hb' BX7.out.lt).cell (i := 2) rfl
    have hs3 := (BX7.out.below hb' BX7.out.lt).cell (i := 3) rfl
    have hsf := (BX7.out.below hb' BX7.out.lt).fz
    have hsl := (BX7.out.below hb' BX7.out.lt).lt
    clear hw'
    go_simp
    try rfl
  conv => arg 10; simp only [Act.put, List.setIfInBounds_toArray, List.set_cons_succ, List.set_cons_zero]
  refine Go.FreshS.wpF_gspec (by rfl) rfl rfl (fun w' hw' => ?_) ?_
  · have hb' := hw'.world
    refine Go.FreshS.gives_of (Go.FreshS.PK (.bool wb)) ?_ (fun _ _ h => h.post)
    go_simp
    have CT := qwhole x5 q3 w' ((N6.out.below hb')).k.any ((((N6.out.below hb')).k).len LQq3.out (by decide : _ ≤ 100)) (LQq3.out.up (by decide : _ ≤ 101))
    rw [show decide ((q3.den : Int) = 1) = wb from by simp only [Hq28.out, Hq27.out, Hq26.out, Hq25.out, Hq24.out, Hq23.out, Hq21.out, Hq15.out, Hq9.out, Hq3.out]; exact HWB.out] at CT
    refine CT.mono ?_
    rintro e w'' ⟨rfl, hb⟩
    exact ⟨_, rfl, rfl, hb⟩
  rintro _ rfl
  conv => arg 10; simp only [Act.put, List.setIfInBounds_toArray, List.set_cons_succ, List.set_cons_zero]
  refine Go.FreshS.wpF_readsG (by rfl) rfl rfl ?_ (fun w' hw' => ?_) ?_
  rotate_left
  · have hb' := hw'.world
    skip
    clear hw'
    go_simp
    try rfl
  conv => arg 10; simp only [Act.put, List.setIfInBounds_toArray, List.set_cons_succ, List.set_cons_zero]
  refine Go.FreshS.wpF_readsG (by rfl) rfl rfl ?_ (fun w' hw' => ?_) ?_
  rotate_left
  · have hb' := hw'.world
    skip
    clear hw'
    go_simp
    try rfl
  conv => arg 10; simp only [Act.put, List.setIfInBounds_toArray, List.set_cons_succ, List.set_cons_zero]
  refine Go.FreshS.wpF_readsG (by rfl) rfl rfl ?_ (fun w' hw' => ?_) ?_
  rotate_left
  · have hb' := hw'.world
    have fp1 : ¬ (p = 0) := HNZp.out
    clear hw'
    go_simp
    try rfl
  conv => arg 10; simp only [Act.put, List.setIfInBounds_toArray, List.set_cons_succ, List.set_cons_zero]
  refine Go.FreshS.wpF_readsG (by rfl) rfl rfl ?_ (fun w' hw' => ?_) ?_
  rotate_left
  · have hb' := hw'.world
    skip
    clear hw'
    go_simp
    try rfl
  conv => arg 10; simp only [Act.put, List.setIfInBounds_toArray, List.set_cons_succ, List.set_cons_zero]
  refine Go.FreshS.wpF_readsG (by rfl) rfl rfl ?_ (fun w' hw' => ?_) ?_
  rotate_left
  · have hb' := hw'.world
    skip
    clear hw'
    go_simp
    try rfl
  conv => arg 10; simp only [Act.put, List.setIfInBounds_toArray, List.set_cons_succ, List.set_cons_zero]
  refine Go.FreshS.wpF_reads rfl rfl rfl ?_ (fun w' hw' => ?_) ?_
  rotate_left
  · have hb' := hw'.world
    skip
    clear hw'
    go_simp
    try rfl
  conv => arg 10; simp only [Act.put, List.setIfInBounds_toArray, List.set_cons_succ, List.set_cons_zero]
  refine Go.FreshS.wpF_reads rfl rfl rfl ?_ (fun w' hw' => ?_) ?_
  rotate_left
  · have hb' := hw'.world
    skip
    clear hw'
    go_simp
    try rfl
  conv => arg 10; simp only [Act.put, List.setIfInBounds_toArray, List.set_cons_succ, List.set_cons_zero]
  refine Go.FreshS.wpF_readsG (by rfl) rfl rfl ?_ (fun w' hw' => ?_) ?_
  rotate_left
  · have hb' := hw'.world
    skip
    clear hw'
    go_simp
    try rfl
  conv => arg 10; simp only [Act.put, List.setIfInBounds_toArray, List.set_cons_succ, List.set_cons_zero]
  refine Go.FreshS.wpF_gspec (by rfl) rfl rfl (fun w' hw' => ?_) ?_
  · have hb' := hw'.world
    refine Go.FreshS.gives_of (Go.FreshS.PM (fun x : FV => x.v) (fun x w' => DF w' w22.heap.size x q29) FV.blk w'.heap.size) ?_ (fun _ _ h => h.post (fun _ _ => FV.inj))
    go_simp
    have CT := qof m w' HRm.out.1 HRm.out.2
    rw [show ((m : Int) : Rat) = q29 from Hq29.out.symm] at CT
    refine CT.mono ?_
    rintro e w'' ⟨za, rfl, ho, hb⟩
    exact ⟨_, rfl, ⟨za, rfl, ho.mono hb'.size, ho.blks⟩, hb⟩
  rintro _ ⟨y73, rfl⟩
  conv => arg 10; simp only [Act.put, List.setIfInBounds_toArray, List.set_cons_succ, List.set_cons_zero]
  refine Go.FreshS.wpF_readsG (by rfl) rfl rfl ?_ (fun w' hw' => ?_) ?_
  rotate_left
  · have hb' := hw'.world
    skip
    clear hw'
    go_simp
    try rfl
  conv => arg 10; simp only [Act.put, List.setIfInBounds_toArray, List.set_cons_succ, List.set_cons_zero]
  refine Go.FreshS.wpF_gspec (by rfl) rfl rfl (fun w' hw' => ?_) ?_
  · have hb' := hw'.world
    refine Go.FreshS.gives_of (Go.FreshS.PM (fun x : FV => x.v) (fun x w' => DF w' w22.heap.size x q30) FV.blk w'.heap.size) ?_ (fun _ _ h => h.post (fun _ _ => FV.inj))
    go_simp
    have CT := ofQ m 1 w' HRm.out.1 HRm.out.2 (by decide) (by decide) (by decide)
    rw [show ((m : Int) : Rat) / ((1 : Int) : Rat) = q30 from Hq30.out.symm] at CT
    refine CT.mono ?_
    rintro e w'' ⟨za, rfl, ho, hb⟩
    exact ⟨_, rfl, ⟨za, rfl, ho.mono hb'.size, ho.blks⟩, hb⟩
  rintro _ ⟨y75, rfl⟩
  conv => arg 10; simp only [Act.put, List.setIfInBounds_toArray, List.set_cons_succ, List.set_cons_zero]
  refine Go.FreshS.wpF_gspec (by rfl) rfl rfl (fun w' hw' => ?_) ?_
  · have hb' := hw'.world
    refine Go.FreshS.gives_of (Go.FreshS.PK (.bool true)) ?_ (fun _ _ h => h.post)
    go_simp
    have f73 := Go.FreshS.made_of (val := (fun x : FV => x.v)) (Φ := fun x w' => DF w' w22.heap.size x q29) (fun _ _ => FV.inj) (hw'.fact 73 (by kernel_rfl))
    have f75 := Go.FreshS.made_of (val := (fun x : FV => x.v)) (Φ := fun x w' => DF w' w22.heap.size x q30) (fun _ _ => FV.inj) (hw'.fact 75 (by kernel_rfl))
    have CT := qsame (f73).k (((f73).k).len LQq29.out (by decide : _ ≤ 900000)) (f75).k (((f75).k).len LQq30.out (by decide : _ ≤ 900000)) (by simp only [Hq30.out, Hq29.out, Hq28.out, Hq27.out, Hq26.out, Hq25.out, Hq24.out, Hq23.out, Hq21.out, Hq15.out, Hq9.out, Hq3.out]; exact small5 m)
    refine CT.mono ?_
    rintro e w'' ⟨rfl, hb⟩
    exact ⟨_, rfl, rfl, hb⟩
  rintro _ rfl
  conv => arg 10; simp only [Act.put, List.setIfInBounds_toArray, List.set_cons_succ, List.set_cons_zero]
  refine Go.FreshS.wpF_reads rfl rfl rfl ?_ (fun w' hw' => ?_) ?_
  rotate_left
  · have hb' := hw'.world
    skip
    clear hw'
    go_simp
    try rfl
  conv => arg 10; simp only [Act.put, List.setIfInBounds_toArray, List.set_cons_succ, List.set_cons_zero]
  refine Go.FreshS.wpF_reads rfl rfl rfl ?_ (fun w' hw' => ?_) ?_
  rotate_left
  · have hb' := hw'.world
    skip
    clear hw'
    go_simp
    try rfl
  conv => arg 10; simp only [Act.put, List.setIfInBounds_toArray, List.set_cons_succ, List.set_cons_zero]
  refine Go.FreshS.wpF_readsG (by rfl) rfl rfl ?_ (fun w' hw' => ?_) ?_
  rotate_left
  · have hb' := hw'.world
    skip
    clear hw'
    go_simp
    try rfl
  conv => arg 10; simp only [Act.put, List.setIfInBounds_toArray, List.set_cons_succ, List.set_cons_zero]
  refine Go.FreshS.wpF_readsG (by rfl) rfl rfl ?_ (fun w' hw' => ?_) ?_
  rotate_left
  · have hb' := hw'.world
    skip
    clear hw'
    go_simp
    try rfl
  conv => arg 10; simp only [Act.put, List.setIfInBounds_toArray, List.set_cons_succ, List.set_cons_zero]
  refine Go.FreshS.wpF_readsG (by rfl) rfl rfl ?_ (fun w' hw' => ?_) ?_
  rotate_left
  · have hb' := hw'.world
    skip
    clear hw'
    go_simp
    try rfl
  conv => arg 10; simp only [Act.put, List.setIfInBounds_toArray, List.set_cons_succ, List.set_cons_zero]
  refine Go.FreshS.wpF_readsG (by rfl) rfl rfl ?_ (fun w' hw' => ?_) ?_
  rotate_left
  · have hb' := hw'.world
    skip
    clear hw'
    go_simp
    try rfl
  conv => arg 10; simp only [Act.put, List.setIfInBounds_toArray, List.set_cons_succ, List.set_cons_zero]
  refine Go.FreshS.wpF_gspec (by rfl) rfl rfl (fun w' hw' => ?_) ?_
  · have hb' := hw'.world
    refine Go.FreshS.gives_of (Go.FreshS.PM (fun x : FV => x.v) (fun x w' => DF w' w22.heap.size x q31) FV.blk w'.heap.size) ?_ (fun _ _ h => h.post (fun _ _ => FV.inj))
    go_simp
    have CT := ofQ nm ngp w' HRnm.out.1 HRnm.out.2 HRngp.out.1 HRngp.out.2 HNZngp.out
    rw [show ((nm : Int) : Rat) / ((ngp : Int) : Rat) = q31 from Hq31.out.symm] at CT
    refine CT.mono ?_
    rintro e w'' ⟨za, rfl, ho, hb⟩
    exact ⟨_, rfl, ⟨za, rfl, ho.mono hb'.size, ho.blks⟩, hb⟩
  rintro _ ⟨y83, rfl⟩
  conv => arg 10; simp only [Act.put, List.setIfInBounds_toArray, List.set_cons_succ, List.set_cons_zero]
  refine Go.FreshS.wpF_readsG (by rfl) rfl rfl ?_ (fun w' hw' => ?_) ?_
  rotate_left
  · have hb' := hw'.world
    have hs0 := (BX7.out.below hb' BX7.out.lt).cell (i := 0) rfl
    have hs1 := (BX7.out.below hb' BX7.out.lt).cell (i := 1) rfl
    have hs2 := (BX7.out.below hb' BX7.out.lt).cell (i := 2) rfl
    have hs3 := (BX7.out.below hb' BX7.out.lt).cell (i := 3) rfl
    have hsf := (BX7.out.below hb' BX7.out.lt).fz
    have hsl := (BX7.out.below hb' BX7.out.lt).lt
    clear hw'
    go_simp
    try rfl
  conv => arg 10; simp only [Act.put, List.setIfInBounds_toArray, List.set_cons_succ, List.set_cons_zero]
  refine Go.FreshS.wpF_gspec (by rfl) rfl rfl (fun w' hw' => ?_) ?_
  · have hb' := hw'.world
    refine Go.FreshS.gives_of (Go.FreshS.PK (.bool true)) ?_ (fun _ _ h => h.post)
    go_simp
    have f83 := Go.FreshS.made_of (val := (fun x : FV => x.v)) (Φ := fun x w' => DF w' w22.heap.size x q31) (fun _ _ => FV.inj) (hw'.fact 83 (by kernel_rfl))
    have CT := qsame (f83).k (((f83).k).len LQq31.out (by decide : _ ≤ 900000)) ((N6.out.below hb')).k ((((N6.out.below hb')).k).len LQq3.out (by decide : _ ≤ 900000)) (by simp only [Hq31.out, Hq30.out, Hq29.out, Hq28.out, Hq27.out, Hq26.out, Hq25.out, Hq24.out, Hq23.out, Hq21.out, Hq15.out, Hq9.out, Hq3.out]; rw [H_nm.out, H_ngp.out]; exact small6 HNZp.out)
    refine CT.mono ?_
    rintro e w'' ⟨rfl, hb⟩
    exact ⟨_, rfl, rfl, hb⟩
  rintro _ rfl
  conv => arg 10; simp only [Act.put, List.setIfInBounds_toArray, List.set_cons_succ, List.set_cons_zero]
  refine Go.FreshS.wpF_reads rfl rfl rfl ?_ (fun w' hw' => ?_) ?_
  rotate_left
  · have hb' := hw'.world
    skip
    clear hw'
    go_simp
    try rfl
  conv => arg 10; simp only [Act.put, List.setIfInBounds_toArray, List.set_cons_succ, List.set_cons_zero]
  refine Go.FreshS.wpF_reads rfl rfl rfl ?_ (fun w' hw' => ?_) ?_
  rotate_left
  · have hb' := hw'.world
    skip
    clear hw'
    go_simp
    try rfl
  conv => arg 10; simp only [Act.put, List.setIfInBounds_toArray, List.set_cons_succ, List.set_cons_zero]
  refine Go.FreshS.wpF_readsG (by rfl) rfl rfl ?_ (fun w' hw' => ?_) ?_
  rotate_left
  · have hb' := hw'.world
    skip
    clear hw'
    go_simp
    try rfl
  conv => arg 10; simp only [Act.put, List.setIfInBounds_toArray, List.set_cons_succ, List.set_cons_zero]
  refine Go.FreshS.wpF_readsG (by rfl) rfl rfl ?_ (fun w' hw' => ?_) ?_
  rotate_left
  · have hb' := hw'.world
    skip
    clear hw'
    go_simp
    try rfl
  conv => arg 10; simp only [Act.put, List.setIfInBounds_toArray, List.set_cons_succ, List.set_cons_zero]
  refine Go.FreshS.wpF_readsG (by rfl) rfl rfl ?_ (fun w' hw' => ?_) ?_
  rotate_left
  · have hb' := hw'.world
    skip
    clear hw'
    go_simp
    try rfl
  conv => arg 10; simp only [Act.put, List.setIfInBounds_toArray, List.set_cons_succ, List.set_cons_zero]
  refine Go.FreshS.wpF_gspec (by rfl) rfl rfl (fun w' hw' => ?_) ?_
  · have hb' := hw'.world
    refine Go.FreshS.gives_of (Go.FreshS.PM (fun x : FV => x.v) (fun x w' => DF w' w22.heap.size x q32) FV.blk w'.heap.size) ?_ (fun _ _ h => h.post (fun _ _ => FV.inj))
    go_simp
    have CT := ofQ m ngp w' HRm.out.1 HRm.out.2 HRngp.out.1 HRngp.out.2 HNZngp.out
    rw [show ((m : Int) : Rat) / ((ngp : Int) : Rat) = q32 from Hq32.out.symm] at CT
    refine CT.mono ?_
    rintro e w'' ⟨za, rfl, ho, hb⟩
    exact ⟨_, rfl, ⟨za, rfl, ho.mono hb'.size, ho.blks⟩, hb⟩
  rintro _ ⟨y91, rfl⟩
  conv => arg 10; simp only [Act.put, List.setIfInBounds_toArray, List.set_cons_succ, List.set_cons_zero]
  refine Go.FreshS.wpF_gspec (by rfl) rfl rfl (fun w' hw' => ?_) ?_
  · have hb' := hw'.world
    refine Go.FreshS.gives_of (Go.FreshS.PK (.int .i64 sy)) ?_ (fun _ _ h => h.post)
    go_simp
    have f91 := Go.FreshS.made_of (val := (fun x : FV => x.v)) (Φ := fun x w' => DF w' w22.heap.size x q32) (fun _ _ => FV.inj) (hw'.fact 91 (by kernel_rfl))
    have CT := qsign (f91).k.any (((f91).k).len LQq32.out (by decide : _ ≤ 900000))
    rw [show cmpZ q32.num 0 = sy from by simp only [Hq32.out, Hq31.out, Hq30.out, Hq29.out, Hq28.out, Hq27.out, Hq26.out, Hq25.out, Hq24.out, Hq23.out, Hq21.out, Hq15.out, Hq9.out, Hq3.out]; exact HSY.out.symm] at CT
    refine CT.mono ?_
    rintro e w'' ⟨rfl, hb⟩
    exact ⟨_, rfl, rfl, hb⟩
  rintro _ rfl
  conv => arg 10; simp only [Act.put, List.setIfInBounds_toArray, List.set_cons_succ, List.set_cons_zero]
  refine Go.FreshS.wpF_readsG (by rfl) rfl rfl ?_ (fun w' hw' => ?_) ?_
  rotate_left
  · have hb' := hw'.world
    have hs0 := (BX7.out.below hb' BX7.out.lt).cell (i := 0) rfl
    have hs1 := (BX7.out.below hb' BX7.out.lt).cell (i := 1) rfl
    have hs2 := (BX7.out.below hb' BX7.out.lt).cell (i := 2) rfl
    have hs3 := (BX7.out.below hb' BX7.out.lt).cell (i := 3) rfl
    have hsf := (BX7.out.below hb' BX7.out.lt).fz
    have hsl := (BX7.out.below hb' BX7.out.lt).lt
    clear hw'
    go_simp
    try rfl
  conv => arg 10; simp only [Act.put, List.setIfInBounds_toArray, List.set_cons_succ, List.set_cons_zero]
  refine Go.FreshS.wpF_gspec (by rfl) rfl rfl (fun w' hw' => ?_) ?_
  · have hb' := hw'.world
    refine Go.FreshS.gives_of (Go.FreshS.PK (.int .i64 sx)) ?_ (fun _ _ h => h.post)
    go_simp
    have CT := qsign ((N6.out.below hb')).k.any ((((N6.out.below hb')).k).len LQq3.out (by decide : _ ≤ 900000))
    rw [show cmpZ q3.num 0 = sx from by simp only [Hq32.out, Hq31.out, Hq30.out, Hq29.out, Hq28.out, Hq27.out, Hq26.out, Hq25.out, Hq24.out, Hq23.out, Hq21.out, Hq15.out, Hq9.out, Hq3.out]; exact HSX.out.symm] at CT
    refine CT.mono ?_
    rintro e w'' ⟨rfl, hb⟩
    exact ⟨_, rfl, rfl, hb⟩
  rintro _ rfl
  conv => arg 10; simp only [Act.put, List.setIfInBounds_toArray, List.set_cons_succ, List.set_cons_zero]
  refine Go.FreshS.wpF_readsG (by rfl) rfl rfl ?_ (fun w' hw' => ?_) ?_
  rotate_left
  · have hb' := hw'.world
    skip
    clear hw'
    go_simp
    try rfl
  conv => arg 10; simp only [Act.put, List.setIfInBounds_toArray, List.set_cons_succ, List.set_cons_zero]
  refine Go.FreshS.wpF_readsG (by rfl) rfl rfl ?_ (fun w' hw' => ?_) ?_
  rotate_left
  · have hb' := hw'.world
    skip
    clear hw'
    go_simp
    try rfl
  conv => arg 10; simp only [Act.put, List.setIfInBounds_toArray, List.set_cons_succ, List.set_cons_zero]
  refine Go.FreshS.wpF_reads rfl rfl rfl ?_ (fun w' hw' => ?_) ?_
  rotate_left
  · have hb' := hw'.world
    skip
    clear hw'
    go_simp
    try rfl
  conv => arg 10; simp only [Act.put, List.setIfInBounds_toArray, List.set_cons_succ, List.set_cons_zero]
  refine Go.FreshS.wpF_nil (fun w33 hb hF => ?_)
  clear hF
  clear N6
  clear N12
  clear BX7
  clear BX13
  have KG := Lib.hid (KG.out.trans (hb.mono KG.out.size))
  clear hb
  go_wp2_with fail
  go_ret
  exact ⟨rfl, KG.out⟩
theorem fracsSmall_law (m n b0 b1 : Int) (w : World) (htab : Tab w) (hm1 : -32768 ≤ m) (hm2 : m ≤ 32767) (hn1 : -32768 ≤ n) (hn2 : n ≤ 32767) (hb0 : 0 ≤ b0 ∧ b0 ≤ 65535) (hb1 : 0 ≤ b1 ∧ b1 ≤ 65535) :
    Calls Tryz.prog 9 #[.int .i16 m, .int .i16 n, .agg #[.int .u16 b0, .int .u16 b1]] w fun e w' => e = .returned (.bool true) ∧ Below w.heap.size w w' := by
  by_cases hz : n = 0
  · exact small_zero m n b0 b1 w htab ⟨hm1, hm2⟩ ⟨hn1, hn2⟩ hb0 hb1 hz
  · exact small_ok m n b0 b1 w htab ⟨hm1, hm2⟩ ⟨hn1, hn2⟩ hb0 hb1 hz
end Go.Proofs.YtklidpbdgliemaaGreatDoor.Limb
