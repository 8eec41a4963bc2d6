/-
  The walks of the law's helpers: SameLimbs, SameNum, LeftLimbs, LeftNum.
  The walk of a Book's lookLimb: all marks are there.
  The walk of below of package limbs.
  The walk of a Book's Apart: no two lists share memory.
  The walks of a Book's keepLimb, Limbs, Num: one list more.
  The walks of a Book's Limbs and Num.
  The walk of divide's closure of package limbs; parts put into an own list by copy.
  The walk of divide of package limbs.
  The walks of the law's helpers: TwinLimbs, TwinNum, greatNum.
  The walk of greatNum: has one of some numbers more parts than are gone through?
  Numbers that a law has made: their variables, their lists, no two in one block; a Book of them; guarded operations in a drawn region.
-/
import Derived.Test.YtkpajfjjhbbieaaGreatDoorPoC
import Derived.Laws.CopyRow
import Derived.Deep.DeepCutAuto
import Derived.Deep.RegionHeld3
import Derived.WalkMore
import Derived.Laws.MakeOwn
set_option linter.unusedSimpArgs false
set_option linter.unusedVariables false
namespace Go.Proofs.YtkpajfjjhbbieaaGreatDoor.Limb
open Go.RowKit Go.Sort Go.Fresh

set_option maxHeartbeats 1000000 in
theorem sameLimbs_any (a b : Option Addr) (n ca cb : Nat) (o : Nat → Int) (w : World) (ha : Rd w a n o) (hb : Rd w b n o) (hn : n ≤ 1000000000) :
    Calls Tryz.prog 33 #[.slice a n ca, .slice b n cb] w fun e w' => e = .returned (.bool true) ∧ ∃ m, w' = w.drewN m := by
  have HA := Lib.hid ha; have HB := Lib.hid hb
  clear ha hb
  go_enter Tryz.func33, Tryz.ntmps33
  go_wp2_with fail
  go_loopw [5] (fun i wr => ∃ t : Nat, t ≤ n ∧ i = .int .i64 t ∧ ∃ m, wr = w.drewN m) (fun i _ => n - (intOf i).toNat)
  case atStart => exact ⟨0, by omega, rfl, 0, rfl⟩
  case round =>
    obtain ⟨t, htn, rfl, hm⟩ := hrel
    have HM := Lib.hid hm
    have cw : ∀ p, wr.cell? p = w.cell? p := by obtain ⟨m, rfl⟩ := hm; intro p; rfl
    clear hm
    by_cases ht : t < n
    · obtain ⟨b1, o1, rfl, hc1⟩ := HA.out.cells (by omega)
      obtain ⟨b2, o2, rfl, hc2⟩ := HB.out.cells (by omega)
      have c1 : wr.cell? ⟨b1, o1 + t, none⟩ = some (.int .u32 (o t)) := (cw _).trans (hc1 t ht)
      have c2 : wr.cell? ⟨b2, o2 + t, none⟩ = some (.int .u32 (o t)) := (cw _).trans (hc2 t ht)
      clear hc1 hc2 cw
      go_wp2_with fail
      go_quiet (fail)
      go_wp2_with fail
      go_roundw
      case rel => exact ⟨t + 1, by omega, by go_num, by obtain ⟨m, e⟩ := HM.out; exact ⟨_, by rw [e, World.drewN_drewN]⟩⟩
      case measure => simp [intOf]; omega
    · obtain rfl : t = n := by omega
      go_wp2_with fail
      go_ret
      exact ⟨rfl, HM.out⟩

set_option maxHeartbeats 1000000 in
theorem sameNum_any (s : Bool) (a b : Option Addr) (n ca cb : Nat) (o : Nat → Int) (w : World) (ha : Rd w a n o) (hb : Rd w b n o) (hn : n ≤ 1000000000) :
    Calls Tryz.prog 24 #[numV s a n ca, numV s b n cb] w fun e w' => e = .returned (.bool true) ∧ Below w.heap.size w w' := by
  have HC := Lib.hid (fun (w' : World) (h : Below w.heap.size w w') => sameLimbs_any a b n ca cb o w' (ha.below h) (hb.below h) hn)
  have es : (s == s) = true := by simp
  clear ha hb
  go_enter Tryz.func24, Tryz.ntmps24
  go_wp2_with fail
  refine (HC.out _ ?_).mono ?_
  · (repeat' (first | (with_reducible exact Below.refl _ _) | (with_reducible assumption) | (with_reducible refine Below.alloc ?_ ?_ _) | (with_reducible refine Below.drew ?_) | (with_reducible refine bdrewN ?_ _) | (with_reducible refine Below.setCell ?_ ?_ _) | (with_reducible refine Below.frame ?_ _) | go_size))
  rintro e w1 ⟨rfl, m, rfl⟩
  go_wp2_with fail
  go_ret
  exact ⟨rfl, by (repeat' (first | (with_reducible exact Below.refl _ _) | (with_reducible assumption) | (with_reducible refine Below.alloc ?_ ?_ _) | (with_reducible refine Below.drew ?_) | (with_reducible refine bdrewN ?_ _) | (with_reducible refine Below.setCell ?_ ?_ _) | (with_reducible refine Below.frame ?_ _) | go_size))⟩

/-- A copy with a mark in the room behind. -/
def tw (o : Nat → Int) (n i : Nat) : Int := if i < n then o i else 77

set_option maxHeartbeats 1000000 in
theorem leftLimbs_any (g : Nat) (a : Option Addr) (n ca : Nat) (o : Nat → Int) (w : World) (ht : Rd w (some ⟨g, 0, none⟩) (n + 1) (tw o n)) (ha : Rd w a n o) (hn : n ≤ 1000000000) :
    Calls Tryz.prog 60 #[.slice (some ⟨g, 0, none⟩) n (n + 1), .slice a n ca] w fun e w' => e = .returned (.bool true) ∧ ∃ m, w' = w.drewN m := by
  have HA := Lib.hid ha; have HT := Lib.hid ht
  have e1 := IntWalk.i64_in ((n : Int) + 1) (by omega)
  have ec : ((n + 1 : Nat) : Int) = (n : Int) + 1 := by omega
  have x1 : ¬ ((n : Int) + 1 ≤ (n : Int)) := by omega
  clear ha ht
  go_enter Tryz.func60, Tryz.ntmps60
  go_wp2_with fail
  go_loopw [5] (fun i wr => ∃ t : Nat, t ≤ n ∧ i = .int .i64 t ∧ ∃ m, wr = w.drewN m) (fun i _ => n - (intOf i).toNat)
  case atStart => exact ⟨0, by omega, rfl, 0, rfl⟩
  case round =>
    obtain ⟨t, htn, rfl, hm⟩ := hrel
    have HM := Lib.hid hm
    have cw : ∀ p, wr.cell? p = w.cell? p := by obtain ⟨m, rfl⟩ := hm; intro p; rfl
    clear hm
    obtain ⟨b1, o1, eb, hc1⟩ := HT.out.cells (by omega)
    cases eb
    by_cases ht : t < n
    · obtain ⟨b2, o2, rfl, hc2⟩ := HA.out.cells (by omega)
      have c1 : wr.cell? ⟨g, t, none⟩ = some (.int .u32 (o t)) := by
        have h := (cw _).trans (hc1 t (by omega))
        rw [Nat.zero_add] at h
        rw [h]; show some (Value.int .u32 (if t < n then o t else 77)) = _; rw [if_pos ht]
      have c2 : wr.cell? ⟨b2, o2 + t, none⟩ = some (.int .u32 (o t)) := (cw _).trans (hc2 t ht)
      clear hc1 hc2 cw
      go_wp2_with fail
      go_quiet (fail)
      go_wp2_with fail
      go_roundw
      case rel => exact ⟨t + 1, by omega, by go_num, by obtain ⟨m, e⟩ := HM.out; exact ⟨_, by rw [e, World.drewN_drewN]⟩⟩
      case measure => simp [intOf]; omega
    · obtain rfl : t = n := by omega
      have c1 : wr.cell? ⟨g, t, none⟩ = some (.int .u32 77) := by
        have h := (cw _).trans (hc1 t (by omega))
        rw [Nat.zero_add] at h
        rw [h]; show some (Value.int .u32 (if t < t then o t else 77)) = _; rw [if_neg (by omega)]
      clear hc1 cw
      go_wp2_with fail
      go_ret
      exact ⟨rfl, HM.out⟩

set_option maxHeartbeats 1000000 in
theorem leftNum_any (s : Bool) (g : Nat) (a : Option Addr) (n ca : Nat) (o : Nat → Int) (w : World) (ht : Rd w (some ⟨g, 0, none⟩) (n + 1) (tw o n)) (ha : Rd w a n o) (hn : n ≤ 1000000000) :
    Calls Tryz.prog 26 #[numV s (some ⟨g, 0, none⟩) n (n + 1), numV s a n ca] w fun e w' => e = .returned (.bool true) ∧ Below w.heap.size w w' := by
  have HC := Lib.hid (fun (w' : World) (h : Below w.heap.size w w') => leftLimbs_any g a n ca o w' (ht.below h) (ha.below h) hn)
  have es : (s == s) = true := by simp
  clear ha ht
  go_enter Tryz.func26, Tryz.ntmps26
  go_wp2_with fail
  refine (HC.out _ ?_).mono ?_
  · (repeat' (first | (with_reducible exact Below.refl _ _) | (with_reducible assumption) | (with_reducible refine Below.alloc ?_ ?_ _) | (with_reducible refine Below.drew ?_) | (with_reducible refine bdrewN ?_ _) | (with_reducible refine Below.setCell ?_ ?_ _) | (with_reducible refine Below.frame ?_ _) | go_size))
  rintro e w1 ⟨rfl, m, rfl⟩
  go_wp2_with fail
  go_ret
  exact ⟨rfl, by (repeat' (first | (with_reducible exact Below.refl _ _) | (with_reducible assumption) | (with_reducible refine Below.alloc ?_ ?_ _) | (with_reducible refine Below.drew ?_) | (with_reducible refine bdrewN ?_ _) | (with_reducible refine Below.setCell ?_ ?_ _) | (with_reducible refine Below.frame ?_ _) | go_size))⟩
end Go.Proofs.YtkpajfjjhbbieaaGreatDoor.Limb
namespace Go.Proofs.YtkpajfjjhbbieaaGreatDoor.Book
open Go.RowKit Go.Sort Go.Fresh Go.Proofs.YtkpajfjjhbbieaaGreatDoor.Limb

set_option maxHeartbeats 4000000 in
theorem look_any (b vb k cap : Nat) (A LA : Nat → Option Addr) (N C LC : Nat → Nat) (w : World) (hk : k ≤ 1000) (hB : w.rowIs b 50 13 (bkf k (.slice (some ⟨vb, 0, none⟩) k cap)))
    (hA : Arr w vb k A N C (fun j => .slice (LA j) (N j + 40) (LC j))) (hO : ∀ j, j < k → Own 56 w 0 (A j) (N j) (C j) (fun _ => mk j)) (hL : ∀ j, j < k → Own 56 w 0 (LA j) (N j + 40) (LC j) (fun _ => mk j)) (hN : ∀ j, j < k → N j ≤ 900000000) :
    Calls Tryz.prog 87 #[.pointer (some ⟨b, 0, none⟩)] w fun e w' => e = .returned (.bool true) ∧ Below w.heap.size w w' := by
  have HB := Lib.hid hB; have HA := Lib.hid hA; have HO := Lib.hid hO; have HL := Lib.hid hL; have HN := Lib.hid hN
  clear hB hA hO hL hN
  go_enter Tryz.func87, Tryz.ntmps87
  go_wp2_with fail
  go_loopw [3] (fun v wr => ∃ i : Nat, i ≤ k ∧ v = .int .i64 i ∧ Below w.heap.size w wr) (fun v _ => k - (intOf v).toNat)
  case atStart => exact ⟨0, by omega, rfl, Below.refl _ _⟩
  case round =>
    obtain ⟨w1, rfl⟩ : ∃ w1, w1 = wr := ⟨_, rfl⟩
    obtain ⟨i, hik, rfl, hG⟩ := hrel
    have KG := Lib.hid hG
    have KB := Lib.hid (HB.out.of_block (hG.block _ HB.out.lt))
    have KA := Lib.hid (HA.out.keep (hG.block _ HA.out.lt))
    clear hG
    have b2 : w1.cell? ⟨b, 2, none⟩ = some (.slice (some ⟨vb, 0, none⟩) k cap) := KB.out.cell (i := 2) (by omega)
    by_cases hi : i < k
    · obtain ⟨a0, a1, a2, -, hvb⟩ := KA.out.cells hi
      have O1 := (HO.out i hi).below KG.out
      have L1 := (HL.out i hi).below KG.out
      obtain ⟨n, hn⟩ : ∃ n, n = N i := ⟨_, rfl⟩
      obtain ⟨ai, ha⟩ : ∃ ai, ai = A i := ⟨_, rfl⟩
      obtain ⟨ci, hc⟩ : ∃ ci, ci = C i := ⟨_, rfl⟩
      obtain ⟨lc, hlc⟩ : ∃ lc, lc = LC i := ⟨_, rfl⟩
      obtain ⟨gq, hlg⟩ := L1.some_of_pos (by omega)
      rw [← hlc, hlg, ← hn] at L1 a1
      rw [← ha, ← hn, ← hc] at a0 O1
      have hnb : n ≤ 900000000 := by rw [hn]; exact HN.out i hi
      have LO := Lib.hid O1; have LL := Lib.hid L1
      obtain ⟨W, hW⟩ : ∃ W, W = w1.alloc (.cells #[.slice ai n ci, .slice (some ⟨gq, 0, none⟩) (n + 40) lc, .int .i64 ((i : Int) + 1)] 127) := ⟨_, rfl⟩
      have R := World.rowIs_alloc w1 #[Value.slice ai n ci, Value.slice (some ⟨gq, 0, none⟩) (n + 40) lc, Value.int IntKind.i64 ((i : Int) + 1)] 127 (hcell ai n ci (.slice (some ⟨gq, 0, none⟩) (n + 40) lc) ((i : Int) + 1)) (fun q hq => by
          match q, hq with
          | 0, _ => rfl
          | 1, _ => rfl
          | 2, _ => rfl)
      rw [← hW] at R
      have WB := Lib.hid (show Below w1.heap.size w1 W by rw [hW]; exact (Below.refl _ _).alloc (Nat.le_refl _) _)
      have WR := Lib.hid (show W.rowIs w1.heap.size 127 3 (hcell ai n ci (.slice (some ⟨gq, 0, none⟩) (n + 40) lc) ((i : Int) + 1)) from R)
      have HW := Lib.hid hW
      have e40 := IntWalk.i64_in ((n : Int) + 40) (by omega)
      have ec : ((n + 40 : Nat) : Int) = (n : Int) + 40 := by omega
      clear ha hn hc hlc O1 L1 R hW hlg
      go_upto_region 5 with (fail)
      rw [show (w1.alloc (.cells #[.slice ai n ci, .slice (some ⟨gq, 0, none⟩) (n + 40) lc, .int .i64 ((i : Int) + 1)] 127)) = W from HW.out.symm]
      have h0 : W.cell? ⟨w1.heap.size, 0, none⟩ = some (.slice ai n ci) := WR.out.cell (i := 0) (by omega)
      have h1 : W.cell? ⟨w1.heap.size, 1, none⟩ = some (.slice (some ⟨gq, 0, none⟩) (n + 40) lc) := WR.out.cell (i := 1) (by omega)
      have h2 : W.cell? ⟨w1.heap.size, 2, none⟩ = some (.int .i64 ((i : Int) + 1)) := WR.out.cell (i := 2) (by omega)
      go_wp2_with fail
      go_loopw [5] (fun v wr => ∃ t : Nat, t ≤ n + 40 ∧ v = .int .i64 t ∧ ∃ m, wr = W.drewN m) (fun v _ => n + 40 - (intOf v).toNat)
      case atStart => exact ⟨0, by omega, rfl, 0, rfl⟩
      case round =>
        obtain ⟨t, htn, rfl, hm⟩ := hrel
        have HM := Lib.hid hm
        have cw : ∀ p, wr.cell? p = W.cell? p := by obtain ⟨m, rfl⟩ := hm; intro p; rfl
        clear hm
        have g0 : wr.cell? ⟨w1.heap.size, 0, none⟩ = some (.slice ai n ci) := (cw _).trans h0
        have g1 : wr.cell? ⟨w1.heap.size, 1, none⟩ = some (.slice (some ⟨gq, 0, none⟩) (n + 40) lc) := (cw _).trans h1
        have g2 : wr.cell? ⟨w1.heap.size, 2, none⟩ = some (.int .i64 ((i : Int) + 1)) := (cw _).trans h2
        have IS := Lib.hid (fun (v1 : World) => is_any (mk i) i v1 (by omega))
        rw [show (mk i == mk i) = true by simp] at IS
        by_cases ht : t < n + 40
        · have c1 : wr.cell? ⟨gq, t, none⟩ = some (.int .u32 (mk i)) := (cw _).trans ((LL.out.below WB.out).cell ht)
          have x1 : (t : Int) < (n : Int) + 40 := by omega
          by_cases ht2 : t < n
          · obtain ⟨g, rfl⟩ := LO.out.some_of_pos (by omega)
            have c2 : wr.cell? ⟨g, t, none⟩ = some (.int .u32 (mk i)) := (cw _).trans ((LO.out.below WB.out).cell ht2)
            have x2 : (t : Int) < (n : Int) := by omega
            clear cw h0 h1 h2
            go_wp2_with fail
            go_quiet (first | with_reducible exact quietOf (IS.out _))
            go_wp2_with fail
            go_roundw
            case rel => exact ⟨t + 1, by omega, by go_num, by obtain ⟨m, e⟩ := HM.out; exact ⟨_, by rw [e, World.drewN_drewN]⟩⟩
            case measure => simp [intOf]; omega
          · have x2 : ¬ (t : Int) < (n : Int) := by omega
            clear cw h0 h1 h2
            go_wp2_with fail
            go_quiet (first | with_reducible exact quietOf (IS.out _))
            go_wp2_with fail
            go_roundw
            case rel => exact ⟨t + 1, by omega, by go_num, by obtain ⟨m, e⟩ := HM.out; exact ⟨_, by rw [e, World.drewN_drewN]⟩⟩
            case measure => simp [intOf]; omega
        · have x1 : ¬ (t : Int) < (n : Int) + 40 := by omega
          obtain rfl : t = n + 40 := by omega
          go_wp2_with fail
          go_roundw
          case rel => exact ⟨i + 1, by omega, by go_num, by obtain ⟨m, e⟩ := HM.out; rw [e]; exact bdrewN (KG.out.trans (WB.out.mono KG.out.size)) _⟩
          case measure => simp [intOf]; omega
    · obtain rfl : i = k := by omega
      go_wp2_with fail
      go_ret
      exact ⟨rfl, KG.out⟩
end Go.Proofs.YtkpajfjjhbbieaaGreatDoor.Book
namespace Go.Proofs.YtkpajfjjhbbieaaGreatDoor.Limb
open Go.RowKit Go.Sort Go.Fresh

theorem field_num (s : Bool) (a : Option Addr) (n c : Nat) (w : World) : (Instr.field 24 (numV s a n c) 1).run Tryz.prog w = .ok (.slice a n c) w := by kernel_rfl
theorem nat_sum {o : Nat → Int} {n : Nat} (h : Dig o n) : (((sumB o n).toNat : Nat) : Int) = sumB o n := by have := (sumB_bd h).1; omega

set_option maxRecDepth 100000 in
set_option maxHeartbeats 2000000 in
theorem below_any (a b : Option Addr) (na ca nb cb : Nat) (oa ob : Nat → Int) (often : Int) (w : World) (ha : Rd w a na oa) (hb : Rd w b nb ob) (da : Dig oa na) (db : Dig ob nb) (hna : na ≤ 200000000) (hnb : nb ≤ 200000000) (ho : 0 ≤ often ∧ often ≤ 999999999) :
    Calls Tryz.prog 153 #[.slice a na ca, .slice b nb cb, .int .u64 often] w fun e w' => e = .returned (.bool (decide (sumB oa na < sumB ob nb * often))) ∧ Below w.heap.size w w' := by
  obtain ⟨X, hX⟩ : ∃ X, X = (sumB oa na).toNat := ⟨_, rfl⟩
  obtain ⟨Y, hY⟩ : ∃ Y, Y = (sumB ob nb * often).toNat := ⟨_, rfl⟩
  have eX : (X : Int) = sumB oa na := by rw [hX]; exact nat_sum da
  have eY : (Y : Int) = sumB ob nb * often := by
    have := Int.mul_nonneg (sumB_bd db).1 ho.1
    omega
  rw [← eX, ← eY]
  have u1 := IntWalk.u32_in often (by omega)
  have CL := Lib.hid (clone_any a na ca oa w ha (by omega))
  have WD := Lib.hid (fun (w' : World) (h : Below w.heap.size w w') => wide_any b nb cb ob often w' (hb.below h) db hnb ho)
  rw [← eY] at WD
  have DA := Lib.hid da
  have HE := Lib.hid eX.symm
  have lX := Lib.hid (show lenB X ≤ na by rw [hX]; exact lenB_le_of da)
  obtain ⟨LX, hLX⟩ : ∃ LX, LX = lenB X := ⟨_, rfl⟩
  have HLX := Lib.hid hLX
  clear ha hb da db hX hY eX eY hLX
  have hfld := field_num
  go_enter Tryz.func153, Tryz.ntmps153
  go_wp2_with fail
  refine CL.out.mono ?_
  rintro e w1 ⟨a1, c1, rfl, hO, hn, hb1⟩
  have HO := Lib.hid hO
  have G1 := Lib.hid hb1
  have CU := Lib.hid (cut_any false a1 na c1 oa w1 hO.rd DA.out (by omega) hO.le hn)
  rw [show (sumB oa na).toNat = X by have := HE.out; omega, Bool.false_and, ← HLX.out] at CU
  clear hO hb1 hn CL
  go_wp2_with fail
  refine CU.out.mono ?_
  rintro e w2 ⟨rfl, hb2⟩
  have RX := Lib.hid (own_fit (HO.out.below hb2) DA.out HE.out).rd
  have G2 := Lib.hid (G1.out.trans (hb2.mono G1.out.size))
  clear hb2 CU G1
  go_wp2_with fail
  refine (WD.out _ G2.out).mono ?_
  rintro e w3 ⟨g, p, rfl, hd, hs, hO, hb3⟩
  have HP := Lib.hid hO
  have HD := Lib.hid (And.intro hd hs)
  have G3 := Lib.hid (G2.out.trans (hb3.mono G2.out.size))
  have RX := Lib.hid (RX.out.below hb3)
  have CU := Lib.hid (cut_any false (some ⟨g, 0, none⟩) (nb + 1) (nb + 1) p w3 hO.rd hd (by omega) (Nat.le_refl _) (fun h => by cases h))
  obtain ⟨LY, hLY⟩ : ∃ LY, LY = lenB Y := ⟨_, rfl⟩
  rw [show (sumB p (nb + 1)).toNat = Y by omega, Bool.false_and, ← hLY] at CU
  have lY := Lib.hid (show lenB Y ≤ nb + 1 by
    have := lenB_le_of hd
    rwa [show (sumB p (nb + 1)).toNat = Y by omega] at this)
  have HLY := Lib.hid hLY
  clear hO hb3 WD G2 hd hs hLY
  go_wp2_with fail
  refine CU.out.mono ?_
  rintro e w4 ⟨rfl, hb4⟩
  have AM := Lib.hid (amounts_any X Y a1 (some ⟨g, 0, none⟩) (lenB X) (lenB Y) w4 (RX.out.below hb4) (own_fit (HP.out.below hb4) HD.out.1 HD.out.2).rd (by have := lX.out; omega) (by have := lY.out; omega))
  rw [← HLX.out, ← HLY.out] at AM
  have G4 := Lib.hid (G3.out.trans (hb4.mono G3.out.size))
  clear hb4 CU G3
  go_wp2_with fail
  refine AM.out.mono ?_
  rintro e w5 ⟨rfl, m, rfl⟩
  have E : decide (cmpZ (X : Int) (Y : Int) < 0) = decide ((X : Int) < (Y : Int)) := by
    refine decide_eq_decide.2 ?_
    rcases Int.lt_trichotomy (X : Int) (Y : Int) with h | h | h
    · rw [cmpZ_lt h]; omega
    · rw [cmpZ_eq h]; omega
    · rw [cmpZ_gt h]; omega
  have HEq := Lib.hid E
  clear E AM
  go_wp2
  go_ret
  exact ⟨by rw [← HEq.out]; rfl, bdrewN G4.out m⟩
end Go.Proofs.YtkpajfjjhbbieaaGreatDoor.Limb
namespace Go.Proofs.YtkpajfjjhbbieaaGreatDoor.Book
open Go.RowKit Go.Sort Go.Fresh Go.Proofs.YtkpajfjjhbbieaaGreatDoor.Limb

set_option maxHeartbeats 4000000 in
theorem apart_any (b vb k cap : Nat) (A : Nat → Option Addr) (N C : Nat → Nat) (O : Nat → Nat → Int) (w : World) (hk : k ≤ 1000) (hB : w.rowIs b 50 13 (bkf k (.slice (some ⟨vb, 0, none⟩) k cap)))
    (hA : Arr w vb k A N C (fun _ => .slice none 0 0)) (hO : ∀ j, j < k → Own 56 w 0 (A j) (N j) (C j) (O j)) (hN : ∀ j, j < k → N j ≤ 900000000) (hS : ¬ UA k A b ∧ ¬ UA k A vb) (hD : Part k A) (hbv : b ≠ vb) :
    Calls Tryz.prog 28 #[.pointer (some ⟨b, 0, none⟩)] w fun e w' => e = .returned (.bool true) ∧ Touch (fun g => UA k A g ∨ g = vb) w w' := by
  have H0 := Lib.hid hB
  have N0 := Lib.hid (fun i (h1 : 0 < i) (h2 : i < 13) (h3 : i ≠ 2) => (show w.cell? ⟨b, i, none⟩ = some (.slice none 0 0) by rw [hB.cell h2]; show some (if i = 0 then _ else if i = 2 then _ else _) = _; rw [if_neg (by omega), if_neg h3]))
  have F := Lib.hid (fill_any b vb k cap A N C O w hk hB hA hO (fun j hj => by have := hN j hj; omega) hS hD)
  have HA := Lib.hid hA; have HS := Lib.hid hS; have HN := Lib.hid hN; have HD := Lib.hid hD
  have HP := Lib.hid (fun j hj p hp => ((hO j hj).blk (p := p) hp).2.2)
  clear hB hA hO hS hN hD
  go_enter Tryz.func28, Tryz.ntmps28
  go_wp2_with fail
  refine (fillByte b w (N0.out 1 (by omega) (by omega) (by omega))).mono ?_
  rintro e x ⟨⟨v, rfl⟩, hx⟩
  obtain rfl := hx.symm
  go_wp2_with fail
  refine F.out.mono ?_
  rintro e w1 ⟨⟨v, rfl⟩, hT, hO1⟩
  have T1 := Lib.hid hT
  have H1 := Lib.hid (H0.out.of_block (hT.block _ H0.out.lt HS.out.1))
  have N1 := Lib.hid (fun i (h1 : 0 < i) (h2 : i < 13) (h3 : i ≠ 2) => (show w1.cell? ⟨b, i, none⟩ = some (.slice none 0 0) by rw [H1.out.cell h2]; show some (if i = 0 then _ else if i = 2 then _ else _) = _; rw [if_neg (by omega), if_neg h3]))
  have G := Lib.hid (grow_any b vb k cap A N C w1 hk H1.out (HA.out.keep (hT.block _ HA.out.lt HS.out.2)) hO1 HN.out HS.out HD.out hbv)
  clear hT hO1 N0 F
  go_wp2_with fail
  refine (fillText b w1 (N1.out 3 (by omega) (by omega) (by omega))).mono ?_
  rintro e x ⟨⟨v, rfl⟩, hx⟩
  obtain rfl := hx.symm
  go_wp2_with fail
  refine (fillToken b w1 (N1.out 4 (by omega) (by omega) (by omega))).mono ?_
  rintro e x ⟨⟨v, rfl⟩, hx⟩
  obtain rfl := hx.symm
  go_wp2_with fail
  refine (fillNum b w1 (N1.out 5 (by omega) (by omega) (by omega))).mono ?_
  rintro e x ⟨⟨v, rfl⟩, hx⟩
  obtain rfl := hx.symm
  go_wp2_with fail
  refine (fillTerm b w1 (N1.out 6 (by omega) (by omega) (by omega))).mono ?_
  rintro e x ⟨⟨v, rfl⟩, hx⟩
  obtain rfl := hx.symm
  go_wp2_with fail
  refine (fillFactor b w1 (N1.out 7 (by omega) (by omega) (by omega))).mono ?_
  rintro e x ⟨⟨v, rfl⟩, hx⟩
  obtain rfl := hx.symm
  go_wp2_with fail
  refine (fillNode b w1 (N1.out 8 (by omega) (by omega) (by omega))).mono ?_
  rintro e x ⟨⟨v, rfl⟩, hx⟩
  obtain rfl := hx.symm
  go_wp2_with fail
  refine (fillFunc b w1 (N1.out 9 (by omega) (by omega) (by omega))).mono ?_
  rintro e x ⟨⟨v, rfl⟩, hx⟩
  obtain rfl := hx.symm
  go_wp2_with fail
  refine (fillValue b w1 (N1.out 10 (by omega) (by omega) (by omega))).mono ?_
  rintro e x ⟨⟨v, rfl⟩, hx⟩
  obtain rfl := hx.symm
  go_wp2_with fail
  refine (fillInstr b w1 (N1.out 11 (by omega) (by omega) (by omega))).mono ?_
  rintro e x ⟨⟨v, rfl⟩, hx⟩
  obtain rfl := hx.symm
  go_wp2_with fail
  refine (fillChunk b w1 (N1.out 12 (by omega) (by omega) (by omega))).mono ?_
  rintro e x ⟨⟨v, rfl⟩, hx⟩
  obtain rfl := hx.symm
  go_wp2_with fail
  refine (growByte b w1 (N1.out 1 (by omega) (by omega) (by omega))).mono ?_
  rintro e x ⟨⟨v, rfl⟩, hx⟩
  obtain rfl := hx.symm
  go_wp2_with fail
  refine G.out.mono ?_
  rintro e w2 ⟨⟨v, rfl⟩, LA, LC, hG⟩
  have T2 := Lib.hid (T1.out.mono (fun _ h => Or.inl h) |>.trans (hG.tch.weak fun g hg h => h))
  have H2 := Lib.hid (H1.out.of_block (hG.tch.block _ H1.out.lt (fun h => h.elim HS.out.1 (fun h => hbv h))))
  have N2 := Lib.hid (fun i (h1 : 0 < i) (h2 : i < 13) (h3 : i ≠ 2) => (show w2.cell? ⟨b, i, none⟩ = some (.slice none 0 0) by rw [H2.out.cell h2]; show some (if i = 0 then _ else if i = 2 then _ else _) = _; rw [if_neg (by omega), if_neg h3]))
  have L := Lib.hid (look_any b vb k cap A LA N C LC w2 hk H2.out (hG.arr.congr fun j hj => by rw [if_pos hj]) hG.own (fun j hj => (hG.lng j hj).1) HN.out)
  clear hG N1 G
  go_wp2_with fail
  refine (growText b w2 (N2.out 3 (by omega) (by omega) (by omega))).mono ?_
  rintro e x ⟨⟨v, rfl⟩, hx⟩
  obtain rfl := hx.symm
  go_wp2_with fail
  refine (growToken b w2 (N2.out 4 (by omega) (by omega) (by omega))).mono ?_
  rintro e x ⟨⟨v, rfl⟩, hx⟩
  obtain rfl := hx.symm
  go_wp2_with fail
  refine (growNum b w2 (N2.out 5 (by omega) (by omega) (by omega))).mono ?_
  rintro e x ⟨⟨v, rfl⟩, hx⟩
  obtain rfl := hx.symm
  go_wp2_with fail
  refine (growTerm b w2 (N2.out 6 (by omega) (by omega) (by omega))).mono ?_
  rintro e x ⟨⟨v, rfl⟩, hx⟩
  obtain rfl := hx.symm
  go_wp2_with fail
  refine (growFactor b w2 (N2.out 7 (by omega) (by omega) (by omega))).mono ?_
  rintro e x ⟨⟨v, rfl⟩, hx⟩
  obtain rfl := hx.symm
  go_wp2_with fail
  refine (growNode b w2 (N2.out 8 (by omega) (by omega) (by omega))).mono ?_
  rintro e x ⟨⟨v, rfl⟩, hx⟩
  obtain rfl := hx.symm
  go_wp2_with fail
  refine (growFunc b w2 (N2.out 9 (by omega) (by omega) (by omega))).mono ?_
  rintro e x ⟨⟨v, rfl⟩, hx⟩
  obtain rfl := hx.symm
  go_wp2_with fail
  refine (growValue b w2 (N2.out 10 (by omega) (by omega) (by omega))).mono ?_
  rintro e x ⟨⟨v, rfl⟩, hx⟩
  obtain rfl := hx.symm
  go_wp2_with fail
  refine (growInstr b w2 (N2.out 11 (by omega) (by omega) (by omega))).mono ?_
  rintro e x ⟨⟨v, rfl⟩, hx⟩
  obtain rfl := hx.symm
  go_wp2_with fail
  refine (growChunk b w2 (N2.out 12 (by omega) (by omega) (by omega))).mono ?_
  rintro e x ⟨⟨v, rfl⟩, hx⟩
  obtain rfl := hx.symm
  go_wp2_with fail
  refine (lookByte b w2 (N2.out 1 (by omega) (by omega) (by omega))).mono ?_
  rintro e x ⟨rfl, hx⟩
  obtain rfl := hx.symm
  go_wp2_with fail
  refine L.out.mono ?_
  rintro e w3 ⟨rfl, hb⟩
  have T3 := Lib.hid (T2.out.trans (Touch.of_below hb))
  have N3 := Lib.hid (fun i (h1 : 0 < i) (h2 : i < 13) (h3 : i ≠ 2) => (hb.cell (p := ⟨b, i, none⟩) H2.out.lt).trans (N2.out i h1 h2 h3))
  clear hb N2 L
  go_wp2_with fail
  refine (lookText b w3 (N3.out 3 (by omega) (by omega) (by omega))).mono ?_
  rintro e x ⟨rfl, hx⟩
  obtain rfl := hx.symm
  go_wp2_with fail
  refine (lookToken b w3 (N3.out 4 (by omega) (by omega) (by omega))).mono ?_
  rintro e x ⟨rfl, hx⟩
  obtain rfl := hx.symm
  go_wp2_with fail
  refine (lookNum b w3 (N3.out 5 (by omega) (by omega) (by omega))).mono ?_
  rintro e x ⟨rfl, hx⟩
  obtain rfl := hx.symm
  go_wp2_with fail
  refine (lookTerm b w3 (N3.out 6 (by omega) (by omega) (by omega))).mono ?_
  rintro e x ⟨rfl, hx⟩
  obtain rfl := hx.symm
  go_wp2_with fail
  refine (lookFactor b w3 (N3.out 7 (by omega) (by omega) (by omega))).mono ?_
  rintro e x ⟨rfl, hx⟩
  obtain rfl := hx.symm
  go_wp2_with fail
  refine (lookNode b w3 (N3.out 8 (by omega) (by omega) (by omega))).mono ?_
  rintro e x ⟨rfl, hx⟩
  obtain rfl := hx.symm
  go_wp2_with fail
  refine (lookFunc b w3 (N3.out 9 (by omega) (by omega) (by omega))).mono ?_
  rintro e x ⟨rfl, hx⟩
  obtain rfl := hx.symm
  go_wp2_with fail
  refine (lookValue b w3 (N3.out 10 (by omega) (by omega) (by omega))).mono ?_
  rintro e x ⟨rfl, hx⟩
  obtain rfl := hx.symm
  go_wp2_with fail
  refine (lookInstr b w3 (N3.out 11 (by omega) (by omega) (by omega))).mono ?_
  rintro e x ⟨rfl, hx⟩
  obtain rfl := hx.symm
  go_wp2_with fail
  refine (lookChunk b w3 (N3.out 12 (by omega) (by omega) (by omega))).mono ?_
  rintro e x ⟨rfl, hx⟩
  obtain rfl := hx.symm
  go_wp2_with fail
  go_ret
  exact ⟨rfl, T3.out⟩
end Go.Proofs.YtkpajfjjhbbieaaGreatDoor.Book
namespace Go.Proofs.YtkpajfjjhbbieaaGreatDoor.Book
open Go.RowKit Go.Sort Go.FreshG Go.Proofs.YtkpajfjjhbbieaaGreatDoor.Limb

theorem infoHeld : (Tryz.prog.info? 127).map (fun i => (i.zero, i.size, i.bytes)) = some (some (.agg #[.slice none 0 0, .slice none 0 0, .int .i64 0]), 3, 56) := by kernel_rfl
/-- What a list adds to the Book's row. -/
def held (a : Option Addr) (n c k : Nat) : List Value := [.slice a n c, .slice none 0 0, .int .i64 ((k : Int) + 1)]
/-- A Book in memory: how many lists, where its row lies. -/
structure Bk (w : World) (b base k : Nat) (v : Value) (xs : List Value) : Prop where
  box : w.rowIs b 50 13 (bkf k v)
  row : w.ownsRow base 127 3 v k xs
  ne : v.ownBlock ≠ some b

/-- The Book's row, one list longer. -/
def Row1 (w : World) (base k : Nat) (xs : List Value) (a : Option Addr) (n c : Nat) (x : Value) : Prop := w.ownsRow base 127 3 x (k + 1) (xs ++ held a n c k)
/-- What an append to the Book's row leaves alone; and what it has done, it does not undo. -/
def Gr (base k : Nat) (v : Value) (xs : List Value) (a : Option Addr) (n c : Nat) (w w' : World) : Prop :=
  Touch (fun g => v.ownBlock = some g) w w' ∧ (w.ownsRow base 127 3 v k xs → w'.ownsRow base 127 3 v k xs) ∧ ∀ x, Row1 w base k xs a n c x → Row1 w' base k xs a n c x
theorem Gr.refl (base k : Nat) (v : Value) (xs : List Value) (a : Option Addr) (n c : Nat) (w : World) : Gr base k v xs a n c w w := ⟨Touch.refl _ _, fun h => h, fun _ h => h⟩
theorem Gr.grown {base k : Nat} {v : Value} {xs : List Value} {a : Option Addr} {n c : Nat} {w w' : World} (h : w.grownBy w' none) : Gr base k v xs a n c w w' := by
  refine ⟨(Touch.refl _ _).grown h (fun _ h => by cases h), fun hr => hr.kept h ?_, fun x hr => World.ownsRow.kept hr h ?_⟩
  · cases hv : v.ownBlock
    · exact .inl rfl
    · exact .inr (by simp)
  · cases hv : x.ownBlock
    · exact .inl rfl
    · exact .inr (by simp)
theorem Gr.alloc {base k : Nat} {v : Value} {xs : List Value} {a : Option Addr} {n c : Nat} (w : World) (o : Obj) : Gr base k v xs a n c w (w.alloc o) := Gr.grown (World.grownBy_alloc w o none)

theorem take_mid {L news : List Value} {m d : Nat} (hm : m ≤ L.length) (hn : news.length = d) : (L.take m ++ news ++ L.drop (m + d)).take (m + d) = L.take m ++ news := by
  have h : (L.take m ++ news).length = m + d := by simp [hn]; omega
  rw [← h]; exact List.take_left

theorem keep_append {w : World} {base k : Nat} {v : Value} {xs : List Value} (h : w.ownsRow base 127 3 v k xs) (hb : base ≤ w.heap.size) (hk : k ≤ 1000) (gs : Nat) (a : Option Addr) (n c : Nat)
    (hs : w.heap[gs]? = some (.cells #[.slice a n c, .slice none 0 0, .int .i64 ((k : Int) + 1)] 127 (0, 0))) (ty : Nat) :
    ∃ x w', (Builtin.append_ #[38, 38] ty #[v, .slice (some ⟨gs, 0, none⟩) 1 1]).run Tryz.prog w = .ok x w' ∧ Row1 w' base k xs a n c x ∧ Gr base k v xs a n c w w' ∧
      (v.ownBlock = x.ownBlock ∨ ∃ g, x.ownBlock = some g ∧ w.heap.size ≤ g) := by
  obtain ⟨i0, hi, hz0, hz1, hz2⟩ := info_parts infoHeld
  have hnews : ∀ j u, (held a n c k)[j]? = some u → w.cell? ((⟨gs, 0, none⟩ : Addr).add j) = some u := by
    intro j u hj
    rw [Addr.add_lit, Nat.zero_add, cell_of_row _ _ _ _ _ _ hs]
    match j, hj with
    | 0, hj => exact hj
    | 1, hj => exact hj
    | 2, hj => exact hj
    | j + 3, hj => simp [held] at hj
  have h1 : ∀ u ∈ held a n c k, u.oneCell' = true := by intro u hu; simp [held] at hu; rcases hu with rfl | rfl | rfl <;> rfl
  have hl : (held a n c k).length = 1 * 3 := rfl
  have hxl := h.1
  have hlen : (xs ++ held a n c k).length = (k + 1) * 3 := by rw [List.length_append, hxl]; show _ + 3 = _; omega
  have fresh : ∀ old, old < k + 1 → Row1 (w.drew.alloc (.cells (xs.toArray ++ (held a n c k).toArray ++ Builtin.zeroCells (Value.agg #[.slice none 0 0, .slice none 0 0, .int .i64 0]).cells (grownCap w (k + 1) old 127 - (k + 1))) 127)) base k xs a n c (.slice (some ⟨w.heap.size, 0, none⟩) (k + 1) (grownCap w (k + 1) old 127)) ∧
      w.grownBy (w.drew.alloc (.cells (xs.toArray ++ (held a n c k).toArray ++ Builtin.zeroCells (Value.agg #[.slice none 0 0, .slice none 0 0, .int .i64 0]).cells (grownCap w (k + 1) old 127 - (k + 1))) 127)) none := by
    intro old ho
    have hge := grownCap_ge w (k + 1) old 127
    have hcm := grownCap_le_maxLen w (k + 1) old 127 (by unfold maxLen; omega)
    refine ⟨⟨hlen, .inr ⟨w.heap.size, _, _, rfl, hb, heap_alloc_new w.drew _, hge, hcm, ?_, ?_⟩⟩, ⟨rfl, rfl, rfl, by simp, fun q hq _ => heap_alloc_old w.drew _ hq⟩⟩
    · simp only [Array.size_append, List.size_toArray, size_zeroCells, hxl, hl]
      show _ + _ + _ * 3 = _
      omega
    · simp only [Array.toList_append]
      rw [← hlen]
      exact List.take_left
  rcases h.2 with ⟨rfl, rfl⟩ | ⟨g, cap, cur, rfl, hbg, hg, hnc, hcm, hcs, htake⟩
  · have hx : xs = [] := List.eq_nil_of_length_eq_zero (by simpa using hxl)
    subst hx
    have hr := run_append_nil (P := Tryz.prog) w 38 ty 127 i0 _ Tryz.underlying38 hi hz0 ⟨gs, 0, none⟩ 1 1 (held a n c 0) (by rw [hz1]; rfl) hnews (by omega) (by omega) (by rw [hz2]; omega)
    have hgr := fresh 0 (by omega)
    simp only [Nat.zero_add, List.nil_append, Array.empty_append] at hgr
    exact ⟨_, _, hr, hgr.1, Gr.grown hgr.2, .inr ⟨_, rfl, Nat.le_refl _⟩⟩
  · by_cases hroom : k + 1 ≤ cap
    · have hr := run_append_room (P := Tryz.prog) w 38 ty 127 i0 Tryz.underlying38 hi g k cap cur hg ⟨gs, 0, none⟩ 1 1 (held a n c k) (by rw [hz1]; rfl) hnews h1 hroom (by rw [hz1, hl, hcs]; omega)
      rw [hz1, hl] at hr
      have hcl : k * 3 ≤ cur.toList.length := by rw [Array.length_toList, hcs]; omega
      have hnew := setRow_heap w g cur (cur.toList.take (k * 3) ++ held a n c k ++ cur.toList.drop (k * 3 + 1 * 3)).toArray 127 _ hg
      have hsz : (cur.toList.take (k * 3) ++ held a n c k ++ cur.toList.drop (k * 3 + 1 * 3)).toArray.size = cap * 3 := by
        simp only [List.size_toArray, List.length_append, List.length_take, List.length_drop, Array.length_toList, hl, hcs]
        omega
      have ht1 : (cur.toList.take (k * 3) ++ held a n c k ++ cur.toList.drop (k * 3 + 1 * 3)).take ((k + 1) * 3) = xs ++ held a n c k := by
        rw [show (k + 1) * 3 = k * 3 + 1 * 3 by omega, take_mid hcl hl, htake]
      have ht0 : (cur.toList.take (k * 3) ++ held a n c k ++ cur.toList.drop (k * 3 + 1 * 3)).take (k * 3) = xs := by
        have h3 := congrArg (List.take (k * 3)) ht1
        rw [List.take_take, Nat.min_eq_left (by omega), ← hxl, List.take_left] at h3
        rw [← hxl]; exact h3
      refine ⟨_, _, hr, ⟨hlen, .inr ⟨g, cap, _, rfl, hbg, hnew, hroom, hcm, hsz, ht1⟩⟩, ⟨?_, ?_, ?_⟩, .inl rfl⟩
      · exact ⟨rfl, rfl, rfl, by simp, fun q _ hq => setRow_other w g q _ (fun e => hq (by simp [Value.ownBlock, e]))⟩
      · exact fun _ => ⟨hxl, .inr ⟨g, cap, _, rfl, hbg, hnew, hnc, hcm, hsz, ht0⟩⟩
      · intro x hx
        rcases hx.2 with ⟨_, h0⟩ | ⟨g', cap', cur', rfl, hbg', hg', hnc', hcm', hcs', htake'⟩
        · omega
        · refine ⟨hlen, .inr ?_⟩
          by_cases e : g' = g
          · subst e
            have e2 : cur' = cur := by have := hg'.symm.trans hg; simpa using this
            subst e2
            exact ⟨g', cap', _, rfl, hbg', hnew, hnc', hcm', by rw [hsz]; omega, ht1⟩
          · exact ⟨g', cap', cur', rfl, hbg', (setRow_other w g g' _ e).trans hg', hnc', hcm', hcs', htake'⟩
    · have holds : ∀ j u, xs[j]? = some u → w.cell? ((⟨g, 0, none⟩ : Addr).add j) = some u := h.cells (g := g) rfl
      have hr := run_append_grow (P := Tryz.prog) w 38 ty 127 i0 _ Tryz.underlying38 hi hz0 ⟨g, 0, none⟩ k cap xs (by rw [hz1]; exact hxl) holds ⟨gs, 0, none⟩ 1 1 (held a n c k) (by rw [hz1]; rfl) hnews (by omega) (by omega) (growslice_fits (by omega) (by rw [hz2]; omega))
      have hgr := fresh cap (by omega)
      exact ⟨_, _, hr, hgr.1, Gr.grown hgr.2, .inr ⟨_, rfl, Nat.le_refl _⟩⟩

theorem gives_appendG {G : World → World → Prop} {P : Program} {o : Oper} {a : Act} {w w' : World} {Post : Value → World → Prop} {v u r : Value} (s x : Operand) (t : TypeId)
    (ho : o.op = .call { callee := .builtin .append, args := #[s, x], argTypes := #[t, t] }) (hs : a.eval s = v) (hx : a.eval x = u)
    (hr : (Builtin.append_ #[t, t] o.type #[v, u]).run P w = .ok r w') (hP : Post r w' ∧ G w w') : givesUpon P G w Post ((execOp a.eval o).run P w) := by
  unfold execOp
  simp only [ho, resolve, invoke, builtin, Sem.run_bind, Sem.run_pure, Result.andThen_ok, List.map_toArray, List.map_cons, List.map_nil, hs, hx, hr]
  exact hP

set_option maxRecDepth 100000 in
set_option maxHeartbeats 1000000 in
theorem keep_any (b base k : Nat) (v : Value) (xs : List Value) (a : Option Addr) (n c : Nat) (w : World) (hk : k ≤ 1000) (hB : Bk w b base k v xs) (hbase : base ≤ w.heap.size) :
    Calls Tryz.prog 124 #[.pointer (some ⟨b, 0, none⟩), .slice a n c] w fun e w' => (∃ u, e = .returned u) ∧ ∃ v', Bk w' b base (k + 1) v' (xs ++ held a n c k) ∧ (v.ownBlock = v'.ownBlock ∨ ∃ g, v'.ownBlock = some g ∧ w.heap.size ≤ g) ∧
      Touch (fun g => g = b ∨ v.ownBlock = some g) w w' := by
  obtain ⟨i0, hi, hz0, hz1, hz2⟩ := info_parts infoHeld
  have KB := Lib.hid hB
  have b0 : w.cell? ⟨b, 0, none⟩ = some (.int .i64 k) := hB.box.cell (i := 0) (by omega)
  have hfz := hB.box.frozen
  have e1 := IntWalk.i64_in ((k : Int) + 1) (by omega)
  clear hB
  go_enter Tryz.func124, Tryz.ntmps124
  go_upto_region 1 with (fail)
  obtain ⟨W, hW⟩ : ∃ W, W = w.setCell ⟨b, 0, none⟩ (.int .i64 ((k : Int) + 1)) := ⟨_, rfl⟩
  have X := (KB.out.box.set 0 (.int .i64 ((k : Int) + 1))).congr (g := bkf (k + 1) v) (fun i _ => by
    unfold bkf
    by_cases e : i = 0
    · rw [if_pos e, if_pos e]; rfl
    · rw [if_neg e, if_neg e, if_neg e])
  have R := KB.out.row.kept (w' := W) (row := some b) (by
    rw [hW]
    exact ⟨rfl, rfl, rfl, by simp, fun q _ hq => Below.heap_setCell _ _ _ _ (fun e => hq (by simp [e]))⟩) (Or.inr KB.out.ne)
  have hsz : W.heap.size = w.heap.size := by rw [hW]; simp
  have T := Lib.hid (show Touch (fun g => g = b ∨ v.ownBlock = some g) w W by rw [hW]; exact (Touch.refl _ _).setCell (p := ⟨b, 0, none⟩) (Or.inl (Or.inl rfl)) _)
  rw [← hW] at X
  rw [show (w.setCell ⟨b, 0, none⟩ (.int .i64 ((k : Int) + 1))) = W from hW.symm]
  have HX := Lib.hid X
  have HR := Lib.hid R
  have c0 : W.cell? ⟨b, 0, none⟩ = some (.int .i64 ((k : Int) + 1)) := X.cell (i := 0) (by omega)
  have c2 : W.cell? ⟨b, 2, none⟩ = some v := X.cell (i := 2) (by omega)
  have hfz := X.frozen
  have hlt := X.lt
  have hbase : base ≤ W.heap.size := by omega
  have hnb := KB.out.ne
  have HZ := Lib.hid hsz
  have f2 : W.frozen? ⟨b, 2, none⟩ = false := hfz 2
  clear X R hW b0 hsz hfz
  have HV := Lib.hid (fun g (hg : v.ownBlock = some g) => (HR.out.lt g hg).2)
  have HS := Lib.hid (fun (w' : World) (h : Touch (fun g => v.ownBlock = some g) W w') => And.intro ((World.cell?_of_block (a := ⟨b, 0, none⟩) (h.block b hlt hnb)).trans c0) (And.intro ((World.cell?_of_block (a := ⟨b, 2, none⟩) (h.block b hlt hnb)).trans c2) ((World.frozen?_of_block (a := ⟨b, 2, none⟩) (h.block b hlt hnb)).trans f2)))
  have HB := Lib.hid hbase
  have HN := Lib.hid hnb
  have HLT := Lib.hid hlt
  clear c0 c2 f2 hbase hnb hlt
  refine wp_region_fresh 15 (spOf [(11, Sp.made (fun g : Nat => .slice (some ⟨g, 0, none⟩) 1 1) (fun g w' => w'.heap[g]? = some (.cells #[.slice a n c, .slice none 0 0, .int .i64 ((k : Int) + 1)] 127 (0, 0)) ∧ W.heap.size ≤ g)),
      (12, Sp.made (fun x : Value => x) (fun x w' => Row1 w' base k xs a n c x ∧ (v.ownBlock = x.ownBlock ∨ ∃ g, x.ownBlock = some g ∧ W.heap.size ≤ g)))])
    (G := Gr base k v xs a n c) (fun w' => Touch (fun g => v.ownBlock = some g) W w' ∧ w'.ownsRow base 127 3 v k xs) (by kernel_rfl) (by kernel_rfl)
    (spOf_cons (Sp.made_keeps fun g w w' h hG => ⟨(hG.1.block g (lt_of_block h.1) (fun e => by have := HV.out g e; omega)).trans h.1, h.2⟩) (spOf_cons (Sp.made_keeps fun x w w' h hG => ⟨hG.2.2 x h.1, h.2⟩) spOf_nil))
    ⟨fun w => Gr.refl _ _ _ _ _ _ _ w, fun _ _ h hG => ⟨h.1.trans hG.1, hG.2.1 h.2⟩⟩ ⟨(Touch.refl _ _).drew, HR.out.kept (row := none) ⟨rfl, rfl, rfl, Nat.le_refl _, fun _ _ _ => rfl⟩ (by cases v.ownBlock; exact .inl rfl; exact .inr (by simp))⟩ ?_
  simp only [List.take_succ_cons, List.take_zero, List.drop_succ_cons, List.drop_zero]
  (refine wpF_reads rfl rfl ?_ (fun w' hw' => ?_) ?_; rotate_left; · (have hb' := Has.world hw'; (skip); clear hw'; go_simp; try rfl))
  (refine wpF_reads rfl rfl ?_ (fun w' hw' => ?_) ?_; rotate_left; · (have hb' := Has.world hw'; (skip); clear hw'; go_simp; try rfl))
  (refine wpF_reads rfl rfl ?_ (fun w' hw' => ?_) ?_; rotate_left; · (have hb' := Has.world hw'; (skip); clear hw'; go_simp; try rfl))
  (refine wpF_reads rfl rfl ?_ (fun w' hw' => ?_) ?_; rotate_left; · (have hb' := Has.world hw'; (skip); clear hw'; go_simp; try rfl))
  (refine wpF_reads rfl rfl ?_ (fun w' hw' => ?_) ?_; rotate_left; · (have hb' := Has.world hw'; (have hs := HS.out _ hb'.1); clear hw'; go_simp; try rfl))
  (refine wpF_reads rfl rfl ?_ (fun w' hw' => ?_) ?_; rotate_left; · (have hb' := Has.world hw'; (skip); clear hw'; go_simp; try rfl))
  (refine wpF_reads rfl rfl ?_ (fun w' hw' => ?_) ?_; rotate_left; · (have hb' := Has.world hw'; (skip); clear hw'; go_simp; try rfl))
  (refine wpF_reads rfl rfl ?_ (fun w' hw' => ?_) ?_; rotate_left; · (have hb' := Has.world hw'; (skip); clear hw'; go_simp; try rfl))
  (refine wpF_reads rfl rfl ?_ (fun w' hw' => ?_) ?_; rotate_left; · (have hb' := Has.world hw'; (skip); clear hw'; go_simp; try rfl))
  (refine wpF_reads rfl rfl ?_ (fun w' hw' => ?_) ?_; rotate_left; · (have hb' := Has.world hw'; (have hs := HS.out _ hb'.1); clear hw'; go_simp; try rfl))
  (refine wpF_reads rfl rfl ?_ (fun w' hw' => ?_) ?_; rotate_left; · (have hb' := Has.world hw'; (skip); clear hw'; go_simp; try rfl))
  refine wpF_spec rfl rfl (fun w' hw' => ?_) ?_
  · have hb' := hw'.world
    clear hw'
    go_simp
    refine ⟨⟨?_, hb'.1.size⟩, Gr.alloc _ _⟩
    show (w'.heap.push _)[w'.heap.size] = _
    simp
  rintro _ ⟨gs, rfl⟩
  refine wpF_spec rfl rfl (fun w' hw' => ?_) ?_
  · have hb' := hw'.world
    have h11 := hw'.fact 11 (by kernel_rfl)
    obtain ⟨g', eg, hg1, hg2⟩ := h11
    cases eg
    obtain ⟨x, w'', hrun, h1, h2, h3⟩ := keep_append hb'.2 (Nat.le_trans HB.out hb'.1.size) hk gs a n c hg1 38
    clear hw'
    refine gives_appendG (v := v) (u := .slice (some ⟨gs, 0, none⟩) 1 1) _ _ 38 (by rfl) (by (go_simp; try rfl)) (by (go_simp; try rfl)) hrun ?_
    exact ⟨⟨⟨x, rfl⟩, ⟨x, rfl, h1, h3.imp id fun ⟨g, e, hl⟩ => ⟨g, e, Nat.le_trans hb'.1.size hl⟩⟩⟩, h2⟩
  rintro y ⟨z, hz⟩
  obtain rfl : y = z := hz
  (refine wpF_reads rfl rfl ?_ (fun w' hw' => ?_) ?_; rotate_left; · (have hb' := Has.world hw'; (skip); clear hw'; go_simp; try rfl))
  (refine wpF_reads rfl rfl ?_ (fun w' hw' => ?_) ?_; rotate_left; · (have hb' := Has.world hw'; (skip); clear hw'; go_simp; try rfl))
  refine wpF_nil (fun w1 hC1 hF => ?_)
  obtain ⟨y', ey, hY1, hY2⟩ := hF 12
  obtain rfl : y = y' := ey
  obtain ⟨gy, cy, rfl⟩ : ∃ gy cy, y = Value.slice (some ⟨gy, 0, none⟩) (k + 1) cy := by
    rcases hY1.2 with ⟨_, h0⟩ | ⟨g, cap, cur, e, _⟩
    · omega
    · exact ⟨g, cap, e⟩
  have KY := Lib.hid (And.intro hY1 hY2)
  have KT := Lib.hid (T.out.trans (hC1.1.mono (fun g hg => Or.inr hg)))
  have KX := Lib.hid (HX.out.of_block (hC1.1.block b HLT.out HN.out))
  obtain ⟨d0, d2, df⟩ := HS.out _ hC1.1
  clear hF hC1 HS hY1 hY2
  go_wp2_with fail
  (try simp only [Exit.inBlock, Exit.then])
  refine bodyPost_end (results_none rfl _ _ _) rfl ?_
  refine ⟨⟨_, rfl⟩, Value.slice (some ⟨gy, 0, none⟩) (k + 1) cy, ⟨?_, ?_, ?_⟩, ?_, KT.out.setCell (p := ⟨b, 2, none⟩) (Or.inl (Or.inl rfl)) _⟩
  · refine (KX.out.set 2 (Value.slice (some ⟨gy, 0, none⟩) (k + 1) cy)).congr fun i _ => ?_
    unfold bkf
    by_cases e : i = 2
    · rw [if_pos e, if_neg (by omega), if_pos e]
    · rw [if_neg e]
      by_cases e0 : i = 0
      · rw [if_pos e0, if_pos e0]
      · rw [if_neg e0, if_neg e0, if_neg e, if_neg e]
  · refine World.ownsRow.kept (row := some b) KY.out.1 ⟨rfl, rfl, rfl, by simp, fun q _ hq => Below.heap_setCell _ _ _ _ (fun e => hq (by simp [e]))⟩ (Or.inr ?_)
    rcases KY.out.2 with h | ⟨g, h, hl⟩
    · rw [← h]; exact HN.out
    · rw [h]; intro e; cases e; have := HLT.out; omega
  · rcases KY.out.2 with h | ⟨g, h, hl⟩
    · rw [← h]; exact HN.out
    · rw [h]; intro e; cases e; have := HLT.out; omega
  · rcases KY.out.2 with h | ⟨g, h, hl⟩
    · exact .inl h
    · exact .inr ⟨g, h, by have := HZ.out; omega⟩
end Go.Proofs.YtkpajfjjhbbieaaGreatDoor.Book
namespace Go.Proofs.YtkpajfjjhbbieaaGreatDoor.Book
open Go.RowKit Go.Sort Go.FreshG Go.Proofs.YtkpajfjjhbbieaaGreatDoor.Limb

/-- One list more is in the Book. -/
def Kept (w : World) (b base k : Nat) (v : Value) (xs : List Value) (a : Option Addr) (n c : Nat) (e : Ending) (w' : World) : Prop :=
  (∃ u, e = .returned u) ∧ ∃ v', Bk w' b base (k + 1) v' (xs ++ held a n c k) ∧ (v.ownBlock = v'.ownBlock ∨ ∃ g, v'.ownBlock = some g ∧ w.heap.size ≤ g) ∧ Touch (fun g => g = b ∨ v.ownBlock = some g) w w'
theorem Bk.alloc {w : World} {b base k : Nat} {v : Value} {xs : List Value} (h : Bk w b base k v xs) (o : Obj) : Bk (w.alloc o) b base k v xs := ⟨h.box.alloc o, h.row.alloc o, h.ne⟩

set_option maxHeartbeats 1000000 in
theorem limbs_any (b base k : Nat) (v : Value) (xs : List Value) (a : Option Addr) (n c : Nat) (w : World) (hk : k ≤ 1000) (hB : Bk w b base k v xs) (hbase : base ≤ w.heap.size) :
    Calls Tryz.prog 61 #[.pointer (some ⟨b, 0, none⟩), .slice a n c] w (Kept w b base k v xs a n c) := by
  have K := Lib.hid (keep_any b base k v xs a n c w hk hB hbase)
  clear hB hbase
  go_enter Tryz.func61, Tryz.ntmps61
  go_wp2_with fail
  refine K.out.mono ?_
  rintro e w1 ⟨⟨u, rfl⟩, h⟩
  have H := Lib.hid h
  clear h
  go_wp2_with fail
  (try simp only [Exit.inBlock, Exit.then])
  refine bodyPost_end (results_none rfl _ _ _) rfl ?_
  exact ⟨⟨_, rfl⟩, H.out⟩

set_option maxHeartbeats 1000000 in
theorem num_any (b base k : Nat) (v : Value) (xs : List Value) (s : Bool) (a : Option Addr) (n c : Nat) (w : World) (hk : k ≤ 1000) (hB : Bk w b base k v xs) (hbase : base ≤ w.heap.size) :
    Calls Tryz.prog 27 #[.pointer (some ⟨b, 0, none⟩), numV s a n c] w (Kept w b base k v xs a n c) := by
  have K := Lib.hid (limbs_any b base k v xs a n c (w.alloc (.cells #[.bool s, .slice a n c] 24)) hk (hB.alloc _) (by simp; omega))
  clear hB hbase
  go_enter Tryz.func27, Tryz.ntmps27
  go_wp2_with fail
  refine K.out.mono ?_
  rintro e w1 ⟨⟨u, rfl⟩, h⟩
  have H := Lib.hid h
  clear h
  go_wp2_with fail
  (try simp only [Exit.inBlock, Exit.then])
  refine bodyPost_end (results_none rfl _ _ _) rfl ?_
  obtain ⟨v', h1, h2, h3⟩ := H.out
  exact ⟨⟨_, rfl⟩, v', h1, h2.imp id (fun ⟨g, e, hl⟩ => ⟨g, e, by simp at hl; omega⟩), ((Touch.refl _ _).alloc _).trans h3⟩
end Go.Proofs.YtkpajfjjhbbieaaGreatDoor.Book
namespace Go.Proofs.YtkpajfjjhbbieaaGreatDoor.Limb
open Go.RowKit Go.Sort Go.Fresh

theorem infoPart1 : (Tryz.prog.info? 56).map (·.size) = some 1 := by kernel_rfl
theorem copy_own {w : World} {base gu L L' i m : Nat} {up r : Nat → Int} {a : Option Addr} (h : Own 56 w base (some ⟨gu, 0, none⟩) L L' up) (hi : i + m ≤ L) (hm : 0 < m) (hr : Rd w a m r) (ty dcap scap : Nat) :
    ∃ v w', (Builtin.copy_ #[22, 22] ty #[.slice (some ⟨gu, i, none⟩) m dcap, .slice a m scap]).run Tryz.prog w = .ok v w' ∧ Own 56 w' base (some ⟨gu, 0, none⟩) L L' (splice up i m r) ∧ w.grownBy w' (some gu) := by
  obtain ⟨b, off, rfl, hc⟩ := hr.cells hm
  rcases h.place with h0 | ⟨g, cur, ha, hbg, hg, hcap, hcc⟩
  · cases h0.1
  cases ha
  have hle := h.le
  have hrun := run_copy_row (P := Tryz.prog) w 22 22 ty 56 gu i m dcap ⟨b, off, none⟩ m scap cur 56 (ucs r m) Tryz.underlying22 infoPart1 hg (by rw [ucs_len]; exact (Nat.min_self m).symm)
    (by
      intro j u hj
      obtain ⟨hj1, rfl⟩ := ucs_get' hj
      rw [Addr.add_lit]
      exact hc j hj1) (by rw [ucs_len]; omega) ucs_one
  refine ⟨_, _, hrun, ⟨hle, Or.inr ⟨gu, _, rfl, hbg, setRow_heap w gu cur _ _ _ hg, ?_, fun k hk => ?_⟩, fun k hk => ?_⟩, ⟨rfl, rfl, rfl, by simp, fun k _ hk => setRow_other w gu k _ (fun e => hk (by simp [e]))⟩⟩
  · simp only [List.size_toArray, List.length_append, List.length_take, List.length_drop, Array.length_toList, ucs_len]
    omega
  · rw [List.getElem?_toArray, ucs_len]
    have h1 : (cur.toList.take i).length = i := by simp; omega
    have h2 : (cur.toList.take i ++ ucs r m).length = i + m := by rw [List.length_append, h1, ucs_len]
    by_cases e1 : k < i
    · rw [List.getElem?_append_left (by omega), List.getElem?_append_left (by omega), List.getElem?_take, if_pos e1, Array.getElem?_toList, hcc k hk]
      show some (Value.int .u32 (up k)) = some (Value.int .u32 (splice up i m r k))
      rw [splice_out (Or.inl e1)]
    · by_cases e2 : k < i + m
      · obtain ⟨j, rfl⟩ : ∃ j, k = i + j := ⟨k - i, by omega⟩
        rw [List.getElem?_append_left (by omega), List.getElem?_append_right (by omega), h1, Nat.add_sub_cancel_left, ucs_get _ _ _ (by omega)]
        show some (Value.int .u32 (r j)) = some (Value.int .u32 (splice up i m r (i + j)))
        rw [splice_in (by omega)]
      · rw [List.getElem?_append_right (by omega), h2, List.getElem?_drop, show i + m + (k - (i + m)) = k by omega, Array.getElem?_toList, hcc k hk]
        show some (Value.int .u32 (up k)) = some (Value.int .u32 (splice up i m r k))
        rw [splice_out (Or.inr (by omega))]
  · by_cases e : i ≤ k ∧ k < i + m
    · obtain ⟨j, rfl⟩ : ∃ j, k = i + j := ⟨k - i, by omega⟩
      rw [splice_in (by omega)]; exact hr.rng j (by omega)
    · rw [splice_out (by omega)]; exact h.rng k hk

theorem cf_div (args : Array Value) (w : World) : (callFunc 152 args).run Tryz.prog w = .ok (.enter 152 args) w := by kernel_rfl

set_option maxHeartbeats 1000000 in
theorem divFn (w : World) (bh bg bv gu i n cu cv : Nat) (q : Option Addr) (up vp : Nat → Int) (g : Int) (k : Nat) (c1 : w.cell? ⟨bh, 0, none⟩ = some (.slice (some ⟨gu, i, none⟩) (n + 1) cu)) (c2 : w.cell? ⟨bg, 0, none⟩ = some (.int .u64 g))
    (c3 : w.cell? ⟨bv, 0, none⟩ = some (.slice q n cv)) (c4 : w.cell? ⟨gu, i + k, none⟩ = some (.int .u32 (up (i + k)))) (hk : k < n + 1) (hp : Rd w q n vp) (hn : n ≤ 200000000) (hg : 0 ≤ g ∧ g ≤ 999999999) (hu : 0 ≤ up (i + k) ∧ up (i + k) ≤ 999999999) (r1 : 0 ≤ part vp n k ∧ part vp n k ≤ 999999999) :
    Calls Tryz.prog 152 #[.int .i64 k, .pointer (some ⟨bh, 0, none⟩), .pointer (some ⟨bg, 0, none⟩), .pointer (some ⟨bv, 0, none⟩)] w fun e w' => e = .returned (.int .i64 (up (i + k) - g * part vp n k)) ∧ Below w.heap.size w w' := by
  have P := Lib.hid (fun (w1 : World) (h : ∃ m, w1 = w.drewN m) => part_any q n cv vp k w1 (by obtain ⟨m, rfl⟩ := h; exact hp.drewN m) (by omega) (by omega))
  have m1 : g * part vp n k ≤ 999999999 * 999999999 := Int.mul_le_mul hg.2 r1.2 r1.1 (by omega)
  have m2 : 0 ≤ g * part vp n k := Int.mul_nonneg hg.1 r1.1
  have e1 := IntWalk.i64_in (up (i + k)) (by omega)
  have e2 := IntWalk.u64_in (part vp n k) (by omega)
  have e3 := IntWalk.u64_in (g * part vp n k) (by omega)
  have e4 := IntWalk.i64_in (g * part vp n k) (by omega)
  have e5 := IntWalk.i64_in (up (i + k) - g * part vp n k) (by omega)
  have x1 : (k : Int) < ((n + 1 : Nat) : Int) := by omega
  have x2 : (k : Int) < (n : Int) + 1 := by omega
  generalize part vp n k = u at *
  generalize up (i + k) = t at *
  clear hp m1 m2 hu r1
  go_enter Tryz.func152, Tryz.ntmps152
  go_wp2_with fail
  go_quiet (first | with_reducible exact quietOf (P.out _ ⟨_, rfl⟩))
  go_wp2
  go_ret
  exact ⟨rfl, bdrewN (Below.refl _ _) _⟩
/-- What divide's closure works out. -/
def lessF (up vp : Nat → Int) (j N : Nat) (g : Int) (k : Nat) : Int := up (j + k) - g * part vp N k
theorem lessF_sum (up vp : Nat → Int) (j N : Nat) (g : Int) : sumB (lessF up vp j N g) (N + 1) = headV up N j - sumB vp N * g := by
  have e : lessF up vp j N g = fun k => (fun k => up (j + k)) k + part vp N k * (-g) := by
    funext k; unfold lessF; rw [Int.mul_neg, Int.mul_comm]; show _ = up (j + k) + _; omega
  rw [e, sumB_plus, sumB_times, sumB_part _ (by omega), Int.mul_neg]
  unfold headV
  omega
theorem Rd.at_own {w : World} {base gu L L' j m : Nat} {up : Nat → Int} (h : Own 56 w base (some ⟨gu, 0, none⟩) L L' up) (hj : j + m ≤ L) : Rd w (some ⟨gu, j, none⟩) m (fun k => up (j + k)) :=
  ⟨fun _ => ⟨gu, j, rfl, fun i hi => h.cell (by omega)⟩, fun i hi => h.rng _ (by omega)⟩
end Go.Proofs.YtkpajfjjhbbieaaGreatDoor.Limb
namespace Go.Proofs.YtkpajfjjhbbieaaGreatDoor.Limb
open Go.RowKit Go.Sort Go.Fresh

/-- What the scale makes of the divisor. -/
theorem scale_plain {ob : Nat → Int} {m : Nat} (hd : Dig ob (m + 1)) (ht : ob m ≠ 0) : 1 ≤ 1000000000 / (ob m + 1) ∧ 1000000000 / (ob m + 1) ≤ 500000000 ∧ sumB ob (m + 1) * (1000000000 / (ob m + 1)) < (pw (m + 1) : Int) ∧ (pw m : Int) ≤ sumB ob (m + 1) := by
  have h := hd m (by omega)
  have b := sumB_bd (o := ob) (n := m) fun k hk => hd k (by omega)
  have hp : (0 : Int) < (pw m : Int) := by have := pw_pos m; omega
  have h1 : 1 ≤ 1000000000 / (ob m + 1) := (Int.le_ediv_iff_mul_le (by omega)).2 (by omega)
  have h2 : 1000000000 / (ob m + 1) ≤ 500000000 := by
    have : 1000000000 / (ob m + 1) < 500000001 := Int.ediv_lt_of_lt_mul (by omega) (by omega)
    omega
  have h3 : 1000000000 / (ob m + 1) * (ob m + 1) ≤ 1000000000 := Int.ediv_mul_le _ (by omega)
  generalize 1000000000 / (ob m + 1) = s at *
  have e : sumB ob (m + 1) = sumB ob m + ob m * (pw m : Int) := rfl
  refine ⟨h1, h2, ?_, ?_⟩
  · have a1 : sumB ob (m + 1) < (ob m + 1) * (pw m : Int) := by rw [e, Int.add_mul]; omega
    have a2 : sumB ob (m + 1) * s < (ob m + 1) * (pw m : Int) * s := Int.mul_lt_mul_of_pos_right a1 (by omega)
    have a3 : (ob m + 1) * (pw m : Int) * s = s * (ob m + 1) * (pw m : Int) := by rw [Int.mul_comm, ← Int.mul_assoc]
    have a4 : s * (ob m + 1) * (pw m : Int) ≤ 1000000000 * (pw m : Int) := Int.mul_le_mul_of_nonneg_right h3 (by omega)
    rw [pw_succ, Int.natCast_mul]
    omega
  · have a1 : 1 * (pw m : Int) ≤ ob m * (pw m : Int) := Int.mul_le_mul_of_nonneg_right (by omega) (by omega)
    rw [e]; omega
/-- The divisor's parts, scaled: nothing above, and the uppermost is not 0. -/
theorem scaled_top {p : Nat → Int} {m : Nat} {V : Int} (hd : Dig p (m + 1 + 1)) (hs : sumB p (m + 1 + 1) = V) (hlt : V < (pw (m + 1) : Int)) (hge : (pw m : Int) ≤ V) : sumB p (m + 1) = V ∧ 0 < p m := by
  have b := sumB_bd (o := p) (n := m + 1) fun k hk => hd k (by omega)
  have b2 := sumB_bd (o := p) (n := m) fun k hk => hd k (by omega)
  have hp : (0 : Int) < (pw (m + 1) : Int) := by have := pw_pos (m + 1); omega
  have e : sumB p (m + 1 + 1) = sumB p (m + 1) + p (m + 1) * (pw (m + 1) : Int) := rfl
  have e2 : sumB p (m + 1) = sumB p m + p m * (pw m : Int) := rfl
  have h0 : p (m + 1) = 0 := by
    have h := hd (m + 1) (by omega)
    rcases Int.lt_or_le 0 (p (m + 1)) with h1 | h1
    · have : 1 * (pw (m + 1) : Int) ≤ p (m + 1) * (pw (m + 1) : Int) := Int.mul_le_mul_of_nonneg_right (by omega) (by omega)
      omega
    · omega
  rw [h0, Int.zero_mul, Int.add_zero] at e
  refine ⟨by omega, ?_⟩
  have h := hd m (by omega)
  rcases Int.lt_or_le 0 (p m) with h1 | h1
  · exact h1
  · have : p m = 0 := by omega
    rw [this, Int.zero_mul] at e2
    omega

/-- The memory of the division's loops. -/
structure DivW (w wr : World) (gu gq gv bv n L M cv : Nat) (up qp vp : Nat → Int) : Prop where
  u : Own 56 wr w.heap.size (some ⟨gu, 0, none⟩) L L up
  q : Own 56 wr w.heap.size (some ⟨gq, 0, none⟩) M M qp
  v : Own 56 wr w.heap.size (some ⟨gv, 0, none⟩) n cv vp
  vb : wr.rowIs bv 22 1 (fun _ => .slice (some ⟨gv, 0, none⟩) n cv)
  bel : Below w.heap.size w wr

/-- Behind the scaling of both: what lies where. -/
def Scaled (w : World) (L N : Nat) (A V : Int) (gu gv bv : Nat) (up vp : Nat → Int) (wx : World) : Prop :=
  Dig up L ∧ sumB up L = A ∧ Dig vp (N + 1) ∧ sumB vp (N + 1) = V ∧ Own 56 wx w.heap.size (some ⟨gu, 0, none⟩) L L up ∧ Own 56 wx w.heap.size (some ⟨gv, 0, none⟩) (N + 1) (N + 1) vp ∧
    wx.rowIs bv 22 1 (fun _ => .slice (some ⟨gv, 0, none⟩) N (N + 1)) ∧ (gu ≠ gv ∧ gu ≠ bv ∧ gv ≠ bv) ∧ w.heap.size ≤ bv ∧ Below w.heap.size w wx
theorem row_one (w : World) (v : Value) (t : TypeId) : (w.alloc (.cells #[v] t)).rowIs w.heap.size t 1 (fun _ => v) := World.rowIs_alloc w #[v] t (fun _ => v) (fun i hi => by
  match i, hi with
  | 0, _ => rfl)
theorem scaled_1 {w wa wb : World} {L N : Nat} {A V : Int} {gu gv : Nat} {up vp : Nat → Int} (du : Dig up L) (su : sumB up L = A) (dv : Dig vp (N + 1)) (sv : sumB vp (N + 1) = V) (ou : Own 56 wa w.heap.size (some ⟨gu, 0, none⟩) L L up) (ov : Own 56 wb wa.heap.size (some ⟨gv, 0, none⟩) (N + 1) (N + 1) vp)
    (hA1 : Below w.heap.size w wa) (hbb : Below wa.heap.size wa wb) : Scaled w L N A V gu gv wb.heap.size up vp (wb.alloc (.cells #[.slice (some ⟨gv, 0, none⟩) N (N + 1)] 22)) := by
  have h1 := (ou.blk rfl).2
  have h2 := (ov.blk rfl).2
  dsimp only at h1 h2
  have hB1 := hA1.trans (hbb.mono hA1.size)
  exact ⟨du, su, dv, sv, (ou.below hbb).allocd _, (ov.mono hA1.size).allocd _, row_one wb _ _, ⟨by omega, by have := hbb.size; omega, by omega⟩, hB1.size, hB1.alloc hB1.size _⟩
theorem scaled_2 {w wa wb : World} {L N : Nat} {A V : Int} {gu gv : Nat} {up vp : Nat → Int} (du : Dig up L) (su : sumB up L = A) (dv : Dig vp (N + 1)) (sv : sumB vp (N + 1) = V) (ou : Own 56 wa w.heap.size (some ⟨gu, 0, none⟩) L L up)
    (ov : Own 56 wb (wa.alloc (.cells #[.slice none 0 0] 22)).heap.size (some ⟨gv, 0, none⟩) (N + 1) (N + 1) vp)
    (hA1 : Below w.heap.size w wa) (hbb : Below (wa.alloc (.cells #[.slice none 0 0] 22)).heap.size (wa.alloc (.cells #[.slice none 0 0] 22)) wb) :
    Scaled w L N A V gu gv wa.heap.size up vp (wb.setCell ⟨wa.heap.size, 0, none⟩ (.slice (some ⟨gv, 0, none⟩) N (N + 1))) := by
  have h1 := (ou.blk rfl).2
  have h2 := (ov.blk rfl).2
  dsimp only at h1 h2
  rw [World.size_alloc] at h2
  have hB0 : Below w.heap.size w (wa.alloc (.cells #[.slice none 0 0] 22)) := hA1.alloc hA1.size _
  have hB1 := hB0.trans (hbb.mono hB0.size)
  have hs := hA1.size
  refine ⟨du, su, dv, sv, ((ou.allocd _).below hbb).keep (fun p hp => Below.heap_setCell _ _ _ _ (by cases hp; dsimp only; omega)), (ov.mono (by simp; omega)).keep (fun p hp => Below.heap_setCell _ _ _ _ (by cases hp; dsimp only; omega)),
    (((row_one wa _ _).of_block (hbb.block _ (by simp))).set 0 _).congr (fun i hi => by rw [if_pos (by omega)]), ⟨by omega, by omega, by omega⟩, hs, hB1.setCell hs _⟩
theorem scaled_3 {w w0 wa wb : World} {L N : Nat} {A V : Int} {gu gv : Nat} {up vp : Nat → Int} (hw0 : w0 = (w.alloc (.cells #[.slice none 0 0] 22)).drew) (du : Dig up L) (su : sumB up L = A) (dv : Dig vp (N + 1)) (sv : sumB vp (N + 1) = V)
    (ou : Own 56 wa w0.heap.size (some ⟨gu, 0, none⟩) L L up) (ov : Own 56 wb wa.heap.size (some ⟨gv, 0, none⟩) (N + 1) (N + 1) vp) (hba : Below w0.heap.size w0 wa) (hbb : Below wa.heap.size wa wb) :
    Scaled w L N A V gu gv w.heap.size up vp (wb.setCell ⟨w.heap.size, 0, none⟩ (.slice (some ⟨gv, 0, none⟩) N (N + 1))) := by
  have h1 := (ou.blk rfl).2
  have h2 := (ov.blk rfl).2
  dsimp only at h1 h2
  have hs0 : w0.heap.size = w.heap.size + 1 := by rw [hw0]; show (w.alloc _).heap.size = _; simp
  have hB0 : Below w.heap.size w w0 := by rw [hw0]; exact ((Below.refl _ _).alloc (Nat.le_refl _) _).drew
  have hB1 := (hB0.trans (hba.mono hB0.size)).trans (hbb.mono (Nat.le_trans hB0.size hba.size))
  have hz := hba.size
  have r0 : w0.rowIs w.heap.size 22 1 (fun _ => .slice none 0 0) := by rw [hw0]; exact (row_one w _ _)
  refine ⟨du, su, dv, sv, ((ou.mono (by omega)).below hbb).keep (fun p hp => Below.heap_setCell _ _ _ _ (by cases hp; dsimp only; omega)), (ov.mono (by omega)).keep (fun p hp => Below.heap_setCell _ _ _ _ (by cases hp; dsimp only; omega)),
    (((r0.of_block (hba.block _ (by omega))).of_block (hbb.block _ (by omega))).set 0 _).congr (fun i hi => by rw [if_pos (by omega)]), ⟨by omega, by omega, by omega⟩, Nat.le_refl _, hB1.setCell (Nat.le_refl _) _⟩

/-- wide, in whatever world that has grown. -/
theorem wide_grown (a : Option Addr) (n c : Nat) (o : Nat → Int) (by' : Int) (w : World) (hx : Rd w a n o) (dx : Dig o n) (hn : n ≤ 200000000) (hb : 0 ≤ by' ∧ by' ≤ 999999999) (w' : World) (h : Below w.heap.size w w') :
    Calls Tryz.prog 151 #[.slice a n c, .int .u32 by'] w' fun e w'' => ∃ g p, e = .returned (.slice (some ⟨g, 0, none⟩) (n + 1) (n + 1)) ∧ Dig p (n + 1) ∧ sumB p (n + 1) = sumB o n * by' ∧ Own 56 w'' w'.heap.size (some ⟨g, 0, none⟩) (n + 1) (n + 1) p ∧ Below w'.heap.size w' w'' ∧ Below w.heap.size w w'' ∧ w'.heap.size ≤ g ∧ g < w''.heap.size := by
  refine (wide_any a n c o by' w' (hx.below h) dx hn hb).mono ?_
  rintro e w'' ⟨g, p, rfl, h1, h2, h3, h4⟩
  exact ⟨g, p, rfl, h1, h2, h3, h4, h.trans (h4.mono h.size), (h3.blk rfl).2.1, (h3.blk rfl).2.2⟩

theorem DivW.drewN {w wr : World} {gu gq gv bv n L M cv : Nat} {up qp vp : Nat → Int} (h : DivW w wr gu gq gv bv n L M cv up qp vp) (k : Nat) : DivW w (wr.drewN k) gu gq gv bv n L M cv up qp vp := by
  have hb : Below wr.heap.size wr (wr.drewN k) := bdrewN (Below.refl _ _) k
  exact ⟨h.u.below hb, h.q.below hb, h.v.below hb, h.vb.of_block (hb.block _ h.vb.lt), h.bel.trans (hb.mono h.bel.size)⟩
theorem DivW.setBox {w wr : World} {gu gq gv bv n L M cv bg : Nat} {up qp vp : Nat → Int} (h : DivW w wr gu gq gv bv n L M cv up qp vp) (hne : gu ≠ bg ∧ gq ≠ bg ∧ gv ≠ bg ∧ bv ≠ bg) (hb : w.heap.size ≤ bg) (x : Value) : DivW w (wr.setCell ⟨bg, 0, none⟩ x) gu gq gv bv n L M cv up qp vp :=
  ⟨h.u.keep fun p hp => Below.heap_setCell _ _ _ _ (by cases hp; exact hne.1), h.q.keep fun p hp => Below.heap_setCell _ _ _ _ (by cases hp; exact hne.2.1), h.v.keep fun p hp => Below.heap_setCell _ _ _ _ (by cases hp; exact hne.2.2.1), h.vb.setOther hne.2.2.2 _, h.bel.setCell hb _⟩

/-- The number in a box of one cell. -/
def boxN (w : World) (b : Nat) : Nat := match w.cell? ⟨b, 0, none⟩ with | some (.int _ g) => g.toNat | _ => 0
theorem boxN_row {w : World} {b : Nat} {t : TypeId} {k : IntKind} {g : Int} (h : w.rowIs b t 1 (fun _ => .int k g)) : boxN w b = g.toNat := by
  unfold boxN
  rw [h.cell (i := 0) (by omega)]


set_option maxRecDepth 100000 in
set_option maxHeartbeats 4000000 in
theorem divide_any (a b : Option Addr) (la ca N n m cb L M : Nat) (oa ob : Nat → Int) (w : World) (ha : Rd w a la oa) (hb : Rd w b N ob) (da : Dig oa la) (db : Dig ob N) (hla : la ≤ 100000000) (hN : N = n + 1) (hn : n = m + 1) (hL : L = la + 1) (hM : M + N = L) (hNa : N ≤ la) (ht : ob n ≠ 0) :
    Calls Tryz.prog 104 #[.slice a la ca, .slice b N cb] w fun e w' => ∃ gq gr qp rp, e = .returned (.tuple #[.slice (some ⟨gq, 0, none⟩) M M, .slice (some ⟨gr, 0, none⟩) N N]) ∧ gq ≠ gr ∧
      Dig qp M ∧ sumB qp M = sumB oa la / sumB ob N ∧ Dig rp N ∧ sumB rp N = sumB oa la % sumB ob N ∧
      Own 56 w' w.heap.size (some ⟨gq, 0, none⟩) M M qp ∧ Own 56 w' w.heap.size (some ⟨gr, 0, none⟩) N N rp ∧ Below w.heap.size w w' := by
  obtain ⟨sc, hsc⟩ : ∃ sc, sc = 1000000000 / (ob n + 1) := ⟨_, rfl⟩
  have SP := scale_plain (ob := ob) (m := n) (by rw [← hN]; exact db) ht
  rw [← hsc, ← hN] at SP
  obtain ⟨p1, p2, p3, p4⟩ := SP
  have HP := Lib.hid (And.intro p3 p4)
  have htop := db n (by omega)
  obtain ⟨bb, bo, rfl, hc⟩ := hb.cells (by omega)
  have c1 : w.cell? ⟨bb, bo + n, none⟩ = some (.int .u32 (ob n)) := hc n (by omega)
  have t1 : (1000000000 : Int).tdiv (ob n + 1) = sc := by rw [hsc]; exact Int.tdiv_eq_ediv_of_nonneg (by omega)
  have WA := Lib.hid (fun (w' : World) (h : Below w.heap.size w w') => wide_grown a la ca oa sc w ha da (by omega) (by omega) w' h)
  have WB := Lib.hid (fun (w' : World) (h : Below w.heap.size w w') => wide_grown (some ⟨bb, bo, none⟩) N cb ob sc w hb db (by omega) (by omega) w' h)
  rw [← hL] at WA
  have DA := Lib.hid (And.intro da db)
  obtain ⟨tp, htp⟩ : ∃ tp, tp = ob n := ⟨_, rfl⟩
  rw [← htp] at c1 t1 htop
  have e1 := IntWalk.u32_in (tp + 1) (by omega)
  have e2 := IntWalk.u32_in sc (by omega)
  have x1 : ¬ (tp + 1 = 0) := by omega
  have xn : (N : Int) - 1 = (n : Int) := by omega
  have xn2 := IntWalk.i64_in ((N : Int) - 1) (by omega)
  have hnN : n < N := by omega
  have HT := Lib.hid htp
  have HEQ := Lib.hid (And.intro (And.intro hN hn) (And.intro hL hM))
  clear ha hb da db hc htop p3 p4 hsc ht htp hN hn hL
  go_enter Tryz.func104, Tryz.ntmps104
  go_wp2_with fail
  go_step3
  go_upto_region 3 with (fail)
  go_cut [8, 9] (fun v8 v9 wx => ∃ gu gv bv up vp, v8 = .slice (some ⟨gu, 0, none⟩) L L ∧ v9 = .pointer (some ⟨bv, 0, none⟩) ∧ Scaled w L N (sumB oa la * sc) (sumB ob N * sc) gu gv bv up vp wx)
  case first =>
    have xs1 : (N : Int) ≤ (N : Int) + 1 := by omega
    have xs2 : (0 : Int) ≤ (N : Int) := by omega
    have HBB := Lib.hid (Below.refl w.heap.size w)
    go_region_held3 (fun w' => Below w.heap.size w w')
      (repeat (first
        | (with_reducible assumption)
        | (with_reducible exact Below.refl _ _)
        | (with_reducible refine Below.setCell ?_ ?_ _)
        | (with_reducible refine Below.alloc ?_ ?_ _)
        | (with_reducible refine Below.drew ?_)
        | (simp only [World.size_alloc, World.size_drew, World.size_setCell]; omega) | omega))
      (first
        | (go_at_call 151; refine (WA.out _ (by first | with_reducible assumption | exact Below.drew (Below.refl _ _) | exact (by with_reducible assumption : Below _ _ _).alloc (by with_reducible assumption) _ | exact (Below.drew (Below.refl _ _)).alloc (Nat.le_refl _) _)).mono ?_; rintro e wa ⟨gu, up, rfl, du, su, ou, hba, hA1, ga1, ga2⟩; have hsa := hA1.size; obtain ⟨hca, hfa⟩ := bcell hba; have hza := hba.size; (try simp only [World.size_alloc, World.size_drew] at hza hca hfa); (try rw [Nat.add_one_le_iff] at hza))
        | (go_at_call 151; refine (WB.out _ (by first | with_reducible assumption | exact Below.drew (Below.refl _ _) | exact (by with_reducible assumption : Below _ _ _).alloc (by with_reducible assumption) _ | exact (Below.drew (Below.refl _ _)).alloc (Nat.le_refl _) _)).mono ?_; rintro e wb ⟨gv, vp, rfl, dv, sv, ov, hbb, hB1, gb1, gb2⟩; have hsb := hB1.size; obtain ⟨hcb, hfb⟩ := bcell hbb; have hzb := hbb.size; (try simp only [World.size_alloc, World.size_drew] at hzb hcb hfb); (try rw [Nat.add_one_le_iff] at hzb)))
    · go_wp2_with fail
      go_meet
      case rel => exact ⟨gu, gv, _, up, vp, rfl, rfl, scaled_1 du su dv sv ou ov hA1 hbb⟩
    · go_wp2_with fail
      go_meet
      case rel => exact ⟨gu, gv, _, up, vp, rfl, rfl, scaled_2 du su dv sv ou ov hA1 hbb⟩
    · go_wp2_with fail
      go_meet
      case rel => exact ⟨gu, gv, _, up, vp, rfl, rfl, scaled_3 rfl du su dv sv ou ov hba hbb⟩
  case rest =>
    obtain ⟨gu, gv, bv, up, vp, rfl, rfl, hsc⟩ := hcut
    obtain ⟨w1, rfl⟩ : ∃ w1, w1 = wc := ⟨_, rfl⟩
    obtain ⟨V, hV⟩ : ∃ V, V = sumB ob N * sc := ⟨_, rfl⟩
    obtain ⟨X, hX⟩ : ∃ X, X = sumB oa la * sc := ⟨_, rfl⟩
    rw [← hV, ← hX] at hsc
    obtain ⟨du, su, dv, sv, ou, ov, rv, hdis, hbv, hbel⟩ := hsc
    have HSC := Lib.hid (And.intro (And.intro du su) (And.intro ou ov))
    have HD := Lib.hid hdis
    have hbe := HEQ.out.1.1
    have hLe := HEQ.out.2.1
    have hVlt : V < (pw N : Int) := by rw [hV]; exact HP.out.1
    have hVge : (pw n : Int) ≤ V := by
      have h1 := HP.out.2
      have h2 : sumB ob N * 1 ≤ sumB ob N * sc := Int.mul_le_mul_of_nonneg_left p1 (by have := (sumB_bd DA.out.2).1; omega)
      rw [hV]; omega
    have hpn : (0 : Int) < (pw n : Int) := by have := pw_pos n; omega
    have hV0 : 0 < V := by omega
    have HT2 := scaled_top (p := vp) (m := n) (V := V) (by rw [← hbe]; exact dv) (by rw [← hbe]; exact sv) (by rw [← hbe]; exact hVlt) hVge
    rw [← hbe] at HT2
    have HVT := Lib.hid HT2
    have HVV := Lib.hid (And.intro (And.intro hV hX) (And.intro hVlt (And.intro hVge hV0)))
    have hX0 : X < V * (pw M : Int) := by
      have b := sumB_bd DA.out.1
      have e1 : sumB oa la * sc < (pw la : Int) * sc := Int.mul_lt_mul_of_pos_right b.2 (by omega)
      have e2 : (pw la : Int) * sc ≤ V * (pw M : Int) := by
        have h3 : (pw la : Int) = (pw n : Int) * (pw M : Int) := by rw [← Int.natCast_mul, ← pw_add]; congr 1; congr 1; have := HEQ.out; omega
        rw [h3, hV, Int.mul_assoc, Int.mul_assoc]
        have h4 := HP.out.2
        have h5 : (pw n : Int) * ((pw M : Int) * sc) ≤ sumB ob N * ((pw M : Int) * sc) := Int.mul_le_mul_of_nonneg_right h4 (Int.mul_nonneg (by omega) (by omega))
        rwa [Int.mul_comm (pw M : Int) sc] at h5 ⊢
      rw [hX]; omega
    have hmk := run_make_row' (P := Tryz.prog) 22 56 (.int .u32 0) 4 Tryz.underlying22 info32 rfl .i64 .i64 M (by omega) (by omega)
    have xl : (L : Int) - (N : Int) = (M : Int) := by omega
    have xl2 := IntWalk.i64_in ((L : Int) - (N : Int)) (by omega)
    have xw := IntWalk.i64_in (M : Int) (by omega)
    have xM1 := IntWalk.i64_in ((M : Int) - 1) (by omega)
    have xm0 : (0 : Int) < (M : Int) := by omega
    have xm1 : (0 : Int) ≤ (M : Int) := by omega
    have xm2 : max (0 : Int) (M : Int) = (M : Int) := by omega
    have hdv : Dig vp N := fun k hk => dv k (by omega)
    have W0 := Lib.hid (show DivW w (w1.alloc (.cells (madeCells #[Value.int .u32 0] M) 56)) gu w1.heap.size gv bv N L M (N + 1) up (fun _ => 0) vp from
      ⟨ou.allocd _, Own.of_rowIs (World.rowIs_made w1 (.int .u32 0) M 56) hbel.size (fun i hi => by omega), (ov.less (by omega)).allocd _, rv.alloc _, hbel.alloc hbel.size _⟩)
    have D0 := Lib.hid (show DivI X V N L M M up (fun _ => 0) from ⟨du, fun k _ => ⟨by omega, by omega⟩, fun _ _ => rfl, by rw [Nat.sub_self, sumB, su]; simp, by rw [su]; exact hX0⟩)
    have HDIS := Lib.hid (show (gu ≠ gv ∧ gu ≠ bv ∧ gv ≠ bv) ∧ (gu < w1.heap.size ∧ gv < w1.heap.size ∧ bv < w1.heap.size) from ⟨hdis, (ou.blk rfl).2.2, (ov.blk rfl).2.2, rv.lt⟩)
    have HDV := Lib.hid hdv
    clear du su dv sv ou ov rv hdis hbv hbel hbe hLe hVlt hVge hpn hV0 HT2 hX0 hdv hV hX
    go_wp2_with fail
    go_step3
    go_wp2_with fail
    go_loopw [10] (fun iv wr => ∃ i : Nat, i ≤ M ∧ iv = .int .i64 ((i : Int) - 1) ∧ ∃ up qp, DivI X V N L M i up qp ∧ DivW w wr gu w1.heap.size gv bv N L M (N + 1) up qp vp) (fun iv _ => (1 + intOf iv).toNat)
    case atStart => exact ⟨M, Nat.le_refl _, rfl, up, _, D0.out, W0.out⟩
    case round =>
      obtain ⟨wo, rfl⟩ : ∃ wo, wo = wr := ⟨_, rfl⟩
      obtain ⟨i, hi, rfl, up2, qp2, hD, hW⟩ := hrel
      have KD := Lib.hid hD
      have KW := Lib.hid hW
      clear hD hW hmk
      by_cases hi0 : i = 0
      · subst hi0
        rw [show (((0 : Nat) : Int) - 1) = -1 from rfl]
        have hlow := sum_low (o := up2) (n := N) (L := L) KD.out.udig (by omega) (by have := KD.out.lt; rw [pw_zero] at this; have := HVV.out.2.1; omega)
        have hb := KD.out.bal
        have hlt := KD.out.lt
        rw [pw_zero, show (fun k => qp2 (0 + k)) = qp2 from by funext k; rw [Nat.zero_add], Nat.sub_zero] at hb
        rw [pw_zero] at hlt
        have hu0 := (sumB_bd KD.out.udig).1
        have hE := div_end (A := sumB oa la) (Bv := sumB ob N) (sc := sc) (Q := sumB qp2 M) (R := sumB up2 L) (by omega) (by rw [← HVV.out.1.2, ← HVV.out.1.1]; rw [hb]; simp) hu0 (by rw [← HVV.out.1.1]; simpa using hlt)
        have SH := Lib.hid (short_any (some ⟨gu, 0, none⟩) N L up2 sc wo (KW.out.u.less (by omega)).rd (fun k hk => KD.out.udig k (by omega)) (by omega) (by omega) (by omega))
        rw [hlow] at SH
        have HE := Lib.hid hE
        have xs1 : (N : Int) ≤ (L : Int) := by omega
        have xs2 : (0 : Int) ≤ (N : Int) := by omega
        clear hlow hb hlt hu0 hE
        go_wp2_with fail
        refine SH.out.mono ?_
        rintro e w2 ⟨rp, rfl, dr, sr, orr, hb2⟩
        have HRR := Lib.hid (And.intro (And.intro dr sr) (And.intro orr hb2))
        clear dr sr orr hb2 SH
        go_wp2_with fail
        rw [Exit.noGoto_ret]
        go_ret2
        exact ⟨w1.heap.size, wo.heap.size, qp2, rp, rfl, by have := (KW.out.q.blk rfl).2.2; dsimp only at this; omega, KD.out.qdig, HE.out.1, HRR.out.1.1, HRR.out.1.2.trans HE.out.2, KW.out.q.below HRR.out.2.2, HRR.out.2.1.mono KW.out.bel.size, KW.out.bel.trans (HRR.out.2.2.mono KW.out.bel.size)⟩
      · obtain ⟨j, rfl⟩ : ∃ j, i = j + 1 := ⟨i - 1, by omega⟩
        rw [show (((j + 1 : Nat) : Int) - 1) = (j : Int) by omega]
        have hH := KD.out.head (by omega) (by omega) HVV.out.2.1 HVV.out.2.2.2
        have HH := Lib.hid hH
        have hLe := HEQ.out.2.1
        have xj1 := IntWalk.i64_in ((j : Int) + (N : Int)) (by omega)
        have xj2 := IntWalk.i64_in ((j : Int) + (N : Int) + 1) (by omega)
        have xj6 := IntWalk.i64_in ((j : Int) - 1) (by omega)
        have xj3 : (j : Int) ≤ (j : Int) + (N : Int) + 1 := by omega
        have xj4 : (j : Int) + (N : Int) + 1 ≤ (L : Int) := by omega
        have xj5 : (0 : Int) ≤ (j : Int) := by omega
        have xlen : j + N + 1 - j = N + 1 := by omega
        clear hH hLe
        go_upto_region 9 with (fail)
        obtain ⟨Wh, hWh⟩ : ∃ Wh, Wh = wo.alloc (.cells #[.slice (some ⟨gu, j, none⟩) (N + 1) (L - j)] 22) := ⟨_, rfl⟩
        have LW := Lib.hid (show DivW w Wh gu w1.heap.size gv bv N L M (N + 1) up2 qp2 vp by rw [hWh]; exact ⟨KW.out.u.allocd _, KW.out.q.allocd _, KW.out.v.allocd _, KW.out.vb.alloc _, KW.out.bel.alloc KW.out.bel.size _⟩)
        have LH := Lib.hid (show Wh.rowIs wo.heap.size 22 1 (fun _ => .slice (some ⟨gu, j, none⟩) (N + 1) (L - j)) by rw [hWh]; exact row_one wo _ _)
        have HSZ := Lib.hid (show gu < wo.heap.size ∧ w1.heap.size < wo.heap.size ∧ gv < wo.heap.size ∧ bv < wo.heap.size ∧ Wh.heap.size = wo.heap.size + 1 from ⟨(KW.out.u.blk rfl).2.2, (KW.out.q.blk rfl).2.2, (KW.out.v.blk rfl).2.2, KW.out.vb.lt, by rw [hWh]; simp⟩)
        rw [show wo.alloc (.cells #[.slice (some ⟨gu, j, none⟩) (N + 1) (L - j)] 22) = Wh from hWh.symm]
        clear hWh
        have hnn := HEQ.out.1.1
        have hb0 : Wh.cell? ⟨wo.heap.size, 0, none⟩ = some (.slice (some ⟨gu, j, none⟩) (N + 1) (L - j)) := LH.out.cell (i := 0) (by omega)
        have hu1 : Wh.cell? ⟨gu, j + N, none⟩ = some (.int .u32 (up2 (j + N))) := LW.out.u.cell (by omega)
        have hu2 : Wh.cell? ⟨gu, j + n, none⟩ = some (.int .u32 (up2 (j + n))) := LW.out.u.cell (by omega)
        have hv0 : Wh.cell? ⟨bv, 0, none⟩ = some (.slice (some ⟨gv, 0, none⟩) N (N + 1)) := LW.out.vb.cell (i := 0) (by omega)
        have hv1 : Wh.cell? ⟨gv, n, none⟩ = some (.int .u32 (vp n)) := LW.out.v.cell (by omega)
        have d1 := KD.out.udig (j + N) (by omega)
        have d2 := KD.out.udig (j + n) (by omega)
        have d3 := HDV.out n (by omega)
        have d4 := HVT.out.2
        obtain ⟨two, htwo⟩ : ∃ two, two = up2 (j + N) * 1000000000 + up2 (j + n) := ⟨_, rfl⟩
        have y1 := IntWalk.u64_in (up2 (j + N)) (by omega)
        have y2 := IntWalk.u64_in (up2 (j + n)) (by omega)
        have y3 := IntWalk.u64_in (up2 (j + N) * 1000000000) (by omega)
        have y4 := IntWalk.u64_in (up2 (j + N) * 1000000000 + up2 (j + n)) (by omega)
        have y5 := IntWalk.u64_in (vp n) (by omega)
        have y6 : two.tdiv (vp n) = two / vp n := Int.tdiv_eq_ediv_of_nonneg (by omega)
        have y7 : ¬ vp n = 0 := by omega
        have y8 : 0 ≤ two / vp n ∧ two / vp n ≤ two := ⟨Int.ediv_nonneg (by omega) (by omega), Int.ediv_le_self _ (by omega)⟩
        have y9 := IntWalk.u64_in (two / vp n) (by omega)
        have z1 : (N : Int) < ((N + 1 : Nat) : Int) := by omega
        have z2 : (n : Int) < ((N + 1 : Nat) : Int) := by omega
        have z3 : (N : Int) < (N : Int) + 1 := by omega
        have z4 : (n : Int) < (N : Int) + 1 := by omega
        have z5 : n < N + 1 := by omega
        have HTWO := Lib.hid htwo
        have htb : 0 ≤ two ∧ two ≤ 999999999999999999 := by omega
        clear hnn
        go_wp2_with fail
        go_quiet (fail)
        obtain ⟨Wd, hWd⟩ : ∃ Wd, Wd = Wh.drewN nq := ⟨_, rfl⟩
        have cw : ∀ p, Wd.cell? p = Wh.cell? p := by rw [hWd]; intro p; rfl
        have LD := Lib.hid (show DivW w Wd gu w1.heap.size gv bv N L M (N + 1) up2 qp2 vp from
          have hbD : Below Wh.heap.size Wh Wd := by rw [hWd]; exact bdrewN (Below.refl _ _) nq
          ⟨LW.out.u.below hbD, LW.out.q.below hbD, LW.out.v.below hbD, LW.out.vb.of_block (hbD.block _ LW.out.vb.lt), LW.out.bel.trans (hbD.mono LW.out.bel.size)⟩)
        have LHD := Lib.hid (show Wd.rowIs wo.heap.size 22 1 (fun _ => .slice (some ⟨gu, j, none⟩) (N + 1) (L - j)) by rw [hWd]; exact LH.out)
        have HSD := Lib.hid (show Wd.heap.size = wo.heap.size + 1 by rw [hWd]; exact HSZ.out.2.2.2.2)
        rw [← hWd, ← HTWO.out]
        have hb0 := (cw _).trans hb0
        have hv0 := (cw _).trans hv0
        have hv1 := (cw _).trans hv1
        clear htwo y1 y2 y3 y4 hu1 hu2 hWd cw LW LH
        go_upto_region 11 with (fail)
        obtain ⟨g0, hg0⟩ : ∃ g0, g0 = (if 999999999 < two / vp n then 999999999 else two / vp n) := ⟨_, rfl⟩
        rw [← hg0]
        have hgm : g0 = min (two / vp n) 999999999 := by rw [hg0]; split <;> omega
        obtain ⟨bg, hbg⟩ : ∃ bg, bg = Wd.heap.size := ⟨_, rfl⟩
        obtain ⟨Wg, hWg⟩ : ∃ Wg, Wg = Wd.alloc (.cells #[.int .u64 g0] 74) := ⟨_, rfl⟩
        have MW := Lib.hid (show DivW w Wg gu w1.heap.size gv bv N L M (N + 1) up2 qp2 vp by rw [hWg]; exact ⟨LD.out.u.allocd _, LD.out.q.allocd _, LD.out.v.allocd _, LD.out.vb.alloc _, LD.out.bel.alloc LD.out.bel.size _⟩)
        have MH := Lib.hid (show Wg.rowIs wo.heap.size 22 1 (fun _ => .slice (some ⟨gu, j, none⟩) (N + 1) (L - j)) by rw [hWg]; exact LHD.out.alloc _)
        have MG := Lib.hid (show Wg.rowIs bg 74 1 (fun _ => .int .u64 g0) by rw [hWg, hbg]; exact row_one Wd _ _)
        have hbg2 : bg = wo.heap.size + 1 := hbg.trans HSD.out
        rw [show Wd.alloc (.cells #[.int .u64 g0] 74) = Wg from hWg.symm, ← hbg]
        clear hWg hbg LD LHD hb0 hv0 hv1
        have hnn := HEQ.out.1
        have hq0 : headV up2 N j / V ≤ g0 := by
          have hd := HH.out
          rw [hgm]
          have tt := (top_two (f := fun k => up2 (j + k)) (m := n) (fun k hk => KD.out.udig (j + k) (by omega))).1
          have tv := (top_two (f := vp) (m := m) (fun k hk => HDV.out k (by omega))).2
          rw [← hnn.1, ← HTWO.out] at tt
          rw [← hnn.2, ← hnn.1, HVT.out.1] at tv
          have hpm : 0 ≤ vp m * (pw m : Int) := Int.mul_nonneg (HDV.out m (by omega)).1 (by omega)
          have hpn : (0 : Int) < (pw n : Int) := by have := pw_pos n; omega
          refine guess_ge (B1 := (pw n : Int)) d4 hpn ?_ hd.1 (by simpa [headV, hnn.1] using tt) hd.2.1 HVV.out.2.2.2
          rw [Int.add_mul] at tv
          have e : vp n * (pw n : Int) = vp n * 1000000000 * (pw m : Int) := by rw [hnn.2, pw_succ, Int.natCast_mul, Int.mul_comm (pw m : Int), ← Int.mul_assoc]; rfl
          omega
        have hgv : g0 * vp n ≤ two := by
          have h1 : g0 ≤ two / vp n := by omega
          exact (Int.le_ediv_iff_mul_le d4).1 h1
        have hgb : 0 ≤ g0 ∧ g0 ≤ 999999999 := by omega
        have HG0 := Lib.hid (And.intro (And.intro hgb hq0) hgv)
        have hgn : 0 ≤ g0 * vp n := Int.mul_nonneg hgb.1 (by omega)
        have r0 : Wg.cell? ⟨bg, 0, none⟩ = some (.int .u64 g0) := MG.out.cell (i := 0) (by omega)
        have r1 : Wg.cell? ⟨bv, 0, none⟩ = some (.slice (some ⟨gv, 0, none⟩) N (N + 1)) := MW.out.vb.cell (i := 0) (by omega)
        have r2 : Wg.cell? ⟨gv, n, none⟩ = some (.int .u32 (vp n)) := MW.out.v.cell (by omega)
        have hnN := hnN
        have y10 := IntWalk.u64_in (g0 * vp n) (by omega)
        have y11 := IntWalk.u64_in (two - g0 * vp n) (by omega)
        have HB2 := Lib.hid hbg2
        clear hgm hq0 hgv hgb hgn hg0 hnn hbg2
        go_wp2_with fail
        go_quiet (fail)
        obtain ⟨Wv, hWv⟩ : ∃ Wv, Wv = Wg.drewN nq := ⟨_, rfl⟩
        have hbD : Below Wg.heap.size Wg Wv := by rw [hWv]; exact bdrewN (Below.refl _ _) nq
        have NW := Lib.hid (show DivW w Wv gu w1.heap.size gv bv N L M (N + 1) up2 qp2 vp from ⟨MW.out.u.below hbD, MW.out.q.below hbD, MW.out.v.below hbD, MW.out.vb.of_block (hbD.block _ MW.out.vb.lt), MW.out.bel.trans (hbD.mono MW.out.bel.size)⟩)
        have NH := Lib.hid (MH.out.of_block (hbD.block _ MH.out.lt))
        have NG := Lib.hid (MG.out.of_block (hbD.block _ MG.out.lt))
        rw [← hWv]
        clear hWv hbD r0 r1 r2 MW MH MG y10 y11
        go_wp2_with fail
        go_loopw [14] (fun ov wx => ∃ g : Int, ((0 ≤ g ∧ g ≤ 999999999) ∧ headV up2 N j / V ≤ g) ∧ g * vp n ≤ two ∧ ov = .int .u64 (two - g * vp n) ∧ DivW w wx gu w1.heap.size gv bv N L M (N + 1) up2 qp2 vp ∧
          wx.rowIs wo.heap.size 22 1 (fun _ => .slice (some ⟨gu, j, none⟩) (N + 1) (L - j)) ∧ wx.rowIs bg 74 1 (fun _ => .int .u64 g)) (fun ov _ => (1000000000 - intOf ov).toNat)
        case atStart => exact ⟨g0, HG0.out.1, HG0.out.2, rfl, NW.out, NH.out, NG.out⟩
        case round =>
          obtain ⟨g, hg, hgt, rfl, hW, hH, hG⟩ := hrel
          have OW := Lib.hid hW; have OH := Lib.hid hH; have OG := Lib.hid hG; have OB := Lib.hid hg
          have hv1 := HDV.out n (by have := HEQ.out.1; omega)
          have hgn : 0 ≤ g * vp n := Int.mul_nonneg hg.1.1 hv1.1
          obtain ⟨ov, hov⟩ : ∃ ov, ov = two - g * vp n := ⟨_, rfl⟩
          have hob : 0 ≤ ov ∧ ov ≤ 999999999999999999 := by omega
          have HOV := Lib.hid hov
          rw [← hov]
          have hv2 := HDV.out m (by have := HEQ.out.1; omega)
          have hu3 := KD.out.udig (j + m) (by have := HEQ.out; omega)
          have hgm : 0 ≤ g * vp m ∧ g * vp m ≤ 999999999 * 999999999 := ⟨Int.mul_nonneg hg.1.1 hv2.1, Int.mul_le_mul hg.1.2 (by omega) hv2.1 (by omega)⟩
          obtain ⟨gm, hgm2⟩ : ∃ gm, gm = g * vp m := ⟨_, rfl⟩
          rw [← hgm2] at hgm
          have HGM := Lib.hid hgm2
          have r0 : wr.cell? ⟨bg, 0, none⟩ = some (.int .u64 g) := hG.cell (i := 0) (by omega)
          have r1 : wr.cell? ⟨bv, 0, none⟩ = some (.slice (some ⟨gv, 0, none⟩) N (N + 1)) := hW.vb.cell (i := 0) (by omega)
          have r2 : wr.cell? ⟨wo.heap.size, 0, none⟩ = some (.slice (some ⟨gu, j, none⟩) (N + 1) (L - j)) := hH.cell (i := 0) (by omega)
          have r3 : wr.cell? ⟨gv, n, none⟩ = some (.int .u32 (vp n)) := hW.v.cell (by have := HEQ.out.1; omega)
          have r4 : wr.cell? ⟨gv, m, none⟩ = some (.int .u32 (vp m)) := hW.v.cell (by have := HEQ.out.1; omega)
          have r5 : wr.cell? ⟨gu, j + m, none⟩ = some (.int .u32 (up2 (j + m))) := hW.u.cell (by have := HEQ.out; omega)
          have fz := hG.frozen
          have ne1 : ¬ bv = bg := by have := HSZ.out; have := HB2.out; omega
          have ne2 : ¬ gv = bg := by have := HSZ.out; have := HB2.out; omega
          have ne3 : ¬ bg = bv := fun h => ne1 h.symm
          have ne4 : ¬ bg = gv := fun h => ne2 h.symm
          have xm : (N : Int) - 2 = (m : Int) := by have := HEQ.out.1; omega
          have xm3 := IntWalk.i64_in ((N : Int) - 2) (by omega)
          have xm4 : (m : Int) < (N : Int) := by have := HEQ.out.1; omega
          have xm5 : (m : Int) < (N : Int) + 1 := by omega
          have xm6 : m < N := by omega
          have w1' := IntWalk.u64_in (vp m) (by omega)
          have w2' := IntWalk.u64_in (vp n) (by omega)
          have w3' := IntWalk.u64_in gm (by omega)
          have w4' := IntWalk.u64_in (up2 (j + m)) (by omega)
          have w5' := IntWalk.u64_in g (by omega)
          clear hW hH hG hg hgt hgn hv2 hu3 hov hgm2
          by_cases hlt : ov < 1000000000
          · have w6' := IntWalk.u64_in (ov * 1000000000) (by omega)
            have w7' := IntWalk.u64_in (ov * 1000000000 + up2 (j + m)) (by have := KD.out.udig (j + m) (by have := HEQ.out; omega); omega)
            have egm : g * vp m = gm := HGM.out.symm
            by_cases hgr : gm > ov * 1000000000 + up2 (j + m)
            · have w8' := IntWalk.u64_in (g - 1) (by have := OB.out; have : g ≠ 0 := (fun h => by rw [HGM.out, h, Int.zero_mul] at hgr; have := KD.out.udig (j + m) (by have := HEQ.out; omega); omega); omega)
              have w9' := IntWalk.u64_in (ov + vp n) (by omega)
              have hnn := HEQ.out.1
              have HGD := Lib.hid (show headV up2 N j / V ≤ g - 1 from by
                have tt := top_three (f := fun k => up2 (j + k)) (m := m) (fun k hk => KD.out.udig (j + k) (by have := HEQ.out; omega))
                have tv := (top_two (f := vp) (m := m) (fun k hk => HDV.out k (by omega))).2
                have hpm : (0 : Int) < (pw m : Int) := by have := pw_pos m; omega
                rw [← hnn.2, ← hnn.1, HVT.out.1] at tv
                refine guess_down (v1 := vp n) (v2 := vp m) (two := two) (h2 := up2 (j + m)) hpm tv ?_ OB.out.1.1 (by rw [← HOV.out, ← HGM.out]; omega) OB.out.2 HVV.out.2.2.2
                have e : two = up2 (j + (m + 1 + 1)) * 1000000000 + up2 (j + (m + 1)) := by rw [HTWO.out, hnn.1, hnn.2]
                rw [e]
                simpa [headV, hnn.1, hnn.2] using tt)
              have HG1 := Lib.hid (show 0 ≤ g - 1 ∧ g - 1 ≤ 999999999 ∧ (g - 1) * vp n ≤ two ∧ ov + vp n = two - (g - 1) * vp n from by
                have h1 := OB.out
                have h2 : g ≠ 0 := (fun h => by rw [HGM.out, h, Int.zero_mul] at hgr; have := KD.out.udig (j + m) (by have := HEQ.out; omega); omega)
                have h3 : (g - 1) * vp n = g * vp n - vp n := by rw [Int.sub_mul, Int.one_mul]
                have h4 := HOV.out
                omega)
              have HNE := Lib.hid (show (gu ≠ bg ∧ w1.heap.size ≠ bg ∧ gv ≠ bg ∧ bv ≠ bg) ∧ w.heap.size ≤ bg ∧ wo.heap.size ≠ bg by have := HSZ.out; have := HB2.out; have := KW.out.bel.size; omega)
              clear hnn
              go_wp2_with fail
              go_quiet (fail)
              go_wp2_with fail
              go_roundw
              case rel => exact ⟨g - 1, ⟨⟨HG1.out.1, HG1.out.2.1⟩, HGD.out⟩, HG1.out.2.2.1, by rw [HG1.out.2.2.2], (OW.out.drewN nq).setBox HNE.out.1 HNE.out.2.1 _, World.rowIs.setOther (w := wr.drewN nq) OH.out HNE.out.2.2 _, (World.rowIs.set (w := wr.drewN nq) OG.out 0 _).congr (fun i hi => by rw [if_pos (by omega)])⟩
              case measure => simp [intOf]; omega
            · go_wp2_with fail
              go_quiet (fail)
              obtain ⟨wy, hwy⟩ : ∃ wy, wy = wr.drewN nq := ⟨_, rfl⟩
              rw [← hwy]
              have hbD : Below wr.heap.size wr wy := by rw [hwy]; exact bdrewN (Below.refl _ _) nq
              have PW := Lib.hid (show DivW w wy gu w1.heap.size gv bv N L M (N + 1) up2 qp2 vp from ⟨OW.out.u.below hbD, OW.out.q.below hbD, OW.out.v.below hbD, OW.out.vb.of_block (hbD.block _ OW.out.vb.lt), OW.out.bel.trans (hbD.mono OW.out.bel.size)⟩)
              have PH := Lib.hid (OH.out.of_block (hbD.block _ OH.out.lt))
              have PG := Lib.hid (OG.out.of_block (hbD.block _ OG.out.lt))
              have r0 : wy.cell? ⟨bg, 0, none⟩ = some (.int .u64 g) := PG.out.cell (i := 0) (by omega)
              clear hwy hbD r1 r2 r3 r4 r5 fz w1' w2' w3' w4' w5' OW OH OG
              by_cases hz : g = 0
              · have KS := Lib.hid (KD.out.skip (by omega) (by omega) HVV.out.2.1 HVV.out.2.2.2 (by have := OB.out.2; omega))
                subst hz
                go_wp2_with fail
                go_roundw
                case rel => exact ⟨j, by omega, rfl, up2, qp2, KS.out, PW.out⟩
                case measure => simp [intOf]; omega
              · have hgz : (g == 0) = false := by simpa using hz
                go_wp2_with fail
                clear r0 hgz
                go_loopw [15] (fun lv wx => (∃ v : Value, lv = v) ∧ ∃ g : Int, ((0 ≤ g ∧ g ≤ 999999999) ∧ headV up2 N j / V ≤ g) ∧ DivW w wx gu w1.heap.size gv bv N L M (N + 1) up2 qp2 vp ∧
                  wx.rowIs wo.heap.size 22 1 (fun _ => .slice (some ⟨gu, j, none⟩) (N + 1) (L - j)) ∧ wx.rowIs bg 74 1 (fun _ => .int .u64 g)) (fun _ wx => boxN wx bg)
                case atStart => exact ⟨⟨_, rfl⟩, g, OB.out, PW.out, PH.out, PG.out⟩
                case round =>
                  obtain ⟨⟨lv, rfl⟩, g3, hg3, hW, hH, hG⟩ := hrel
                  have QW := Lib.hid hW; have QH := Lib.hid hH; have QG := Lib.hid hG; have QB := Lib.hid hg3
                  have HQ0 := Lib.hid (boxN_row hG)
                  have r0 : wr.cell? ⟨bg, 0, none⟩ = some (.int .u64 g3) := hG.cell (i := 0) (by omega)
                  have r1 : wr.cell? ⟨bv, 0, none⟩ = some (.slice (some ⟨gv, 0, none⟩) N (N + 1)) := hW.vb.cell (i := 0) (by omega)
                  have r2 : wr.cell? ⟨wo.heap.size, 0, none⟩ = some (.slice (some ⟨gu, j, none⟩) (N + 1) (L - j)) := hH.cell (i := 0) (by omega)
                  have hLe := HEQ.out.2.1
                  have hpart : ∀ k, 0 ≤ part vp N k ∧ part vp N k ≤ 999999999 := by
                    intro k
                    unfold part
                    split
                    · have := HDV.out k (by omega); omega
                    · omega
                  have QW' := QW
                  have CA := Lib.hid (carry_any 152 #[.pointer (some ⟨wo.heap.size, 0, none⟩), .pointer (some ⟨bg, 0, none⟩), .pointer (some ⟨bv, 0, none⟩)] (N + 1) (lessF up2 vp j N g3) (-999999999) 1 wr (by omega) cf_div
                    (fun k hk v1 hb1 => divFn v1 wo.heap.size bg bv gu j N (L - j) (N + 1) (some ⟨gv, 0, none⟩) up2 vp g3 k ((hb1.cell (p := ⟨wo.heap.size, 0, none⟩) QH.out.lt).trans r2) ((hb1.cell (p := ⟨bg, 0, none⟩) QG.out.lt).trans r0) ((hb1.cell (p := ⟨bv, 0, none⟩) QW.out.vb.lt).trans r1)
                      ((QW.out.u.below hb1).cell (by omega)) (by omega) ((QW.out.v.less (by omega)).below hb1).rd (by omega) QB.out.1 (by have := KD.out.udig (j + k) (by omega); omega) (hpart k))
                    (fun k hk => by
                      have h1 := KD.out.udig (j + k) (by omega)
                      have h2 := hpart k
                      have h3 : g3 * part vp N k ≤ 999999999 * 999999999 := Int.mul_le_mul QB.out.1.2 h2.2 h2.1 (by omega)
                      have h4 : 0 ≤ g3 * part vp N k := Int.mul_nonneg QB.out.1.1 h2.1
                      unfold lessF
                      omega) (by omega) (by omega) (by omega) (by omega))
                  rw [show ((N + 1 : Nat) : Int) = (N : Int) + 1 from rfl] at CA
                  have xK := IntWalk.i64_in ((N : Int) + 1) (by omega)
                  clear hg3 hW hH hG hLe hpart
                  go_wp2_with fail
                  refine CA.out.mono ?_
                  rintro e w4 ⟨rfl, hO4, hb4⟩
                  have RW := Lib.hid (show DivW w w4 gu w1.heap.size gv bv N L M (N + 1) up2 qp2 vp from ⟨QW.out.u.below hb4, QW.out.q.below hb4, QW.out.v.below hb4, QW.out.vb.of_block (hb4.block _ QW.out.vb.lt), QW.out.bel.trans (hb4.mono QW.out.bel.size)⟩)
                  have RH := Lib.hid (QH.out.of_block (hb4.block _ QH.out.lt))
                  have RG := Lib.hid (QG.out.of_block (hb4.block _ QG.out.lt))
                  have RO := Lib.hid hO4
                  clear hO4 hb4 CA r0 r1 r2 QW QH QG
                  have r0 : w4.cell? ⟨bg, 0, none⟩ = some (.int .u64 g3) := RG.out.cell (i := 0) (by omega)
                  have r1 : w4.cell? ⟨bv, 0, none⟩ = some (.slice (some ⟨gv, 0, none⟩) N (N + 1)) := RW.out.vb.cell (i := 0) (by omega)
                  have r2 : w4.cell? ⟨wo.heap.size, 0, none⟩ = some (.slice (some ⟨gu, j, none⟩) (N + 1) (L - j)) := RH.out.cell (i := 0) (by omega)
                  have BL := Lib.hid (below_any (some ⟨gu, j, none⟩) (some ⟨gv, 0, none⟩) (N + 1) (L - j) N (N + 1) (fun k => up2 (j + k)) vp g3 w4 (Rd.at_own RW.out.u (by omega)) (RW.out.v.less (by omega)).rd (fun k hk => KD.out.udig (j + k) (by omega)) HDV.out (by have := HEQ.out.2.1; omega) (by have := HEQ.out.2.1; omega) QB.out.1)
                  rw [show sumB (fun k => up2 (j + k)) (N + 1) = headV up2 N j from rfl, HVT.out.1] at BL
                  go_wp2_with fail
                  refine BL.out.mono ?_
                  rintro e w5 ⟨rfl, hb5⟩
                  have SW := Lib.hid (show DivW w w5 gu w1.heap.size gv bv N L M (N + 1) up2 qp2 vp from ⟨RW.out.u.below hb5, RW.out.q.below hb5, RW.out.v.below hb5, RW.out.vb.of_block (hb5.block _ RW.out.vb.lt), RW.out.bel.trans (hb5.mono RW.out.bel.size)⟩)
                  have SH := Lib.hid (RH.out.of_block (hb5.block _ RH.out.lt))
                  have SG := Lib.hid (RG.out.of_block (hb5.block _ RG.out.lt))
                  have SO := Lib.hid (RO.out.below hb5)
                  clear hb5 BL r0 r1 r2 RW RH RG RO
                  have r0 : w5.cell? ⟨bg, 0, none⟩ = some (.int .u64 g3) := SG.out.cell (i := 0) (by omega)
                  have r2 : w5.cell? ⟨wo.heap.size, 0, none⟩ = some (.slice (some ⟨gu, j, none⟩) (N + 1) (L - j)) := SH.out.cell (i := 0) (by omega)
                  have fz := SG.out.frozen
                  have HNE := Lib.hid (show (gu ≠ bg ∧ w1.heap.size ≠ bg ∧ gv ≠ bg ∧ bv ≠ bg) ∧ w.heap.size ≤ bg ∧ wo.heap.size ≠ bg ∧ gu < wr.heap.size by have := HSZ.out; have := HB2.out; have := KW.out.bel.size; have := HDIS.out; have := (QW'.out.u.blk rfl).2.2; dsimp only at this; omega)
                  by_cases hlt3 : headV up2 N j < V * g3
                  · have hh0 := HH.out.1
                    have hgp : 1 ≤ g3 := by
                      rcases Int.lt_or_le 0 g3 with h | h
                      · omega
                      · have := QB.out.1.1
                        rw [show g3 = 0 by omega, Int.mul_zero] at hlt3
                        omega
                    have w8' := IntWalk.u64_in (g3 - 1) (by have := QB.out.1; omega)
                    have HGL := Lib.hid (And.intro (guess_less HVV.out.2.2.2 QB.out.2 hlt3) hgp)
                    clear hh0 hgp
                    go_wp2_with fail
                    go_roundw
                    case rel => exact ⟨⟨_, rfl⟩, g3 - 1, ⟨⟨by have := HGL.out.2; omega, by have := QB.out.1; omega⟩, HGL.out.1⟩, SW.out.setBox HNE.out.1 HNE.out.2.1 _, World.rowIs.setOther (a := ⟨bg, 0, none⟩) SH.out HNE.out.2.2.1 _, (SG.out.set 0 _).congr (fun i hi => by rw [if_pos (by omega)])⟩
                    case measure =>
                      have e1 := boxN_row ((SG.out.set 0 (.int .u64 (g3 - 1))).congr (g := fun _ => .int .u64 (g3 - 1)) (fun i hi => by rw [if_pos (by omega)]))
                      rw [e1, HQ0.out]
                      have := HGL.out.2
                      omega
                  · obtain ⟨gr1, gr2, gr3⟩ := guess_right HVV.out.2.2.2 QB.out.2 hlt3
                    have hLe := HEQ.out.2.1
                    have hsum : sumB (cD (lessF up2 vp j N g3)) (N + 1) = headV up2 N j - V * g3 := by
                      have h1 := lessF_sum up2 vp j N g3
                      rw [HVT.out.1] at h1
                      rw [(cS_fits (by rw [h1]; exact gr2) (by rw [h1, pw_succ, Int.natCast_mul]; have := HVV.out.2.1; omega)).2, h1]
                    have ST := Lib.hid (KD.out.step (g := g3) (r := cD (lessF up2 vp j N g3)) (by omega) (by omega) HVV.out.2.1 HVV.out.2.2.2 (by have := QB.out.1; omega) (cD_Dig _ _) hsum gr3)
                    obtain ⟨vc, w6, hrun, hown6, hgrow⟩ := copy_own (r := cD (lessF up2 vp j N g3)) SW.out.u (i := j) (m := N + 1) (by omega) (by omega) SO.out.rd 3 (L - j) (N + 1)
                    have HO6 := Lib.hid hown6
                    have HG6 := Lib.hid hgrow
                    have w7' := IntWalk.u32_in g3 (by have := QB.out.1; omega)
                    have hsz6 := SW.out.bel.size
                    have TG := Lib.hid (SG.out.of_block (hgrow.block bg SG.out.lt (fun e => by have := HNE.out.1.1; cases e; contradiction)))
                    have TQ := Lib.hid (SW.out.q.keep fun p hp => hgrow.block _ (SW.out.q.blk hp).2.2 (fun e => by have := HDIS.out; have := (KW.out.u.blk rfl).2.2; cases hp; cases e; have h9 := HDIS.out.2.1; dsimp only at *; omega))
                    have r5 : w6.cell? ⟨bg, 0, none⟩ = some (.int .u64 g3) := TG.out.cell (i := 0) (by omega)
                    obtain ⟨vo, r6⟩ : ∃ vo, w6.cell? ⟨w1.heap.size, j, none⟩ = some vo := ⟨_, TQ.out.cell (by omega)⟩
                    have fq := TQ.out.fz
                    clear hown6 hgrow gr1 gr2 gr3 hsum hLe
                    have HF := Lib.hid (show DivW w (w6.setCell ⟨w1.heap.size, j, none⟩ (.int .u32 g3)) gu w1.heap.size gv bv N L M (N + 1) (splice up2 j (N + 1) (cD (lessF up2 vp j N g3))) (upd qp2 j g3) vp from by
                      have hd := HDIS.out
                      have hv6 := SW.out.v.keep (w' := w6) fun p hp => HG6.out.block _ (SW.out.v.blk hp).2.2 (fun e => by cases hp; cases e; exact hd.1.1 rfl)
                      have hb6 := SW.out.vb.of_block (w' := w6) (HG6.out.block _ SW.out.vb.lt (fun e => by cases e; exact hd.1.2.1 rfl))
                      have hl6 : Below w.heap.size w w6 := SW.out.bel.grown HG6.out SW.out.bel.size (fun k hk => by cases hk; exact (SW.out.u.blk rfl).2.1)
                      refine ⟨HO6.out.keep fun p hp => Below.heap_setCell _ _ _ _ (by cases hp; dsimp only; omega), TQ.out.put (by omega) (by have := QB.out.1; omega), hv6.keep fun p hp => Below.heap_setCell _ _ _ _ (by cases hp; dsimp only; omega), hb6.setOther (by dsimp only; omega) _, hl6.setCell (p := ⟨w1.heap.size, j, none⟩) (TQ.out.blk rfl).2.1 _⟩)
                    go_wp2_with fail
                    go_roundw
                    case rel => exact ⟨j, by omega, rfl, _, _, ST.out, HF.out⟩
                    case measure => simp [intOf]; omega
          · have hge : ¬ ov < 1000000000 := hlt
            have hdb : decide (ov < 1000000000) = false := decide_eq_false hlt
            go_wp2_with fail
            go_quiet (fail)
            obtain ⟨wy, hwy⟩ : ∃ wy, wy = wr.drewN nq := ⟨_, rfl⟩
            rw [← hwy]
            have hbD : Below wr.heap.size wr wy := by rw [hwy]; exact bdrewN (Below.refl _ _) nq
            have PW := Lib.hid (show DivW w wy gu w1.heap.size gv bv N L M (N + 1) up2 qp2 vp from ⟨OW.out.u.below hbD, OW.out.q.below hbD, OW.out.v.below hbD, OW.out.vb.of_block (hbD.block _ OW.out.vb.lt), OW.out.bel.trans (hbD.mono OW.out.bel.size)⟩)
            have PH := Lib.hid (OH.out.of_block (hbD.block _ OH.out.lt))
            have PG := Lib.hid (OG.out.of_block (hbD.block _ OG.out.lt))
            have r0 : wy.cell? ⟨bg, 0, none⟩ = some (.int .u64 g) := PG.out.cell (i := 0) (by omega)
            clear hwy hbD r1 r2 r3 r4 r5 fz w1' w2' w3' w4' w5' OW OH OG
            by_cases hz : g = 0
            · have KS := Lib.hid (KD.out.skip (by omega) (by omega) HVV.out.2.1 HVV.out.2.2.2 (by have := OB.out.2; omega))
              subst hz
              go_wp2_with fail
              go_roundw
              case rel => exact ⟨j, by omega, rfl, up2, qp2, KS.out, PW.out⟩
              case measure => simp [intOf]; omega
            · have hgz : (g == 0) = false := by simpa using hz
              go_wp2_with fail
              clear r0 hgz
              go_loopw [15] (fun lv wx => (∃ v : Value, lv = v) ∧ ∃ g : Int, ((0 ≤ g ∧ g ≤ 999999999) ∧ headV up2 N j / V ≤ g) ∧ DivW w wx gu w1.heap.size gv bv N L M (N + 1) up2 qp2 vp ∧
                wx.rowIs wo.heap.size 22 1 (fun _ => .slice (some ⟨gu, j, none⟩) (N + 1) (L - j)) ∧ wx.rowIs bg 74 1 (fun _ => .int .u64 g)) (fun _ wx => boxN wx bg)
              case atStart => exact ⟨⟨_, rfl⟩, g, OB.out, PW.out, PH.out, PG.out⟩
              case round =>
                obtain ⟨⟨lv, rfl⟩, g3, hg3, hW, hH, hG⟩ := hrel
                have QW := Lib.hid hW; have QH := Lib.hid hH; have QG := Lib.hid hG; have QB := Lib.hid hg3
                have HQ0 := Lib.hid (boxN_row hG)
                have r0 : wr.cell? ⟨bg, 0, none⟩ = some (.int .u64 g3) := hG.cell (i := 0) (by omega)
                have r1 : wr.cell? ⟨bv, 0, none⟩ = some (.slice (some ⟨gv, 0, none⟩) N (N + 1)) := hW.vb.cell (i := 0) (by omega)
                have r2 : wr.cell? ⟨wo.heap.size, 0, none⟩ = some (.slice (some ⟨gu, j, none⟩) (N + 1) (L - j)) := hH.cell (i := 0) (by omega)
                have hLe := HEQ.out.2.1
                have hpart : ∀ k, 0 ≤ part vp N k ∧ part vp N k ≤ 999999999 := by
                  intro k
                  unfold part
                  split
                  · have := HDV.out k (by omega); omega
                  · omega
                have QW' := QW
                have CA := Lib.hid (carry_any 152 #[.pointer (some ⟨wo.heap.size, 0, none⟩), .pointer (some ⟨bg, 0, none⟩), .pointer (some ⟨bv, 0, none⟩)] (N + 1) (lessF up2 vp j N g3) (-999999999) 1 wr (by omega) cf_div
                  (fun k hk v1 hb1 => divFn v1 wo.heap.size bg bv gu j N (L - j) (N + 1) (some ⟨gv, 0, none⟩) up2 vp g3 k ((hb1.cell (p := ⟨wo.heap.size, 0, none⟩) QH.out.lt).trans r2) ((hb1.cell (p := ⟨bg, 0, none⟩) QG.out.lt).trans r0) ((hb1.cell (p := ⟨bv, 0, none⟩) QW.out.vb.lt).trans r1)
                    ((QW.out.u.below hb1).cell (by omega)) (by omega) ((QW.out.v.less (by omega)).below hb1).rd (by omega) QB.out.1 (by have := KD.out.udig (j + k) (by omega); omega) (hpart k))
                  (fun k hk => by
                    have h1 := KD.out.udig (j + k) (by omega)
                    have h2 := hpart k
                    have h3 : g3 * part vp N k ≤ 999999999 * 999999999 := Int.mul_le_mul QB.out.1.2 h2.2 h2.1 (by omega)
                    have h4 : 0 ≤ g3 * part vp N k := Int.mul_nonneg QB.out.1.1 h2.1
                    unfold lessF
                    omega) (by omega) (by omega) (by omega) (by omega))
                rw [show ((N + 1 : Nat) : Int) = (N : Int) + 1 from rfl] at CA
                have xK := IntWalk.i64_in ((N : Int) + 1) (by omega)
                clear hg3 hW hH hG hLe hpart
                go_wp2_with fail
                refine CA.out.mono ?_
                rintro e w4 ⟨rfl, hO4, hb4⟩
                have RW := Lib.hid (show DivW w w4 gu w1.heap.size gv bv N L M (N + 1) up2 qp2 vp from ⟨QW.out.u.below hb4, QW.out.q.below hb4, QW.out.v.below hb4, QW.out.vb.of_block (hb4.block _ QW.out.vb.lt), QW.out.bel.trans (hb4.mono QW.out.bel.size)⟩)
                have RH := Lib.hid (QH.out.of_block (hb4.block _ QH.out.lt))
                have RG := Lib.hid (QG.out.of_block (hb4.block _ QG.out.lt))
                have RO := Lib.hid hO4
                clear hO4 hb4 CA r0 r1 r2 QW QH QG
                have r0 : w4.cell? ⟨bg, 0, none⟩ = some (.int .u64 g3) := RG.out.cell (i := 0) (by omega)
                have r1 : w4.cell? ⟨bv, 0, none⟩ = some (.slice (some ⟨gv, 0, none⟩) N (N + 1)) := RW.out.vb.cell (i := 0) (by omega)
                have r2 : w4.cell? ⟨wo.heap.size, 0, none⟩ = some (.slice (some ⟨gu, j, none⟩) (N + 1) (L - j)) := RH.out.cell (i := 0) (by omega)
                have BL := Lib.hid (below_any (some ⟨gu, j, none⟩) (some ⟨gv, 0, none⟩) (N + 1) (L - j) N (N + 1) (fun k => up2 (j + k)) vp g3 w4 (Rd.at_own RW.out.u (by omega)) (RW.out.v.less (by omega)).rd (fun k hk => KD.out.udig (j + k) (by omega)) HDV.out (by have := HEQ.out.2.1; omega) (by have := HEQ.out.2.1; omega) QB.out.1)
                rw [show sumB (fun k => up2 (j + k)) (N + 1) = headV up2 N j from rfl, HVT.out.1] at BL
                go_wp2_with fail
                refine BL.out.mono ?_
                rintro e w5 ⟨rfl, hb5⟩
                have SW := Lib.hid (show DivW w w5 gu w1.heap.size gv bv N L M (N + 1) up2 qp2 vp from ⟨RW.out.u.below hb5, RW.out.q.below hb5, RW.out.v.below hb5, RW.out.vb.of_block (hb5.block _ RW.out.vb.lt), RW.out.bel.trans (hb5.mono RW.out.bel.size)⟩)
                have SH := Lib.hid (RH.out.of_block (hb5.block _ RH.out.lt))
                have SG := Lib.hid (RG.out.of_block (hb5.block _ RG.out.lt))
                have SO := Lib.hid (RO.out.below hb5)
                clear hb5 BL r0 r1 r2 RW RH RG RO
                have r0 : w5.cell? ⟨bg, 0, none⟩ = some (.int .u64 g3) := SG.out.cell (i := 0) (by omega)
                have r2 : w5.cell? ⟨wo.heap.size, 0, none⟩ = some (.slice (some ⟨gu, j, none⟩) (N + 1) (L - j)) := SH.out.cell (i := 0) (by omega)
                have fz := SG.out.frozen
                have HNE := Lib.hid (show (gu ≠ bg ∧ w1.heap.size ≠ bg ∧ gv ≠ bg ∧ bv ≠ bg) ∧ w.heap.size ≤ bg ∧ wo.heap.size ≠ bg ∧ gu < wr.heap.size by have := HSZ.out; have := HB2.out; have := KW.out.bel.size; have := HDIS.out; have := (QW'.out.u.blk rfl).2.2; dsimp only at this; omega)
                by_cases hlt3 : headV up2 N j < V * g3
                · have hh0 := HH.out.1
                  have hgp : 1 ≤ g3 := by
                    rcases Int.lt_or_le 0 g3 with h | h
                    · omega
                    · have := QB.out.1.1
                      rw [show g3 = 0 by omega, Int.mul_zero] at hlt3
                      omega
                  have w8' := IntWalk.u64_in (g3 - 1) (by have := QB.out.1; omega)
                  have HGL := Lib.hid (And.intro (guess_less HVV.out.2.2.2 QB.out.2 hlt3) hgp)
                  clear hh0 hgp
                  go_wp2_with fail
                  go_roundw
                  case rel => exact ⟨⟨_, rfl⟩, g3 - 1, ⟨⟨by have := HGL.out.2; omega, by have := QB.out.1; omega⟩, HGL.out.1⟩, SW.out.setBox HNE.out.1 HNE.out.2.1 _, World.rowIs.setOther (a := ⟨bg, 0, none⟩) SH.out HNE.out.2.2.1 _, (SG.out.set 0 _).congr (fun i hi => by rw [if_pos (by omega)])⟩
                  case measure =>
                    have e1 := boxN_row ((SG.out.set 0 (.int .u64 (g3 - 1))).congr (g := fun _ => .int .u64 (g3 - 1)) (fun i hi => by rw [if_pos (by omega)]))
                    rw [e1, HQ0.out]
                    have := HGL.out.2
                    omega
                · obtain ⟨gr1, gr2, gr3⟩ := guess_right HVV.out.2.2.2 QB.out.2 hlt3
                  have hLe := HEQ.out.2.1
                  have hsum : sumB (cD (lessF up2 vp j N g3)) (N + 1) = headV up2 N j - V * g3 := by
                    have h1 := lessF_sum up2 vp j N g3
                    rw [HVT.out.1] at h1
                    rw [(cS_fits (by rw [h1]; exact gr2) (by rw [h1, pw_succ, Int.natCast_mul]; have := HVV.out.2.1; omega)).2, h1]
                  have ST := Lib.hid (KD.out.step (g := g3) (r := cD (lessF up2 vp j N g3)) (by omega) (by omega) HVV.out.2.1 HVV.out.2.2.2 (by have := QB.out.1; omega) (cD_Dig _ _) hsum gr3)
                  obtain ⟨vc, w6, hrun, hown6, hgrow⟩ := copy_own (r := cD (lessF up2 vp j N g3)) SW.out.u (i := j) (m := N + 1) (by omega) (by omega) SO.out.rd 3 (L - j) (N + 1)
                  have HO6 := Lib.hid hown6
                  have HG6 := Lib.hid hgrow
                  have w7' := IntWalk.u32_in g3 (by have := QB.out.1; omega)
                  have hsz6 := SW.out.bel.size
                  have TG := Lib.hid (SG.out.of_block (hgrow.block bg SG.out.lt (fun e => by have := HNE.out.1.1; cases e; contradiction)))
                  have TQ := Lib.hid (SW.out.q.keep fun p hp => hgrow.block _ (SW.out.q.blk hp).2.2 (fun e => by have := HDIS.out; have := (KW.out.u.blk rfl).2.2; cases hp; cases e; have h9 := HDIS.out.2.1; dsimp only at *; omega))
                  have r5 : w6.cell? ⟨bg, 0, none⟩ = some (.int .u64 g3) := TG.out.cell (i := 0) (by omega)
                  obtain ⟨vo, r6⟩ : ∃ vo, w6.cell? ⟨w1.heap.size, j, none⟩ = some vo := ⟨_, TQ.out.cell (by omega)⟩
                  have fq := TQ.out.fz
                  clear hown6 hgrow gr1 gr2 gr3 hsum hLe
                  have HF := Lib.hid (show DivW w (w6.setCell ⟨w1.heap.size, j, none⟩ (.int .u32 g3)) gu w1.heap.size gv bv N L M (N + 1) (splice up2 j (N + 1) (cD (lessF up2 vp j N g3))) (upd qp2 j g3) vp from by
                    have hd := HDIS.out
                    have hv6 := SW.out.v.keep (w' := w6) fun p hp => HG6.out.block _ (SW.out.v.blk hp).2.2 (fun e => by cases hp; cases e; exact hd.1.1 rfl)
                    have hb6 := SW.out.vb.of_block (w' := w6) (HG6.out.block _ SW.out.vb.lt (fun e => by cases e; exact hd.1.2.1 rfl))
                    have hl6 : Below w.heap.size w w6 := SW.out.bel.grown HG6.out SW.out.bel.size (fun k hk => by cases hk; exact (SW.out.u.blk rfl).2.1)
                    refine ⟨HO6.out.keep fun p hp => Below.heap_setCell _ _ _ _ (by cases hp; dsimp only; omega), TQ.out.put (by omega) (by have := QB.out.1; omega), hv6.keep fun p hp => Below.heap_setCell _ _ _ _ (by cases hp; dsimp only; omega), hb6.setOther (by dsimp only; omega) _, hl6.setCell (p := ⟨w1.heap.size, j, none⟩) (TQ.out.blk rfl).2.1 _⟩)
                  go_wp2_with fail
                  go_roundw
                  case rel => exact ⟨j, by omega, rfl, _, _, ST.out, HF.out⟩
                  case measure => simp [intOf]; omega
end Go.Proofs.YtkpajfjjhbbieaaGreatDoor.Limb
namespace Go.Proofs.YtkpajfjjhbbieaaGreatDoor.Limb
open Go.RowKit Go.Sort Go.Fresh

theorem Own.made (w : World) (n : Nat) (o : Nat → Int) : Own 56 (w.alloc (.cells (madeCells #[Value.int .u32 0] n) 56)) w.heap.size (some ⟨w.heap.size, 0, none⟩) 0 n o :=
  ⟨Nat.zero_le _, Or.inr ⟨_, _, rfl, Nat.le_refl _, heap_alloc_new w _, by rw [size_madeCells]; exact Nat.le_refl _, fun i hi => by omega⟩, fun i hi => by omega⟩

theorem twin_step {w wr w2 : World} {base g k N : Nat} {o : Nat → Int} {a' : Option Addr} {c' : Nat} {x : Obj} {v : Int} (hG : Below base w wr) (hbw : base ≤ wr.heap.size) (hg : base ≤ g)
    (hown : Own 56 w2 base a' (k + 1) c' (upd o k v)) (hk : k + 1 ≤ N)
    (hcase : (a' = some ⟨g, 0, none⟩ ∧ c' = N ∧ (wr.alloc x).grownBy w2 (some g)) ∨ ((∃ g', a' = some ⟨g', 0, none⟩ ∧ wr.heap.size + 1 ≤ g') ∧ (wr.alloc x).grownBy w2 none ∧ N < k + 1)) :
    a' = some ⟨g, 0, none⟩ ∧ c' = N ∧ Below base w w2 := by
  rcases hcase with ⟨rfl, rfl, h⟩ | ⟨_, _, h⟩
  · exact ⟨rfl, rfl, (hG.alloc hbw x).grown h (by simp; omega) (fun q hq => by cases hq; exact hg)⟩
  · omega

set_option maxHeartbeats 2000000 in
theorem twinLimbs_any (a : Option Addr) (n ca : Nat) (o : Nat → Int) (w : World) (ha : Rd w a n o) (hn : n ≤ 100000000) :
    Calls Tryz.prog 41 #[.slice a n ca] w fun e w' => ∃ g, e = .returned (.slice (some ⟨g, 0, none⟩) n (n + 1)) ∧ Own 56 w' w.heap.size (some ⟨g, 0, none⟩) (n + 1) (n + 1) (tw o n) ∧ Below w.heap.size w w' := by
  obtain ⟨i0, hi, hz0, hz1, hz2⟩ := info_parts info32
  have e1 := IntWalk.i64_in ((n : Int) + 1) (by omega)
  have hmk : ∀ w : World, (Instr.makeSlice 22 (.int .i64 0) (.int .i64 ((n : Int) + 1))).run Tryz.prog w = .ok (.slice (some ⟨w.heap.size, 0, none⟩) 0 (n + 1)) (w.alloc (.cells (madeCells #[Value.int .u32 0] (n + 1)) 56)) := by
    intro w
    have h := run_make (P := Tryz.prog) w 22 56 i0 _ Tryz.underlying22 hi hz0 .i64 .i64 0 ((n : Int) + 1) (by omega) (by omega) (by rw [hz2]; omega) (by omega)
    rw [hz1, show ((n : Int) + 1).toNat = n + 1 by omega, Nat.mul_one] at h
    exact h
  have HA := Lib.hid ha
  clear ha hz0 hz1 hz2 hi
  go_enter Tryz.func41, Tryz.ntmps41
  go_wp2_with fail
  go_loopw [3, 4] (fun t i wr => ∃ k : Nat, k ≤ n ∧ i = .int .i64 k ∧ t = .slice (some ⟨w.heap.size, 0, none⟩) k (n + 1) ∧ (∃ p, (∀ q, q < k → p q = o q) ∧ Own 56 wr w.heap.size (some ⟨w.heap.size, 0, none⟩) k (n + 1) p) ∧ Below w.heap.size w wr) (fun _ i _ => n - (intOf i).toNat)
  case atStart => exact ⟨0, by omega, rfl, rfl, ⟨o, fun _ _ => rfl, Own.made w (n + 1) o⟩, by (repeat' (first | (with_reducible exact Below.refl _ _) | (with_reducible assumption) | (with_reducible refine Below.alloc ?_ ?_ _) | (with_reducible refine Below.drew ?_) | (with_reducible refine bdrewN ?_ _) | (with_reducible refine Below.setCell ?_ ?_ _) | (with_reducible refine Below.frame ?_ _) | go_size))⟩
  case round =>
    obtain ⟨k, hk, rfl, rfl, ⟨p, hp, hO⟩, hG⟩ := hrel
    have HP := Lib.hid hp; have HO := Lib.hid hO; have HG := Lib.hid hG
    clear hp hO hG hmk
    by_cases hkn : k < n
    · obtain ⟨b1, o1, rfl, hc1⟩ := (HA.out.below HG.out).cells (by omega)
      have c1 : wr.cell? ⟨b1, o1 + k, none⟩ = some (.int .u32 (o k)) := hc1 k hkn
      have rng := HA.out.rng k hkn
      clear hc1
      go_wp2_with (first
        | (at_builtin; refine Book.wpList_push rfl _ _ rfl (by rfl) (HO.out.allocd _) (by omega) (by have := HG.out.size; simp; omega) (v := o k) (by rfl) ?c1 rng (by rfl) ?_))
      case c1 => simp
      intro a' c' w2 hown hcase
      obtain ⟨rfl, rfl, hb2⟩ := twin_step (N := n + 1) HG.out HG.out.size (Nat.le_refl _) hown (by omega) (hcase.imp id fun ⟨h1, h2, h3⟩ => ⟨h1, h2, by omega⟩)
      have NO := Lib.hid hown; have NG := Lib.hid hb2
      clear hown hcase hb2
      go_wp2_with fail
      go_roundw
      case rel =>
        refine ⟨k + 1, by omega, by go_num, rfl, ⟨_, fun q hq => ?_, NO.out⟩, NG.out⟩
        by_cases e : q = k
        · subst e; exact upd_same _ _ _
        · rw [upd_ne _ _ e]; exact HP.out q (by omega)
      case measure => simp [intOf]; omega
    · obtain rfl : k = n := by omega
      go_wp2_with (first
        | (at_builtin; refine Book.wpList_push rfl _ _ rfl (by rfl) (HO.out.allocd _) (by omega) (by have := HG.out.size; simp; omega) (v := 77) (by rfl) ?c1 (by omega) (by rfl) ?_))
      case c1 => simp
      intro a' c' w2 hown q1 q2 q3
      subst q1
      subst q2
      have NO := Lib.hid hown
      have NG := Lib.hid ((HG.out.alloc HG.out.size (.cells #[Value.int .u32 77] 56)).grown q3 (by have := HG.out.size; simp; omega) (fun q hq => by cases hq; exact Nat.le_refl _))
      have x1 : (k : Int) ≤ (k : Int) + 1 := by omega
      clear hown q3
      go_wp2_with fail
      go_ret
      refine ⟨_, rfl, NO.out.congr fun i hi => ?_, NG.out⟩
      show _ = if i < k then o i else 77
      by_cases e : i < k
      · rw [if_pos e, upd_ne _ _ (by omega)]; exact HP.out i e
      · rw [if_neg e, show i = k by omega]; exact upd_same _ _ _

set_option maxHeartbeats 2000000 in
theorem twinNum_any (s : Bool) (a : Option Addr) (n ca : Nat) (o : Nat → Int) (w : World) (ha : Rd w a n o) (hn : n ≤ 100000000) :
    Calls Tryz.prog 14 #[numV s a n ca] w fun e w' => ∃ g, e = .returned (numV s (some ⟨g, 0, none⟩) n (n + 1)) ∧ Own 56 w' w.heap.size (some ⟨g, 0, none⟩) (n + 1) (n + 1) (tw o n) ∧ Below w.heap.size w w' := by
  have HR := Lib.hid ha
  have B1 := ((Bx.new w 24 (.bool s) (.slice a n ca)).alloc (.cells #[.bool false, .slice none 0 0] 24))
  have B2 := (Bx.new2 w (.cells #[.bool s, .slice a n ca] 24) 24 (.bool false) (.slice none 0 0))
  clear ha
  go_enter Tryz.func14, Tryz.ntmps14
  go_upto_region 1 with (fail)
  obtain ⟨W, hW⟩ : ∃ W, W = ((w.alloc (.cells #[.bool s, .slice a n ca] 24)).alloc (.cells #[.bool false, .slice none 0 0] 24)) := ⟨_, rfl⟩
  have G1 := Lib.hid (((Below.refl _ _).alloc (by go_size) _ |>.alloc (by go_size) _) : Below w.heap.size w ((w.alloc (.cells #[.bool s, .slice a n ca] 24)).alloc (.cells #[.bool false, .slice none 0 0] 24)))
  rw [← hW] at B1 B2 G1
  rw [show ((w.alloc (.cells #[.bool s, .slice a n ca] 24)).alloc (.cells #[.bool false, .slice none 0 0] 24)) = W from hW.symm]
  have HB1 := Lib.hid B1; have HB2 := Lib.hid B2
  clear hW B1 B2
  have HS1 := Lib.hid (fun (w' : World) (hb : Below W.heap.size W w') => And.intro (HB1.out.below hb HB1.out.lt).c0 (HB1.out.below hb HB1.out.lt).c1)
  have TW := Lib.hid (fun (w' : World) (hb : Below W.heap.size W w') => twinLimbs_any a n ca o w' (HR.out.below (G1.out.trans (hb.mono G1.out.size))) hn)
  refine wp_region_fresh 6 (spOf [(4, Sp.made (fun g : Nat => .slice (some ⟨g, 0, none⟩) n (n + 1)) (fun g w' => Own 56 w' W.heap.size (some ⟨g, 0, none⟩) (n + 1) (n + 1) (tw o n)))])
    (fun w' => Below W.heap.size W w') (by kernel_rfl) (by kernel_rfl)
    (spOf_cons (Sp.made_keeps fun x w w' h hb => h.below hb) spOf_nil) (fun _ _ h hb => h.trans (hb.mono h.size)) ((Below.refl _ _).drew) ?_
  simp only [List.take_succ_cons, List.take_zero, List.drop_succ_cons, List.drop_zero]
  (refine wpF_reads rfl rfl ?_ (fun w' hw' => ?_) ?_; rotate_left; · (have hb' := Has.world hw'; (skip); clear hw'; go_simp; try rfl))
  (refine wpF_reads rfl rfl ?_ (fun w' hw' => ?_) ?_; rotate_left; · (have hb' := Has.world hw'; (have hs := HS1.out _ hb'); clear hw'; go_simp; try rfl))
  (refine wpF_reads rfl rfl ?_ (fun w' hw' => ?_) ?_; rotate_left; · (have hb' := Has.world hw'; (skip); clear hw'; go_simp; try rfl))
  (refine wpF_reads rfl rfl ?_ (fun w' hw' => ?_) ?_; rotate_left; · (have hb' := Has.world hw'; (have hs := HS1.out _ hb'); clear hw'; go_simp; try rfl))
  (refine wpF_spec rfl rfl (fun w' hw' => ?_) ?_; · (have hb' := Has.world hw'; go_simp; ((refine (TW.out w' hb').mono ?_; rintro e w'' ⟨g, rfl, hO, hb⟩; exact ⟨_, rfl, ⟨⟨g, rfl⟩, ⟨g, rfl, hO.mono hb'.size⟩⟩, hb⟩))))
  rintro _ ⟨g, rfl⟩
  (refine wpF_reads rfl rfl ?_ (fun w' hw' => ?_) ?_; rotate_left; · (have hb' := Has.world hw'; (skip); clear hw'; go_simp; try rfl))
  refine wpF_nil (fun w5 hb5 hF5 => ?_)
  have OA : Own 56 w5 W.heap.size (some ⟨g, 0, none⟩) (n + 1) (n + 1) (tw o n) := by
    obtain ⟨x, e, h⟩ := hF5 4
    cases e
    exact h
  have HO := Lib.hid OA
  have B2 := HB2.out.below hb5 HB2.out.lt
  have HB5 := Lib.hid B2
  obtain ⟨b30, b31, b32, b33⟩ := B2.all
  have HG5 := Lib.hid (G1.out.trans (hb5.mono G1.out.size))
  have hz4 := HB2.out.lt
  have hz5 := G1.out.size
  clear hF5 OA B2 hb5 HS1 TW
  go_wp2_with fail
  refine bodyPost_ret (results_cell rfl _ _ _ _ _ _ _ rfl (HB5.out.set _ _) Tryz.underlying24 rfl (by kernel_rfl)) rfl ⟨g, rfl, ?_, ?_⟩
  · exact ((HO.out.other (by dsimp only; omega) _).other (by dsimp only; omega) _).mono hz5
  · exact (HG5.out.setCell (by dsimp only; omega) _).setCell (by dsimp only; omega) _
end Go.Proofs.YtkpajfjjhbbieaaGreatDoor.Limb
namespace Go.Proofs.YtkpajfjjhbbieaaGreatDoor.Limb
open Go.RowKit Go.Sort Go.Fresh
open Classical in
set_option maxHeartbeats 1000000 in
theorem great_any (M g k c : Nat) (A : Nat → Option Addr) (N C : Nat → Nat) (w : World) (hc : ∀ i, i < k → w.cell? ⟨g, i * 2 + 1, none⟩ = some (.slice (A i) (N i) (C i))) (hk : k ≤ 1000) :
    Calls Tryz.prog 12 #[.int .i64 M, .slice (some ⟨g, 0, none⟩) k c] w fun e w' => e = .returned (.bool (decide (∃ i, i < k ∧ M < N i))) ∧ w' = w := by
  have HC := Lib.hid hc
  have Y := Lib.hid (fun i (hi : i < k) (h : M < N i) => (decide_eq_true ⟨i, hi, h⟩ : decide (∃ i, i < k ∧ M < N i) = true))
  have Z := Lib.hid (fun (h : ∀ i, i < k → N i ≤ M) => (decide_eq_false (fun ⟨i, hi, h1⟩ => by have := h i hi; omega) : decide (∃ i, i < k ∧ M < N i) = false))
  clear hc
  go_enter Tryz.func12, Tryz.ntmps12
  go_wp2_with fail
  go_loopw [5] (fun v wr => ∃ i : Nat, i ≤ k ∧ v = .int .i64 i ∧ (∀ j, j < i → N j ≤ M) ∧ wr = w) (fun v _ => k - (intOf v).toNat)
  case atStart => exact ⟨0, by omega, rfl, fun j hj => by omega, rfl⟩
  case round =>
    obtain ⟨i, hi, rfl, hM, rfl⟩ := hrel
    have HM := Lib.hid hM
    clear hM
    by_cases hik : i < k
    · have c1 := HC.out i hik
      obtain ⟨n, hn⟩ : ∃ n, n = N i := ⟨_, rfl⟩
      rw [← hn] at c1
      have EN := Lib.hid hn
      clear hn
      by_cases hg : M < n
      · have x1 : (n : Int) > (M : Int) := by omega
        have E := Lib.hid (Y.out i hik (by rw [← EN.out]; exact hg))
        go_wp2_with fail
        go_ret
        exact ⟨by rw [E.out]; rfl, rfl⟩
      · have x1 : ¬ (n : Int) > (M : Int) := by omega
        go_wp2_with fail
        go_roundw
        case rel =>
          refine ⟨i + 1, by omega, by go_num, fun j hj => ?_, by trivial⟩
          by_cases e : j = i
          · subst e; have := EN.out; omega
          · exact HM.out j (by omega)
        case measure => simp [intOf]; omega
    · obtain rfl : i = k := by omega
      have E := Lib.hid (Z.out HM.out)
      go_wp2_with fail
      go_ret
      exact ⟨by rw [E.out]; rfl, rfl⟩
end Go.Proofs.YtkpajfjjhbbieaaGreatDoor.Limb
namespace Go.Fresh
open Go.RowKit
variable {P : Program} {ops : Array Oper} {md : Region.Mode} {C : World → Prop}
theorem wpF_specG {sp : Nat → Spec} {Q : Act → Facts → Prop} {o : Oper} {rest : List Oper} {k : Nat} {a : Act} {F : Facts} (hg : Region.wanted o (yielded ops a.tmps) = true) {V : Value → Prop} {Ψ : Value → World → Prop} (hs : sp k = some (V, Ψ))
    (hr : ∀ w, Has md ops C k F w → givesUpon P w (fun v w' => V v ∧ Ψ v w') ((execOp a.eval o).run P w)) (hK : ∀ v, V v → wpF P md ops C sp Q rest (k + 1) (a.put o.dst v) (F.set k (Ψ v))) : wpF P md ops C sp Q (o :: rest) k a F :=
  ⟨V, Ψ, .inl ⟨hg, .inr ⟨hs, hr⟩⟩, hK⟩
end Go.Fresh
namespace Go.Proofs.YtkpajfjjhbbieaaGreatDoor.Limb
open Go.RowKit Go.Sort Go.Fresh

/-- A number that was made: its variable's block, its sign, its list. -/
structure Num1 where
  b : Nat
  s : Bool
  a : Option Addr
  n : Nat
  c : Nat
  o : Nat → Int
def Good (lo : Nat) (w : World) (x : Num1) : Prop := Bx w x.b 24 (.bool x.s) (.slice x.a x.n x.c) ∧ Own 56 w lo x.a x.n x.c x.o
def Asunder (x y : Num1) : Prop := ∀ p q, x.a = some p → y.a = some q → p.block ≠ q.block
def All (lo : Nat) (w : World) (L : List Num1) : Prop := (∀ x ∈ L, Good lo w x) ∧ L.Pairwise Asunder
theorem All.nil (lo : Nat) (w : World) : All lo w [] := ⟨fun x h => (by cases h), List.Pairwise.nil⟩
theorem All.below {lo : Nat} {w w' : World} {L : List Num1} (h : All lo w L) (hb : Below w.heap.size w w') : All lo w' L :=
  ⟨fun x hx => ⟨(h.1 x hx).1.below hb (h.1 x hx).1.lt, (h.1 x hx).2.below hb⟩, h.2⟩
theorem All.step {lo : Nat} {w w1 : World} {L : List Num1} (h : All lo w L) (hlo : lo ≤ w.heap.size) (hb : Below w.heap.size w w1) {s : Bool} {a : Option Addr} {n c : Nat} {o : Nat → Int} (ho : Own 56 w1 w.heap.size a n c o) :
    All lo (w1.alloc (.cells #[.bool s, .slice a n c] 24)) (L ++ [⟨w1.heap.size, s, a, n, c, o⟩]) := by
  have hb2 : Below w.heap.size w (w1.alloc (.cells #[.bool s, .slice a n c] 24)) := hb.alloc hb.size _
  have h2 := h.below hb2
  refine ⟨fun x hx => ?_, List.pairwise_append.2 ⟨h.2, List.pairwise_singleton _ _, fun x hx y hy => ?_⟩⟩
  · rcases List.mem_append.1 hx with hx | hx
    · exact h2.1 x hx
    · obtain rfl := List.mem_singleton.1 hx
      exact ⟨Bx.new w1 _ _ _, (ho.mono hlo).allocd _⟩
  · obtain rfl := List.mem_singleton.1 hy
    intro p q hp hq e
    have h3 := ((h.1 x hx).2.blk hp).2.2
    have h4 := (ho.blk hq).2.1
    omega
theorem All.get {lo : Nat} {w : World} {L : List Num1} (h : All lo w L) {i : Nat} {x : Num1} (hx : L[i]? = some x) : Good lo w x := h.1 x (List.mem_of_getElem? hx)

/-- What a Book of them holds. -/
def heldL : List Num1 → Nat → List Value
  | [], _ => []
  | x :: l, k => Book.held x.a x.n x.c k ++ heldL l (k + 1)
theorem heldL_push (L : List Num1) (x : Num1) (k : Nat) : heldL (L ++ [x]) k = heldL L k ++ Book.held x.a x.n x.c (k + L.length) := by
  induction L generalizing k with
  | nil => show Book.held _ _ _ _ ++ [] = [] ++ _; simp
  | cons y l ih =>
    show Book.held _ _ _ _ ++ heldL (l ++ [x]) (k + 1) = (Book.held _ _ _ _ ++ heldL l (k + 1)) ++ _
    rw [ih, List.append_assoc, List.length_cons, show k + (l.length + 1) = k + 1 + l.length by omega]
theorem heldL_get (L : List Num1) (k j d : Nat) (x : Num1) (hx : L[j]? = some x) (hd : d < 3) : (heldL L k)[3 * j + d]? = (Book.held x.a x.n x.c (k + j))[d]? := by
  induction L generalizing k j with
  | nil => simp at hx
  | cons y l ih =>
    show (Book.held _ _ _ _ ++ heldL l (k + 1))[_]? = _
    cases j with
    | zero =>
      simp at hx; subst hx
      rw [List.getElem?_append_left (by show _ < 3; omega), Nat.mul_zero, Nat.zero_add, Nat.add_zero]
    | succ j =>
      rw [List.getElem?_append_right (by show 3 ≤ _; omega), show 3 * (j + 1) + d - (Book.held y.a y.n y.c k).length = 3 * j + d by show _ - 3 = _; omega, ih (k + 1) j (by simpa using hx), show k + 1 + j = k + (j + 1) by omega]

/-- The Book of all of them has them all apart. -/
theorem apart_of {lo B : Nat} {w0 V W : World} {L : List Num1} {v : Value} {xs : List Value} (hV : All lo V L) (hVB : V.heap.size = B) (hb : Below B V W) (hB : Book.Bk W B B L.length v xs) (hxs : xs = heldL L 0) (h0 : 0 < L.length) (hk : L.length ≤ 1000) (hN : ∀ x ∈ L, x.n ≤ 900000000) (hlo : w0.heap.size ≤ lo)
    (hlo2 : lo ≤ B) (hw : Below w0.heap.size w0 W) (hsz : w0.heap.size ≤ W.heap.size) :
    Calls Tryz.prog 28 #[.pointer (some ⟨B, 0, none⟩)] W fun e w' => e = .returned (.bool true) ∧ Below w0.heap.size w0 w' := by
  subst hVB
  subst hxs
  have hW := hV.below hb
  obtain ⟨g, cap, cur, rfl, hbg, hg, hnc, hcm, hcs, htake⟩ : ∃ g cap cur, v = .slice (some ⟨g, 0, none⟩) L.length cap ∧ V.heap.size ≤ g ∧ W.heap[g]? = some (.cells cur 127 (0, 0)) ∧ L.length ≤ cap ∧ cap ≤ maxLen ∧ cur.size = cap * 3 ∧ cur.toList.take (L.length * 3) = heldL L 0 := by
    rcases hB.row.2 with ⟨_, h⟩ | h
    · omega
    · exact h
  have cell : ∀ j d, j < L.length → d < 3 → cur[3 * j + d]? = (Book.held ((L.getD j ⟨0, false, none, 0, 0, fun _ => 0⟩).a) ((L.getD j ⟨0, false, none, 0, 0, fun _ => 0⟩).n) ((L.getD j ⟨0, false, none, 0, 0, fun _ => 0⟩).c) j)[d]? := by
    intro j d hj hd
    have hx : L[j]? = some (L.getD j ⟨0, false, none, 0, 0, fun _ => 0⟩) := by rw [List.getD_eq_getElem?_getD, List.getElem?_eq_getElem hj]; rfl
    have h := heldL_get L 0 j d _ hx hd
    rw [← htake, List.getElem?_take, if_pos (by omega), Array.getElem?_toList, Nat.zero_add] at h
    exact h
  have mem : ∀ j, j < L.length → L.getD j ⟨0, false, none, 0, 0, fun _ => 0⟩ ∈ L := by
    intro j hj
    rw [List.getD_eq_getElem?_getD, List.getElem?_eq_getElem hj]
    exact List.getElem_mem hj
  have hA : Book.Arr W g L.length (fun j => (L.getD j ⟨0, false, none, 0, 0, fun _ => 0⟩).a) (fun j => (L.getD j ⟨0, false, none, 0, 0, fun _ => 0⟩).n) (fun j => (L.getD j ⟨0, false, none, 0, 0, fun _ => 0⟩).c) (fun _ => .slice none 0 0) := by
    refine ⟨cap * 3, fun i => cur[i]?.getD undef, ⟨cur, hg, hcs, fun i hi => ?_⟩, fun j hj => ⟨by omega, ?_, ?_, ?_⟩⟩
    · show cur[i]? = some ((cur[i]?).getD undef)
      rw [Array.getElem?_eq_getElem (by omega)]; rfl
    · have h := cell j 0 hj (by omega)
      rw [Nat.add_zero] at h
      show (cur[3 * j]?).getD undef = _
      rw [h]; rfl
    · show (cur[3 * j + 1]?).getD undef = _
      rw [cell j 1 hj (by omega)]; rfl
    · show (cur[3 * j + 2]?).getD undef = _
      rw [cell j 2 hj (by omega)]; rfl
  have hUlt : ∀ q, Book.UA L.length (fun j => (L.getD j ⟨0, false, none, 0, 0, fun _ => 0⟩).a) q → lo ≤ q ∧ q < V.heap.size := by
    rintro q ⟨j, hj, p, hp, rfl⟩
    exact ((hV.1 _ (mem j hj)).2.blk hp).2
  refine (Book.apart_any V.heap.size g L.length cap _ _ _ (fun j => (L.getD j ⟨0, false, none, 0, 0, fun _ => 0⟩).o) W hk hB.box hA (fun j hj => ((hW.1 _ (mem j hj)).2.mono (Nat.zero_le _))) (fun j hj => hN _ (mem j hj))
    ⟨fun h => by have := (hUlt _ h).2; omega, fun h => by have := (hUlt _ h).2; omega⟩ ?_ (fun e => hB.ne (by rw [e]; rfl))).mono ?_
  · intro i hi j hj hij p q hp hq
    have key : ∀ i j, i < j → i < L.length → j < L.length → ∀ p q, (L.getD i ⟨0, false, none, 0, 0, fun _ => 0⟩).a = some p → (L.getD j ⟨0, false, none, 0, 0, fun _ => 0⟩).a = some q → p.block ≠ q.block := by
      intro i j hij hi hj p q hp hq
      have h := List.pairwise_iff_getElem.1 hV.2 i j hi hj hij
      rw [List.getD_eq_getElem?_getD, List.getElem?_eq_getElem hi] at hp
      rw [List.getD_eq_getElem?_getD, List.getElem?_eq_getElem hj] at hq
      exact h p q hp hq
    rcases Nat.lt_or_ge i j with h | h
    · exact key i j h hi hj p q hp hq
    · exact fun e => key j i (by omega) hj hi q p hq hp e.symm
  · rintro e w' ⟨rfl, hT⟩
    refine ⟨rfl, hw.trans (hT.to_below hsz fun k hk hu => ?_)⟩
    rcases hu with hu | rfl
    · have := (hUlt _ hu).1; omega
    · omega
end Go.Proofs.YtkpajfjjhbbieaaGreatDoor.Limb
