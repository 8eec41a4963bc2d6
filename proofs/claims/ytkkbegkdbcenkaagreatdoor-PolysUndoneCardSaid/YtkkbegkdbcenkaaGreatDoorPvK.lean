/-
  The walks of what polys.At asks of a place.
-/
import Derived.Test.YtkkbegkdbcenkaaGreatDoorPvJ
import Derived.SizedLaws
import Derived.Lib.EndianBits
set_option linter.unusedSimpArgs false
set_option linter.unusedVariables false
namespace Go.Proofs.YtkkbegkdbcenkaaGreatDoor.Pol
open Go.RowKit Go.Sort Go.Proofs.YtkkbegkdbcenkaaGreatDoor.Limb
def letM (i : Nat) : Mo := if i = 0 then ⟨1, 0, 0, 0⟩ else if i = 1 then ⟨0, 1, 0, 0⟩ else if i = 2 then ⟨0, 0, 1, 0⟩ else ⟨0, 0, 0, 1⟩
theorem letM_small (i : Nat) : (letM i).Small := by
 unfold letM
 split
 ·exact ⟨by decide, by decide, by decide, by decide⟩
 ·split
  ·exact ⟨by decide, by decide, by decide, by decide⟩
  ·split <;> exact ⟨by decide, by decide, by decide, by decide⟩
set_option maxRecDepth 100000 in
set_option maxHeartbeats 4000000 in
theorem only_0 (w : World) : Calls Tryz.prog 70 #[.int .i64 0] w fun e w' => e = .returned (Mo.v (letM 0)) ∧ Below w.heap.size w w' := by
 obtain ⟨V, hV⟩ : ∃ V, V = w.alloc (.cells #[.int .u16 0, .int .u16 0, .int .u16 0, .int .u16 0] 38) := ⟨_, rfl⟩
 have B1 := Lib.hid (show Bxs V w.heap.size 38 [.int .u16 0, .int .u16 0, .int .u16 0, .int .u16 0] by rw [hV]; exact Bxs.new w 38 [.int .u16 0, .int .u16 0, .int .u16 0, .int .u16 0])
 have hbV : Below w.heap.size w V := by rw [hV]; exact (Below.refl _ _).alloc (Nat.le_refl _) _
 have KG := Lib.hid hbV
 have HV := Lib.hid hV
 clear hV hbV
 go_enter Tryz.func70, Tryz.ntmps70
 go_upto_region 1 with (fail)
 rw [show w.alloc (.cells #[.int .u16 0, .int .u16 0, .int .u16 0, .int .u16 0] 38) = V from HV.out.symm]
 have c0 := B1.out.cell (i := 0) rfl
 have c1 := B1.out.cell (i := 1) rfl
 have c2 := B1.out.cell (i := 2) rfl
 have c3 := B1.out.cell (i := 3) rfl
 have cf := B1.out.fz
 have cl := B1.out.lt
 go_upto_region 2 with (fail)
 clear c0 c1 c2 c3 cf cl
 obtain ⟨U, hU⟩ : ∃ U, U = V.setCell ⟨w.heap.size, 0, none⟩ (.int .u16 1) := ⟨_, rfl⟩
 have B2 := Lib.hid (show Bxs U w.heap.size 38 [.int .u16 1, .int .u16 0, .int .u16 0, .int .u16 0] by rw [hU]; exact B1.out.put 0 _)
 have KG := Lib.hid (show Below w.heap.size w U by rw [hU]; exact KG.out.setCell (Nat.le_refl _) _)
 rw [← hU]
 clear hU
 have c0 := B2.out.cell (i := 0) rfl
 have c1 := B2.out.cell (i := 1) rfl
 have c2 := B2.out.cell (i := 2) rfl
 have c3 := B2.out.cell (i := 3) rfl
 have cf := B2.out.fz
 have cl := B2.out.lt
 go_wp2_with fail
 refine bodyPost_ret (results_cell rfl _ _ _ _ _ _ _ rfl ((((B2.out.put 0 (.int .u16 1)).put 1 (.int .u16 0)).put 2 (.int .u16 0)).put 3 (.int .u16 0)) Tryz.underlying38 rfl (by kernel_rfl)) rfl ⟨rfl, ?_⟩
 exact (((KG.out.setCell (Nat.le_refl _) _).setCell (Nat.le_refl _) _).setCell (Nat.le_refl _) _).setCell (Nat.le_refl _) _
set_option maxRecDepth 100000 in
set_option maxHeartbeats 4000000 in
theorem only_1 (w : World) : Calls Tryz.prog 70 #[.int .i64 1] w fun e w' => e = .returned (Mo.v (letM 1)) ∧ Below w.heap.size w w' := by
 obtain ⟨V, hV⟩ : ∃ V, V = w.alloc (.cells #[.int .u16 0, .int .u16 0, .int .u16 0, .int .u16 0] 38) := ⟨_, rfl⟩
 have B1 := Lib.hid (show Bxs V w.heap.size 38 [.int .u16 0, .int .u16 0, .int .u16 0, .int .u16 0] by rw [hV]; exact Bxs.new w 38 [.int .u16 0, .int .u16 0, .int .u16 0, .int .u16 0])
 have hbV : Below w.heap.size w V := by rw [hV]; exact (Below.refl _ _).alloc (Nat.le_refl _) _
 have KG := Lib.hid hbV
 have HV := Lib.hid hV
 clear hV hbV
 go_enter Tryz.func70, Tryz.ntmps70
 go_upto_region 1 with (fail)
 rw [show w.alloc (.cells #[.int .u16 0, .int .u16 0, .int .u16 0, .int .u16 0] 38) = V from HV.out.symm]
 have c0 := B1.out.cell (i := 0) rfl
 have c1 := B1.out.cell (i := 1) rfl
 have c2 := B1.out.cell (i := 2) rfl
 have c3 := B1.out.cell (i := 3) rfl
 have cf := B1.out.fz
 have cl := B1.out.lt
 go_upto_region 2 with (fail)
 clear c0 c1 c2 c3 cf cl
 obtain ⟨U, hU⟩ : ∃ U, U = V.setCell ⟨w.heap.size, 1, none⟩ (.int .u16 1) := ⟨_, rfl⟩
 have B2 := Lib.hid (show Bxs U w.heap.size 38 [.int .u16 0, .int .u16 1, .int .u16 0, .int .u16 0] by rw [hU]; exact B1.out.put 1 _)
 have KG := Lib.hid (show Below w.heap.size w U by rw [hU]; exact KG.out.setCell (Nat.le_refl _) _)
 rw [← hU]
 clear hU
 have c0 := B2.out.cell (i := 0) rfl
 have c1 := B2.out.cell (i := 1) rfl
 have c2 := B2.out.cell (i := 2) rfl
 have c3 := B2.out.cell (i := 3) rfl
 have cf := B2.out.fz
 have cl := B2.out.lt
 go_wp2_with fail
 refine bodyPost_ret (results_cell rfl _ _ _ _ _ _ _ rfl ((((B2.out.put 0 (.int .u16 0)).put 1 (.int .u16 1)).put 2 (.int .u16 0)).put 3 (.int .u16 0)) Tryz.underlying38 rfl (by kernel_rfl)) rfl ⟨rfl, ?_⟩
 exact (((KG.out.setCell (Nat.le_refl _) _).setCell (Nat.le_refl _) _).setCell (Nat.le_refl _) _).setCell (Nat.le_refl _) _
set_option maxRecDepth 100000 in
set_option maxHeartbeats 4000000 in
theorem only_2 (w : World) : Calls Tryz.prog 70 #[.int .i64 2] w fun e w' => e = .returned (Mo.v (letM 2)) ∧ Below w.heap.size w w' := by
 obtain ⟨V, hV⟩ : ∃ V, V = w.alloc (.cells #[.int .u16 0, .int .u16 0, .int .u16 0, .int .u16 0] 38) := ⟨_, rfl⟩
 have B1 := Lib.hid (show Bxs V w.heap.size 38 [.int .u16 0, .int .u16 0, .int .u16 0, .int .u16 0] by rw [hV]; exact Bxs.new w 38 [.int .u16 0, .int .u16 0, .int .u16 0, .int .u16 0])
 have hbV : Below w.heap.size w V := by rw [hV]; exact (Below.refl _ _).alloc (Nat.le_refl _) _
 have KG := Lib.hid hbV
 have HV := Lib.hid hV
 clear hV hbV
 go_enter Tryz.func70, Tryz.ntmps70
 go_upto_region 1 with (fail)
 rw [show w.alloc (.cells #[.int .u16 0, .int .u16 0, .int .u16 0, .int .u16 0] 38) = V from HV.out.symm]
 have c0 := B1.out.cell (i := 0) rfl
 have c1 := B1.out.cell (i := 1) rfl
 have c2 := B1.out.cell (i := 2) rfl
 have c3 := B1.out.cell (i := 3) rfl
 have cf := B1.out.fz
 have cl := B1.out.lt
 go_upto_region 2 with (fail)
 clear c0 c1 c2 c3 cf cl
 obtain ⟨U, hU⟩ : ∃ U, U = V.setCell ⟨w.heap.size, 2, none⟩ (.int .u16 1) := ⟨_, rfl⟩
 have B2 := Lib.hid (show Bxs U w.heap.size 38 [.int .u16 0, .int .u16 0, .int .u16 1, .int .u16 0] by rw [hU]; exact B1.out.put 2 _)
 have KG := Lib.hid (show Below w.heap.size w U by rw [hU]; exact KG.out.setCell (Nat.le_refl _) _)
 rw [← hU]
 clear hU
 have c0 := B2.out.cell (i := 0) rfl
 have c1 := B2.out.cell (i := 1) rfl
 have c2 := B2.out.cell (i := 2) rfl
 have c3 := B2.out.cell (i := 3) rfl
 have cf := B2.out.fz
 have cl := B2.out.lt
 go_wp2_with fail
 refine bodyPost_ret (results_cell rfl _ _ _ _ _ _ _ rfl ((((B2.out.put 0 (.int .u16 0)).put 1 (.int .u16 0)).put 2 (.int .u16 1)).put 3 (.int .u16 0)) Tryz.underlying38 rfl (by kernel_rfl)) rfl ⟨rfl, ?_⟩
 exact (((KG.out.setCell (Nat.le_refl _) _).setCell (Nat.le_refl _) _).setCell (Nat.le_refl _) _).setCell (Nat.le_refl _) _
set_option maxRecDepth 100000 in
set_option maxHeartbeats 4000000 in
theorem only_3 (w : World) : Calls Tryz.prog 70 #[.int .i64 3] w fun e w' => e = .returned (Mo.v (letM 3)) ∧ Below w.heap.size w w' := by
 obtain ⟨V, hV⟩ : ∃ V, V = w.alloc (.cells #[.int .u16 0, .int .u16 0, .int .u16 0, .int .u16 0] 38) := ⟨_, rfl⟩
 have B1 := Lib.hid (show Bxs V w.heap.size 38 [.int .u16 0, .int .u16 0, .int .u16 0, .int .u16 0] by rw [hV]; exact Bxs.new w 38 [.int .u16 0, .int .u16 0, .int .u16 0, .int .u16 0])
 have hbV : Below w.heap.size w V := by rw [hV]; exact (Below.refl _ _).alloc (Nat.le_refl _) _
 have KG := Lib.hid hbV
 have HV := Lib.hid hV
 clear hV hbV
 go_enter Tryz.func70, Tryz.ntmps70
 go_upto_region 1 with (fail)
 rw [show w.alloc (.cells #[.int .u16 0, .int .u16 0, .int .u16 0, .int .u16 0] 38) = V from HV.out.symm]
 have c0 := B1.out.cell (i := 0) rfl
 have c1 := B1.out.cell (i := 1) rfl
 have c2 := B1.out.cell (i := 2) rfl
 have c3 := B1.out.cell (i := 3) rfl
 have cf := B1.out.fz
 have cl := B1.out.lt
 go_upto_region 2 with (fail)
 clear c0 c1 c2 c3 cf cl
 obtain ⟨U, hU⟩ : ∃ U, U = V.setCell ⟨w.heap.size, 3, none⟩ (.int .u16 1) := ⟨_, rfl⟩
 have B2 := Lib.hid (show Bxs U w.heap.size 38 [.int .u16 0, .int .u16 0, .int .u16 0, .int .u16 1] by rw [hU]; exact B1.out.put 3 _)
 have KG := Lib.hid (show Below w.heap.size w U by rw [hU]; exact KG.out.setCell (Nat.le_refl _) _)
 rw [← hU]
 clear hU
 have c0 := B2.out.cell (i := 0) rfl
 have c1 := B2.out.cell (i := 1) rfl
 have c2 := B2.out.cell (i := 2) rfl
 have c3 := B2.out.cell (i := 3) rfl
 have cf := B2.out.fz
 have cl := B2.out.lt
 go_wp2_with fail
 refine bodyPost_ret (results_cell rfl _ _ _ _ _ _ _ rfl ((((B2.out.put 0 (.int .u16 0)).put 1 (.int .u16 0)).put 2 (.int .u16 0)).put 3 (.int .u16 1)) Tryz.underlying38 rfl (by kernel_rfl)) rfl ⟨rfl, ?_⟩
 exact (((KG.out.setCell (Nat.le_refl _) _).setCell (Nat.le_refl _) _).setCell (Nat.le_refl _) _).setCell (Nat.le_refl _) _
theorem only_any (i : Nat) (hi : i < 4) (w : World) : Calls Tryz.prog 70 #[.int .i64 (i : Int)] w fun e w' => e = .returned (Mo.v (letM i)) ∧ Below w.heap.size w w' := by
 obtain rfl | rfl | rfl | rfl : i = 0 ∨ i = 1 ∨ i = 2 ∨ i = 3 := by omega
 ·exact only_0 w
 ·exact only_1 w
 ·exact only_2 w
 ·exact only_3 w
def letP (i : Nat) : List Tm := [(letM i, 1)]
theorem letP_canon (i : Nat) : Canon (letP i) := ⟨List.pairwise_singleton _ _, fun t ht => by rw [List.mem_singleton.1 ht]; show (1 : Rat) ≠ 0; decide +kernel⟩
set_option maxRecDepth 100000 in
set_option maxHeartbeats 4000000 in
theorem letter_k (i : Nat) (hi : i < 4) (w : World) : Calls Tryz.prog 33 #[.int .i64 (i : Int)] w fun e w' => ∃ z : PV, e = .returned (.tuple #[z.v, .int .i64 0]) ∧ DP w' w.heap.size z (letP i) ∧ Below w.heap.size w w' := by
 have OF := Lib.hid (qof 1 w (by decide) (by decide))
 have HI := Lib.hid hi
 have h1 : ¬ ((i : Int) < 0) := by omega
 have h2 : ¬ ((4 : Int) ≤ (i : Int)) := by omega
 have h3 : ¬ ((i : Int) ≥ 4) := by omega
 clear hi
 go_enter Tryz.func33, Tryz.ntmps33
 go_wp2_with fail
 with_reducible refine OF.out.mono ?_
 rintro e w1 ⟨c, rfl, hc, hb⟩
 have HC := Lib.hid hc
 have KG := Lib.hid hb
 have ON := Lib.hid (only_any i HI.out w1)
 clear hc hb OF
 go_wp2_with fail
 with_reducible refine ON.out.mono ?_
 rintro e w2 ⟨rfl, hb⟩
 have HC := Lib.hid (HC.out.below hb)
 have KG := Lib.hid (KG.out.trans (hb.mono KG.out.size))
 clear hb ON
 go_wp2_with fail
 go_ret2
 have hal : Below w2.heap.size w2 (w2.alloc (.cells (TV.cells ⟨c, letM i⟩).toArray 40)) := (Below.refl _ _).alloc (Nat.le_refl _) _
 refine ⟨⟨some ⟨w2.heap.size, 0, none⟩, 1, 1⟩, rfl, ?_, KG.out.trans (hal.mono KG.out.size)⟩
 refine ⟨⟨[(⟨c, letM i⟩, 1)], ?_, fun e he => ?_, List.pairwise_singleton _ _, rfl⟩, letP_canon i, fun t ht => ?_⟩
 ·show World.ownsRow _ _ _ _ _ _ _
  exact World.ownsRow_lit (base := w.heap.size) (e := 40) (size := 8) w2 (TV.cells ⟨c, letM i⟩).toArray 1 KG.out.size (by decide) rfl
 ·rw [List.mem_singleton.1 he]
  exact HC.out.below hal
 ·rw [List.mem_singleton.1 ht]
  exact letM_small i
set_option maxRecDepth 100000 in
set_option maxHeartbeats 4000000 in
theorem llet_k (i : Nat) (hi : i < 4) (w : World) : Calls Tryz.prog 25 #[.int .i64 (i : Int)] w fun e w' => ∃ z : PV, e = .returned z.v ∧ DP w' w.heap.size z (letP i) ∧ Below w.heap.size w w' := by
 have LT := Lib.hid (letter_k i hi w)
 clear hi
 go_enter Tryz.func25, Tryz.ntmps25
 go_wp2_with fail
 with_reducible refine LT.out.mono ?_
 rintro e w1 ⟨z, rfl, hz, hb⟩
 have HZ := Lib.hid hz
 have KG := Lib.hid hb
 clear hz hb LT
 go_wp2_with fail
 go_ret
 exact ⟨z, rfl, HZ.out, KG.out⟩
set_option maxRecDepth 100000 in
set_option maxHeartbeats 4000000 in
theorem lmul_k (x y : PV) (P Q : List Tm) (k1 k2 e1 e2 : Nat) (w : World) (hx : KP w x P) (hy : KP w y Q) (hp : ∀ t ∈ P, LQ t.2 k1 ∧ t.1.le e1) (hq : ∀ t ∈ Q, LQ t.2 k2 ∧ t.1.le e2)
  (hk : P.length * (k1 + k2 + 1) ≤ 900000) (h1 : k1 ≤ 900000) (h2 : k2 ≤ 900000) (hn : P.length * Q.length ≤ 1000000) (hpn : P.length ≤ 1000000) (hqn : Q.length ≤ 1000000) (he : e1 + e2 ≤ 65535) :
  Calls Tryz.prog 14 #[x.v, y.v] w fun e w' => ∃ z : PV, e = .returned z.v ∧ DP w' w.heap.size z (mulP P Q) ∧ Below w.heap.size w w' := by
 have MU := Lib.hid (mul_k x y P Q k1 k2 e1 e2 w hx hy hp hq hk h1 h2 hn hpn hqn he)
 clear hx hy hp hq hk h1 h2 hn hpn hqn he
 obtain ⟨xa, xn, xc⟩ := x
 obtain ⟨ya, yn, yc⟩ := y
 change Calls Tryz.prog 14 #[.slice xa xn xc, .slice ya yn yc] w _
 go_enter Tryz.func14, Tryz.ntmps14
 go_wp2_with fail
 with_reducible refine MU.out.mono ?_
 rintro e w1 ⟨z, rfl, hz, hb⟩
 have HZ := Lib.hid hz
 have KG := Lib.hid hb
 clear hz hb MU
 go_wp2_with fail
 go_ret
 exact ⟨z, rfl, HZ.out, KG.out⟩
set_option maxRecDepth 100000 in
set_option maxHeartbeats 4000000 in
theorem lsame_k (x y : PV) (P : List Tm) (w : World) (hx : KP w x P) (hy : KP w y P) (hp : ∀ t ∈ P, LQ t.2 900000) (hn : P.length ≤ 1000000) : Calls Tryz.prog 15 #[x.v, y.v] w fun e w' => e = .returned (.bool true) ∧ Below w.heap.size w w' := by
 have SM := Lib.hid (same_k x y P w hx hy hp hn)
 clear hx hy hp hn
 obtain ⟨xa, xn, xc⟩ := x
 obtain ⟨ya, yn, yc⟩ := y
 change Calls Tryz.prog 15 #[.slice xa xn xc, .slice ya yn yc] w _
 go_enter Tryz.func15, Tryz.ntmps15
 go_wp2_with fail
 with_reducible refine SM.out.mono ?_
 rintro e w1 ⟨rfl, hb⟩
 have KG := Lib.hid hb
 clear hb SM
 go_wp2_with fail
 go_ret
 exact ⟨rfl, KG.out⟩
end Go.Proofs.YtkkbegkdbcenkaaGreatDoor.Pol
namespace Go.Proofs.YtkkbegkdbcenkaaGreatDoor.Pol
open Go.RowKit Go.Sort Go.Proofs.YtkkbegkdbcenkaaGreatDoor.Limb Go.ChangeShapes Go.WideShapes Go.ChangeAt
set_option maxRecDepth 100000 in
set_option maxHeartbeats 4000000 in
theorem limbs_sizeX (a : Option Addr) (n c : Nat) (w : World) : Calls Tryz.prog 90 #[.slice a n c] w fun e w' => e = .returned (.int .i64 n) ∧ Below w.heap.size w w' := by
 go_enter Tryz.func90, Tryz.ntmps90
 go_wp2_with fail
 go_ret
 exact ⟨rfl, Below.refl _ _⟩
set_option maxRecDepth 100000 in
set_option maxHeartbeats 4000000 in
theorem num_sizeX (s : Bool) (a : Option Addr) (n c : Nat) (w : World) (hn : n ≤ 281474976710656) : Calls Tryz.prog 59 #[.agg #[.bool s, .slice a n c]] w fun e w' => e = .returned (.int .i64 (1 + (n : Int))) ∧ Below w.heap.size w w' := by
 have en : IntKind.i64.wrap (1 + (n : Int)) = 1 + (n : Int) := IntWalk.i64_in _ (by omega)
 have en2 : wrap64 (1 + (n : Int)) = 1 + (n : Int) := by unfold wrap64; omega
 obtain ⟨V, hV⟩ : ∃ V, V = w.alloc (.cells #[.bool s, .slice a n c] 33) := ⟨_, rfl⟩
 have hbV : Below w.heap.size w V := by rw [hV]; exact (Below.refl _ _).alloc (Nat.le_refl _) _
 have B1 := Lib.hid (show Bxs V w.heap.size 33 [.bool s, .slice a n c] by rw [hV]; exact Bxs.new w 33 [.bool s, .slice a n c])
 have KG := Lib.hid hbV
 have HV := Lib.hid hV
 clear hV hbV
 go_enter Tryz.func59, Tryz.ntmps59
 go_upto_region 1 with (fail)
 rw [show w.alloc (.cells #[.bool s, .slice a n c] 33) = V from HV.out.symm]
 have c0 := B1.out.cell (i := 0) rfl
 have c1 := B1.out.cell (i := 1) rfl
 go_wp2_with fail
 with_reducible refine (limbs_sizeX _ _ _ _).mono ?_
 rintro e w1 ⟨rfl, hb⟩
 have KG := Lib.hid (KG.out.trans (hb.mono KG.out.size))
 have B1 := Lib.hid (B1.out.below hb B1.out.lt)
 clear hb c0 c1
 go_wp2_with fail
 go_ret
 exact ⟨rfl, KG.out⟩
structure FZ (x : FV) (z : Int) : Prop where
 lo : 0 ≤ z
 hi : z ≤ 1000000000000000
 is : z ≤ 1000 → x.t.n ≤ z.toNat ∧ x.l.n ≤ z.toNat
def FSz (w : World) (x : FV) (e : Ending) (w' : World) : Prop := ∃ z : Int, e = .returned (.int .i64 z) ∧ FZ x z ∧ Below w.heap.size w w'
set_option maxRecDepth 100000 in
set_option maxHeartbeats 4000000 in
theorem frac_sizeX (x : FV) (w : World) (ht : x.t.n ≤ 281474976710656) (hl : x.l.n ≤ 281474976710656) : Calls Tryz.prog 26 #[x.v] w (FSz w x) := by
 have e1 : IntKind.i64.wrap (1 + (1 + (x.t.n : Int))) = 1 + (1 + (x.t.n : Int)) := IntWalk.i64_in _ (by omega)
 have e1b : wrap64 (1 + (1 + (x.t.n : Int))) = 1 + (1 + (x.t.n : Int)) := by unfold wrap64; omega
 have e2 : IntKind.i64.wrap (1 + (1 + (x.t.n : Int)) + (1 + (x.l.n : Int))) = 1 + (1 + (x.t.n : Int)) + (1 + (x.l.n : Int)) := IntWalk.i64_in _ (by omega)
 have e2b : wrap64 (1 + (1 + (x.t.n : Int)) + (1 + (x.l.n : Int))) = 1 + (1 + (x.t.n : Int)) + (1 + (x.l.n : Int)) := by unfold wrap64; omega
 obtain ⟨V, hV⟩ : ∃ V, V = w.alloc (.cells #[.bool x.t.s, .slice x.t.a x.t.n x.t.c, .bool x.l.s, .slice x.l.a x.l.n x.l.c] 35) := ⟨_, rfl⟩
 have hbV : Below w.heap.size w V := by rw [hV]; exact (Below.refl _ _).alloc (Nat.le_refl _) _
 have B1 := Lib.hid (show Bxs V w.heap.size 35 [.bool x.t.s, .slice x.t.a x.t.n x.t.c, .bool x.l.s, .slice x.l.a x.l.n x.l.c] by rw [hV]; exact Bxs.new w 35 [.bool x.t.s, .slice x.t.a x.t.n x.t.c, .bool x.l.s, .slice x.l.a x.l.n x.l.c])
 have KG := Lib.hid hbV
 have HV := Lib.hid hV
 clear hV hbV
 change Calls Tryz.prog 26 #[.agg #[.bool x.t.s, .slice x.t.a x.t.n x.t.c, .bool x.l.s, .slice x.l.a x.l.n x.l.c]] w _
 go_enter Tryz.func26, Tryz.ntmps26
 go_upto_region 1 with (fail)
 rw [show w.alloc (.cells #[.bool x.t.s, .slice x.t.a x.t.n x.t.c, .bool x.l.s, .slice x.l.a x.l.n x.l.c] 35) = V from HV.out.symm]
 have c0 := B1.out.cell (i := 0) rfl
 have c1 := B1.out.cell (i := 1) rfl
 have c2 := B1.out.cell (i := 2) rfl
 have c3 := B1.out.cell (i := 3) rfl
 go_wp2_with fail
 with_reducible refine (num_sizeX _ _ _ _ _ ht).mono ?_
 rintro e w1 ⟨rfl, hb⟩
 have KG := Lib.hid (KG.out.trans (hb.mono KG.out.size))
 have B1 := Lib.hid (B1.out.below hb B1.out.lt)
 clear hb c0 c1 c2 c3
 by_cases h : 1 + (1 + (x.t.n : Int)) ≤ 1048576
 ·have c0 := B1.out.cell (i := 0) rfl
  have c1 := B1.out.cell (i := 1) rfl
  have c2 := B1.out.cell (i := 2) rfl
  have c3 := B1.out.cell (i := 3) rfl
  go_wp2_with fail
  with_reducible refine (num_sizeX _ _ _ _ _ hl).mono ?_
  rintro e w2 ⟨rfl, hb⟩
  have KG := Lib.hid (KG.out.trans (hb.mono KG.out.size))
  clear hb c0 c1 c2 c3
  go_wp2_with fail
  go_ret
  exact ⟨_, rfl, ⟨by omega, by omega, fun _ => ⟨by omega, by omega⟩⟩, KG.out⟩
 ·have h2 : 1048576 < 1 + (1 + (x.t.n : Int)) := by omega
  go_wp2_with fail
  go_ret
  exact ⟨_, rfl, ⟨by omega, by omega, fun h => by omega⟩, KG.out⟩
theorem open_listW {H : Type} {enc : TypeId × Value → H} {W : World} {sp : Nat → Bool} {hd : Bool} {fuel : Nat} {v : Value} {x : DataW H × List MemPlace}
  (h : DataW.trod enc Tryz.prog W 0 sp hd fuel 31 [v] = some x) (hw : ∀ k ∈ x.1.weights Tryz.prog 31, k ≤ reachBytes) {a : Option Addr} {n c : Nat} (hv : v = .slice a n c) : n ≤ 281474976710656 := by
 rcases DataW.trod_slice Tryz.underlying31 h with ⟨e, _⟩ | ⟨a', len, cap, elems, rest, m, _, e, hx, _, hl, _, hel, _, _⟩
 ·rw [hv] at e
  simp only [List.cons.injEq, Value.slice.injEq, and_true] at e
  omega
 ·rw [hv] at e
  simp only [List.cons.injEq, Value.slice.injEq, and_true] at e
  have h1 := hw ((elems.map (·.1)).length * 1 + 0) 
  rw [hx] at hw
  have h2 := hw (((elems.map (·.1)).length + (rest.map (·.1)).length) * Tryz.prog.bytesOf 122) (by unfold DataW.weights; rw [Tryz.underlying31]; exact List.mem_cons_self)
  rw [show Tryz.prog.bytesOf 122 = 4 by kernel_rfl, List.length_map, List.length_map] at h2
  have h3 : reachBytes = 140737488351232 := by decide
  omega
theorem weights_part {H : Type} {t : TypeId} {fs : Array Field} (ht : Tryz.prog.underlying t = some (.struct fs)) {parts : List (DataW H)} {B : Nat} (hw : ∀ k ∈ (DataW.agg parts).weights Tryz.prog t, k ≤ B) {i : Nat} {f : Field} (hf : fs[i]? = some f) {d : DataW H} (hd : parts[i]? = some d) : ∀ k ∈ d.weights Tryz.prog f.type, k ≤ B := fun k hk => by
 refine hw k ?_
 unfold DataW.weights
 rw [ht]
 exact DataW.weights_mem_each (t := f.type) (by rw [List.getElem?_map, Array.getElem?_toList, hf]; rfl) hd k hk
set_option maxRecDepth 100000 in
theorem open_numW {H : Type} {enc : TypeId × Value → H} {W : World} {sp : Nat → Bool} {hd : Bool} {fuel : Nat} {l : List Value} {x : DataW H × List MemPlace}
  (hf : DataW.trod enc Tryz.prog W 0 sp hd fuel 33 l = some x) (hw : ∀ k ∈ x.1.weights Tryz.prog 33, k ≤ reachBytes) : ∃ s a n c o, l = [.bool s, .slice a n c] ∧ Rd W a n o ∧ n ≤ c ∧ n ≤ 281474976710656 := by
 obtain ⟨xs, m, _, hx, hlen, hxl, hfld⟩ := DataW.trod_struct Tryz.underlying33 hf
 have hlen : l.length = 2 := hlen.trans cellsNum
 obtain ⟨x0, x1, rfl⟩ : ∃ x0 x1, l = [x0, x1] := by
  match l, hlen with
  | [x0, x1], _ => exact ⟨x0, x1, rfl⟩
 have h0 : DataW.trod enc Tryz.prog W 0 sp hd m 4 (([x0, x1].drop 0).take (Tryz.prog.cellsOf 4)) = xs[0]? := hfld 0 _ rfl
 have h1 : DataW.trod enc Tryz.prog W 0 sp hd m 31 (([x0, x1].drop 1).take (Tryz.prog.cellsOf 31)) = xs[1]? := hfld 1 _ rfl
 have hx2 : xs.length = 2 := hxl
 rw [List.getElem?_eq_getElem (by omega)] at h0
 rw [List.getElem?_eq_getElem (by omega)] at h1
 rw [cellsBool] at h0
 rw [cellsList] at h1
 obtain ⟨s, e0, _⟩ := DataW.trod_bool Tryz.underlying4 h0
 obtain ⟨a, n, c, o, e1, hr, hl⟩ := open_list (v := x1) h1
 have e0 : x0 = .bool s := by
  have : [x0] = [Value.bool s] := e0
  simpa using this
 rw [hx] at hw
 have hn := open_listW (v := x1) h1 (weights_part Tryz.underlying33 hw (i := 1) rfl (by rw [List.getElem?_map, List.getElem?_eq_getElem (by omega)]; rfl)) e1
 exact ⟨s, a, n, c, o, by rw [e0, e1], hr, hl, hn⟩
structure AQ (w : World) (x : FV) : Prop where
 af : ∃ q, AF w x q
 cs : (∃ q, KF w x q) ∨ BF w x
 t : x.t.n ≤ 281474976710656
 l : x.l.n ≤ 281474976710656
set_option maxRecDepth 100000 in
theorem open_fracTW {H : Type} {enc : TypeId × Value → H} {W : World} {sp : Nat → Bool} {hd : Bool} {fuel : Nat} {l : List Value} {x : DataW H × List MemPlace}
  (hf : DataW.trod enc Tryz.prog W 0 sp hd fuel 35 l = some x) (hw : ∀ k ∈ x.1.weights Tryz.prog 35, k ≤ reachBytes) : ∃ y : FV, l = [.bool y.t.s, .slice y.t.a y.t.n y.t.c, .bool y.l.s, .slice y.l.a y.l.n y.l.c] ∧ AQ W y := by
 obtain ⟨xs, m, _, hx, hlen, hxl, hfld⟩ := DataW.trod_struct Tryz.underlying35 hf
 have hlen : l.length = 4 := hlen.trans cellsFrac
 obtain ⟨x0, x1, x2, x3, rfl⟩ : ∃ x0 x1 x2 x3, l = [x0, x1, x2, x3] := by
  match l, hlen with
  | [x0, x1, x2, x3], _ => exact ⟨x0, x1, x2, x3, rfl⟩
 have h0 : DataW.trod enc Tryz.prog W 0 sp hd m 33 (([x0, x1, x2, x3].drop 0).take (Tryz.prog.cellsOf 33)) = xs[0]? := hfld 0 _ rfl
 have h1 : DataW.trod enc Tryz.prog W 0 sp hd m 33 (([x0, x1, x2, x3].drop 2).take (Tryz.prog.cellsOf 33)) = xs[1]? := hfld 1 _ rfl
 have hx2 : xs.length = 2 := hxl
 rw [List.getElem?_eq_getElem (by omega)] at h0
 rw [List.getElem?_eq_getElem (by omega)] at h1
 rw [cellsNum] at h0 h1
 rw [hx] at hw
 obtain ⟨s1, a1, n1, c1, o1, e1, r1, l1, w1⟩ := open_numW h0 (weights_part Tryz.underlying35 hw (i := 0) rfl (by rw [List.getElem?_map, List.getElem?_eq_getElem (by omega)]; rfl))
 obtain ⟨s2, a2, n2, c2, o2, e2, r2, l2, w2⟩ := open_numW h1 (weights_part Tryz.underlying35 hw (i := 1) rfl (by rw [List.getElem?_map, List.getElem?_eq_getElem (by omega)]; rfl))
 have e1 : [x0, x1] = [.bool s1, .slice a1 n1 c1] := e1
 have e2 : [x2, x3] = [.bool s2, .slice a2 n2 c2] := e2
 simp only [List.cons.injEq, and_true] at e1 e2
 refine ⟨⟨⟨s1, a1, n1, c1⟩, ⟨s2, a2, n2, c2⟩⟩, by rw [e1.1, e1.2, e2.1, e2.2], ⟨_, AF.raw r1 l1 r2 l2⟩, ?_, w1, w2⟩
 by_cases hk : okF s1 n1 o1 s2 n2 o2
 ·exact Or.inl ⟨_, KF.raw r1 l1 r2 l2 hk⟩
 ·exact Or.inr (BF.raw r1 l1 r2 l2 hk)
theorem each_weight {H : Type} {ts : List TypeId} {ds : List (DataW H)} (h : (DataW.weightsEach Tryz.prog ts ds).all (· ≤ reachBytes) = true) {j : Nat} {t : TypeId} {d : DataW H} (ht : ts[j]? = some t) (hd : ds[j]? = some d) : ∀ k ∈ d.weights Tryz.prog t, k ≤ reachBytes := fun k hk => by
 have h1 := List.all_eq_true.1 h k (DataW.weights_mem_each ht hd k hk)
 simpa using h1
set_option maxRecDepth 100000 in
theorem open_fracW {H : Type} {enc : TypeId × Value → H} {W : World} {base : Nat} {r : Reach} {sp : Nat → Bool} {hd : Bool} {v : Value} {d : DataW H} {p : List MemPlace}
  (hok : Value.okWide Tryz.prog W r base 35 v) (h : DataW.Trod enc Tryz.prog W 0 sp hd 35 v d p) (hw : ∀ k ∈ d.weights Tryz.prog 35, k ≤ reachBytes) : ∃ y : FV, v = y.v ∧ AQ W y := by
 obtain ⟨cs, rfl, _⟩ : ∃ cs, v = .agg cs ∧ True := by
  unfold Value.okWide at hok
  rw [Tryz.underlying35] at hok
  obtain ⟨cs, h1, _⟩ := hok
  exact ⟨cs, h1, trivial⟩
 obtain ⟨fuel, hf⟩ := h
 obtain ⟨y, e, hy⟩ := open_fracTW (l := cs.toList) hf hw
 refine ⟨y, ?_, hy⟩
 obtain ⟨l⟩ := cs
 have e : l = _ := e
 rw [e]
end Go.Proofs.YtkkbegkdbcenkaaGreatDoor.Pol
namespace Go.Proofs.YtkkbegkdbcenkaaGreatDoor.Pol
open Go.RowKit Go.Sort Go.Proofs.YtkkbegkdbcenkaaGreatDoor.Limb
theorem degP_snoc (A : List Tm) (t : Tm) (i : Nat) : degP (A ++ [t]) i = max (degP A i) (t.1.at i : Int) := by
 unfold degP
 rw [List.foldl_append]
 rfl
set_option maxRecDepth 100000 in
set_option maxHeartbeats 4000000 in
theorem degree_out (x : PV) (l : Int) (hl : l < 0 ∨ 4 ≤ l) (w : World) : Calls Tryz.prog 18 #[x.v, .int .i64 l] w fun e w' => e = .returned (.int .i64 (-1)) ∧ Below w.heap.size w w' := by
 obtain ⟨xa, xn, xc⟩ := x
 change Calls Tryz.prog 18 #[.slice xa xn xc, .int .i64 l] w _
 by_cases h : l < 0
 ·go_enter Tryz.func18, Tryz.ntmps18
  go_wp2_with fail
  go_ret
  exact ⟨rfl, Below.refl _ _⟩
 ·have h2 : 4 ≤ l := by omega
  have h3 : l ≥ 4 := by omega
  clear hl
  go_enter Tryz.func18, Tryz.ntmps18
  go_wp2_with fail
  go_ret
  exact ⟨rfl, Below.refl _ _⟩
set_option maxRecDepth 100000 in
set_option maxHeartbeats 16000000 in
theorem degree_k (li : Nat) (hi : li < 4) (x : PV) (P : List Tm) (w : World) (hx : AP w x P) (hp : ∀ t ∈ P, LQ t.2 900000) (hn : x.n ≤ 1000000) : Calls Tryz.prog 18 #[x.v, .int .i64 (li : Int)] w fun e w' => e = .returned (.int .i64 (degP P li)) ∧ Below w.heap.size w w' := by
 have HI := Lib.hid hi
 have hi1 : (li : Int) < 4 := by omega
 have hi2 : ¬ ((li : Int) < 0) := by omega
 have hi3 : (0 : Int) ≤ (li : Int) := by omega
 have hi4 : ¬ ((li : Int) ≥ 4) := by omega
 have hi5 : ¬ ((4 : Int) ≤ (li : Int)) := by omega
 have OF := Lib.hid (of_at hx (Below.refl _ _) hp (by omega))
 have HNN := Lib.hid hn; have HSM := Lib.hid hx.small
 obtain ⟨xa, xn, xc⟩ := x
 change Calls Tryz.prog 18 #[.slice xa xn xc, .int .i64 (li : Int)] w _
 clear hi hx hp hn
 go_enter Tryz.func18, Tryz.ntmps18
 go_wp2_with fail
 with_reducible refine OF.out.mono ?_
 rintro e w1 ⟨⟨pa, pn, pc⟩, he, hp, hpn, hb⟩
 obtain rfl : e = .returned (.slice pa pn pc) := he
 obtain ⟨L, g1, g2, g3, g4⟩ := hp.ex
 have R1 := Lib.hid g1; have T1 := Lib.hid g4; have N1 := Lib.hid (show L.length = pn from g2)
 have HPN := Lib.hid (show pn ≤ 1000000 from Nat.le_trans hpn HNN.out)
 have KG := Lib.hid hb
 clear hp hpn hb g1 g2 g3 g4 OF
 go_wp2_with fail
 go_loopw [5, 18] (fun s i wr => ∃ j : Nat, j ≤ pn ∧ i = .int .i64 j ∧ s = .int .i64 (degP (P.take j) li) ∧ Below w.heap.size w wr) (fun _ i _ => pn - (intOf i).toNat)
 case atStart =>
  exact ⟨0, Nat.zero_le _, rfl, rfl, KG.out⟩
 case round =>
  obtain ⟨j, hj, rfl, rfl, hb0⟩ := hrel
  have HJ := Lib.hid hj; have KG := Lib.hid hb0
  clear hj hb0
  by_cases hjn : j < pn
  ·have HJN := Lib.hid hjn
   have hjl : j < L.length := by rw [N1.out]; exact hjn
   obtain ⟨pb, po, rfl, hcs⟩ := (R1.out.below KG.out).one (fun h => by rw [List.map_eq_nil_iff] at h; rw [h] at hjl; simp at hjl)
   obtain ⟨e, he⟩ : ∃ e, L[j]? = some e := ⟨_, List.getElem?_eq_getElem hjl⟩
   obtain ⟨t, q⟩ := e
   obtain ⟨c0, c1, c2, c3, c4, c5, c6, c7⟩ := (hcs j t (by rw [List.getElem?_map, he]; rfl)).eight
   have HPJ := Lib.hid (show P[j]? = some (t.m, q) by rw [← T1.out, List.getElem?_map, he]; rfl)
   clear hcs he hjl
   go_upto_region 7 with (fail)
   obtain ⟨V, hV⟩ : ∃ V, V = wr.alloc (.cells #[.bool t.c.t.s, .slice t.c.t.a t.c.t.n t.c.t.c, .bool t.c.l.s, .slice t.c.l.a t.c.l.n t.c.l.c, .int .u16 t.m.x, .int .u16 t.m.y, .int .u16 t.m.z, .int .u16 t.m.t] 40) := ⟨_, rfl⟩
   have hbV : Below wr.heap.size wr V := by rw [hV]; exact (Below.refl _ _).alloc (Nat.le_refl _) _
   have B7 := Lib.hid (show Bxs V wr.heap.size 40 [.bool t.c.t.s, .slice t.c.t.a t.c.t.n t.c.t.c, .bool t.c.l.s, .slice t.c.l.a t.c.l.n t.c.l.c, .int .u16 t.m.x, .int .u16 t.m.y, .int .u16 t.m.z, .int .u16 t.m.t] by rw [hV]; exact Bxs.new wr 40 [.bool t.c.t.s, .slice t.c.t.a t.c.t.n t.c.t.c, .bool t.c.l.s, .slice t.c.l.a t.c.l.n t.c.l.c, .int .u16 t.m.x, .int .u16 t.m.y, .int .u16 t.m.z, .int .u16 t.m.t])
   obtain ⟨A7, hA7⟩ : ∃ A, A = wr.heap.size := ⟨_, rfl⟩
   rw [← hV, ← hA7]
   rw [← hA7] at B7
   have KG := Lib.hid (KG.out.trans (hbV.mono KG.out.size))
   have ek : IntKind.i64.wrap ((j : Int) + 1) = (j : Int) + 1 := IntWalk.i64_in _ (by have := HJN.out; have := HPN.out; omega)
   clear hV hbV hA7 c0 c1 c2 c3 c4 c5 c6 c7 hjn
   have c0 := B7.out.cell (i := 0) rfl
   have c1 := B7.out.cell (i := 1) rfl
   have c2 := B7.out.cell (i := 2) rfl
   have c3 := B7.out.cell (i := 3) rfl
   have c4 := B7.out.cell (i := 4) rfl
   have c5 := B7.out.cell (i := 5) rfl
   have c6 := B7.out.cell (i := 6) rfl
   have c7 := B7.out.cell (i := 7) rfl
   have cL := B7.out.cell (i := 4 + li) (at_cell _ _ _ _ _ HI.out)
   go_wp2_with fail
   go_roundw
   case rel =>
    refine ⟨j + 1, by have := HJN.out; omega, rfl, ?_, KG.out⟩
    rw [List.take_add_one, HPJ.out]
    show _ = Value.int .i64 (degP (P.take j ++ [(t.m, q)]) li)
    have hs : t.m.at li ≤ 65535 := at_small (HSM.out _ (List.mem_of_getElem? HPJ.out)) li
    rw [degP_snoc, show wrap64 ((t.m.at li : Nat) : Int) = ((t.m.at li : Nat) : Int) from by unfold wrap64; omega]
   case measure => simp [intOf]; have := HJN.out; omega
  ·have hge : ¬ ((j : Int) < (pn : Int)) := by omega
   have HJE := Lib.hid (show j = pn by have := HJ.out; omega)
   clear hjn
   go_wp2_with fail
   go_ret
   refine ⟨?_, KG.out⟩
   have hl : P.length = L.length := by rw [← T1.out, List.length_map]
   rw [List.take_of_length_le (by rw [hl, N1.out, HJE.out]; exact Nat.le_refl _)]
   rfl
set_option maxRecDepth 100000 in
set_option maxHeartbeats 4000000 in
theorem slope1_i (t : TV) (q : Rat) (w : World) (af : AF w t.c q) (lf : LF t.c 900000) (li : Nat) (hi : li < 4) (bc : Nat) (hc : Bxs w bc 3 [.int .i64 (li : Int)]) (hs : (t.m.at li) ≤ 65535) : Calls Tryz.prog 65 #[TV.v t, .pointer (some ⟨bc, 0, none⟩)] w fun en w' => ∃ y : FV, en = .returned (TV.v ⟨y, t.m.dec li⟩) ∧ DF w' w.heap.size y (q * ((t.m.at li) : Rat)) ∧ Below w.heap.size w w' := by
 have LQq := Lib.hid (af.len lf)
 have HLNF := Lib.hid lf
 obtain ⟨V, hV⟩ : ∃ V, V = (w.alloc (.cells #[.bool t.c.t.s, .slice t.c.t.a t.c.t.n t.c.t.c, .bool t.c.l.s, .slice t.c.l.a t.c.l.n t.c.l.c, .int .u16 t.m.x, .int .u16 t.m.y, .int .u16 t.m.z, .int .u16 t.m.t] 40)).alloc (.cells #[.bool false, .slice none 0 0, .bool false, .slice none 0 0, .int .u16 0, .int .u16 0, .int .u16 0, .int .u16 0] 40) := ⟨_, rfl⟩
 have hbV : Below w.heap.size w V := by rw [hV]; exact ((Below.refl _ _).alloc (Nat.le_refl _) _).alloc (by go_size) _
 have B1 := Lib.hid (show Bxs V w.heap.size 40 [.bool t.c.t.s, .slice t.c.t.a t.c.t.n t.c.t.c, .bool t.c.l.s, .slice t.c.l.a t.c.l.n t.c.l.c, .int .u16 t.m.x, .int .u16 t.m.y, .int .u16 t.m.z, .int .u16 t.m.t] by rw [hV]; exact (Bxs.new w 40 [.bool t.c.t.s, .slice t.c.t.a t.c.t.n t.c.t.c, .bool t.c.l.s, .slice t.c.l.a t.c.l.n t.c.l.c, .int .u16 t.m.x, .int .u16 t.m.y, .int .u16 t.m.z, .int .u16 t.m.t]).alloc _)
 have B2 := Lib.hid (show Bxs V (w.heap.size + 1) 40 [.bool false, .slice none 0 0, .bool false, .slice none 0 0, .int .u16 0, .int .u16 0, .int .u16 0, .int .u16 0] by
  have h := Bxs.new (w.alloc (.cells #[.bool t.c.t.s, .slice t.c.t.a t.c.t.n t.c.t.c, .bool t.c.l.s, .slice t.c.l.a t.c.l.n t.c.l.c, .int .u16 t.m.x, .int .u16 t.m.y, .int .u16 t.m.z, .int .u16 t.m.t] 40)) 40 [.bool false, .slice none 0 0, .bool false, .slice none 0 0, .int .u16 0, .int .u16 0, .int .u16 0, .int .u16 0]
  rw [World.size_alloc] at h
  rw [hV]; exact h)
 have KG := Lib.hid hbV
 obtain ⟨A1, hA1⟩ : ∃ A, A = w.heap.size := ⟨_, rfl⟩
 obtain ⟨A2, hA2⟩ : ∃ A, A = w.heap.size + 1 := ⟨_, rfl⟩
 have HA2 := Lib.hid (show w.heap.size ≤ A2 by omega)
 have HSZ := Lib.hid (show w.heap.size ≤ V.heap.size from hbV.size)
 have NF := Lib.hid (af.below hbV)
 have HI := Lib.hid hi
 have hi1 : (li : Int) < 4 := by omega
 have hi2 : ¬ ((li : Int) < 0) := by omega
 have hi3 : (0 : Int) ≤ (li : Int) := by omega
 have HN12 := Lib.hid (show A2 ≠ A1 by omega)
 have HA1 := Lib.hid (show w.heap.size ≤ A1 by omega)
 have HNC := Lib.hid (show bc ≠ A1 by have := hc.lt; omega)
 have BC := Lib.hid (hc.below hbV hc.lt)
 have HEW := Lib.hid (show IntKind.i64.wrap ((t.m.at li) : Int) = ((t.m.at li) : Int) from IntWalk.i64_in _ (by omega))
 have e1 : IntKind.u16.wrap (max ((t.m.at li) : Int) 1 - 1) = (((t.m.at li) - 1 : Nat) : Int) := by rw [IntWalk.u16_in _ (by omega)]; omega
 clear hc hi
 clear af lf
 change Calls Tryz.prog 65 #[.agg #[.bool t.c.t.s, .slice t.c.t.a t.c.t.n t.c.t.c, .bool t.c.l.s, .slice t.c.l.a t.c.l.n t.c.l.c, .int .u16 t.m.x, .int .u16 t.m.y, .int .u16 t.m.z, .int .u16 t.m.t], .pointer (some ⟨bc, 0, none⟩)] w _
 go_enter Tryz.func65, Tryz.ntmps65
 go_upto_region 1 with (fail)
 rw [← hV, ← hA2, ← hA1]
 rw [← hA1] at B1
 rw [← hA2] at B2
 clear hV hbV hA1 hA2
 have cB10 := B1.out.cell (i := 0) rfl
 have cB11 := B1.out.cell (i := 1) rfl
 have cB12 := B1.out.cell (i := 2) rfl
 have cB13 := B1.out.cell (i := 3) rfl
 have cB14 := B1.out.cell (i := 4) rfl
 have cB15 := B1.out.cell (i := 5) rfl
 have cB16 := B1.out.cell (i := 6) rfl
 have cB17 := B1.out.cell (i := 7) rfl
 have cB1f := B1.out.fz
 have cB1l := B1.out.lt
 have cBL := B1.out.cell (i := 4 + li) (at_cell _ _ _ _ _ HI.out)
 have cc0 := BC.out.cell (i := 0) rfl
 go_upto_region 2 with (fail)
 clear cB10 cB11 cB12 cB13 cB14 cB15 cB16 cB17 cB1f cB1l
 clear cc0 cBL
 obtain ⟨q101, hq101⟩ : ∃ z : Rat, z = ((IntKind.i64.wrap ((t.m.at li) : Int) : Int) : Rat) := ⟨_, rfl⟩
 have Hq101 := Lib.hid hq101
 have LQq101 := Lib.hid (show LQ q101 3 by rw [hq101]; exact LQ.int (by rw [HEW.out]; omega) (by rw [HEW.out]; omega))
 clear hq101
 obtain ⟨q102, hq102⟩ : ∃ z : Rat, z = q * q101 := ⟨_, rfl⟩
 have Hq102 := Lib.hid hq102
 have LQq102 := Lib.hid (show LQ q102 1800002 by rw [hq102]; exact LQ.mul (LQq.out.up (by decide : _ ≤ 900001)) (LQq101.out.up (by decide : _ ≤ 900001)) (by decide))
 clear hq102
 go_upto_region 2 with (fail)
 refine Go.FS.wp_region_fresh 7 [] (Go.FS.spOf [(4, Go.FS.Sp.made (fun x : FV => x.v) (fun x w' => DF w' V.heap.size x q101) FV.blk), (5, Go.FS.Sp.made (fun x : FV => x.v) (fun x w' => DF w' V.heap.size x q102) FV.blk)])
  (fun w' => Below V.heap.size V w') (by kernel_rfl) (by kernel_rfl) (by kernel_rfl)
  (Go.FS.spOf_cons (Go.FS.Sp.made_keeps _ (fun _ _ _ h _ hk => h.kept hk) (Go.FS.notTaken (by kernel_rfl))) (Go.FS.spOf_cons (Go.FS.Sp.made_keeps _ (fun _ _ _ h _ hk => h.kept hk) (Go.FS.notTaken (by kernel_rfl))) (Go.FS.spOf_nil))) (fun _ _ h hb => h.trans (hb.mono h.size)) ((Below.refl _ _).drew) ?_
 simp only [List.append_eq, List.cons_append, List.nil_append, List.take_succ_cons, List.take_zero, List.drop_succ_cons, List.drop_zero]
 refine Go.FS.wpF_reads rfl rfl rfl ?_ (fun w' hw' => ?_) ?_
 rotate_left
 ·have hb' := hw'.world
  skip
  clear hw'
  go_simp
  try rfl
 conv => arg 10; simp only [Act.put, Go.q0, Go.q1, Go.q2]
 refine Go.FS.wpF_reads rfl rfl rfl ?_ (fun w' hw' => ?_) ?_
 rotate_left
 ·have hb' := hw'.world
  have hs0 := (B1.out.below hb' B1.out.lt).cell (i := 0) rfl
  have hs1 := (B1.out.below hb' B1.out.lt).cell (i := 1) rfl
  have hs2 := (B1.out.below hb' B1.out.lt).cell (i := 2) rfl
  have hs3 := (B1.out.below hb' B1.out.lt).cell (i := 3) rfl
  have hs4 := (B1.out.below hb' B1.out.lt).cell (i := 4) rfl
  have hs5 := (B1.out.below hb' B1.out.lt).cell (i := 5) rfl
  have hs6 := (B1.out.below hb' B1.out.lt).cell (i := 6) rfl
  have hs7 := (B1.out.below hb' B1.out.lt).cell (i := 7) rfl
  have hsf := (B1.out.below hb' B1.out.lt).fz
  have hsl := (B1.out.below hb' B1.out.lt).lt
  clear hw'
  go_simp
  try rfl
 conv => arg 10; simp only [Act.put, Go.q0, Go.q1, Go.q2]
 iterate 2
  refine Go.FS.wpF_reads rfl rfl rfl ?_ (fun w' hw' => ?_) ?_
  rotate_left
  ·have hb' := hw'.world
   skip
   clear hw'
   go_simp
   try rfl
  conv => arg 10; simp only [Act.put, Go.q0, Go.q1, Go.q2]
 refine Go.FS.wpF_spec rfl rfl rfl (fun w' hw' => ?_) ?_
 ·have hb' := hw'.world
  refine Go.FS.gives_of (Go.FS.PM (fun x : FV => x.v) (fun x w' => DF w' V.heap.size x q101) FV.blk w'.heap.size) ?_ (fun _ _ h => h.post (fun _ _ => FV.inj))
  go_simp
  have CT := qof (IntKind.i64.wrap ((t.m.at li) : Int)) w' (by rw [HEW.out]; omega) (by rw [HEW.out]; omega)
  rw [show ((IntKind.i64.wrap ((t.m.at li) : Int) : Int) : Rat) = q101 from Hq101.out.symm] at CT
  refine CT.mono ?_
  rintro e w'' ⟨za, rfl, ho, hb⟩
  exact ⟨_, rfl, ⟨za, rfl, ho.mono hb'.size, ho.blks⟩, hb⟩
 rintro _ ⟨y4, rfl⟩
 conv => arg 10; simp only [Act.put, Go.q0, Go.q1, Go.q2]
 refine Go.FS.wpF_spec rfl rfl rfl (fun w' hw' => ?_) ?_
 ·have hb' := hw'.world
  refine Go.FS.gives_of (Go.FS.PM (fun x : FV => x.v) (fun x w' => DF w' V.heap.size x q102) FV.blk w'.heap.size) ?_ (fun _ _ h => h.post (fun _ _ => FV.inj))
  go_simp
  have f4 := Go.FS.made_of (val := (fun x : FV => x.v)) (Φ := fun x w' => DF w' V.heap.size x q101) (fun _ _ => FV.inj) (hw'.fact 4 (by kernel_rfl))
  have CT := qmul (NF.out.below hb') (LF.up HLNF.out (by decide : _ ≤ 900000)) (f4).k.any (((f4).k).len LQq101.out (by decide : _ ≤ 900000))
  rw [show q * q101 = q102 from Hq102.out.symm] at CT
  refine CT.mono ?_
  rintro e w'' ⟨za, rfl, ho, hb⟩
  exact ⟨_, rfl, ⟨za, rfl, ho.mono hb'.size, ho.blks⟩, hb⟩
 rintro _ ⟨y5, rfl⟩
 conv => arg 10; simp only [Act.put, Go.q0, Go.q1, Go.q2]
 refine Go.FS.wpF_reads rfl rfl rfl ?_ (fun w' hw' => ?_) ?_
 rotate_left
 ·have hb' := hw'.world
  skip
  clear hw'
  go_simp
  try rfl
 conv => arg 10; simp only [Act.put, Go.q0, Go.q1, Go.q2]
 refine Go.FS.wpF_nil (fun w103 hb hF => ?_)
 have N104 := Lib.hid (show DF w103 V.heap.size y5 q102 from (Go.FS.made_of (val := (fun x : FV => x.v)) (Φ := fun x w' => DF w' V.heap.size x q102) (fun _ _ => FV.inj) (hF.all 5)))
 clear hF
 have NF := Lib.hid (NF.out.below hb)
 have B1 := Lib.hid (B1.out.below hb B1.out.lt)
 have B2 := Lib.hid (B2.out.below hb B2.out.lt)
 have BC := Lib.hid (BC.out.below hb BC.out.lt)
 have KG := Lib.hid (KG.out.trans (hb.mono KG.out.size))
 clear hb
 have cB10 := B1.out.cell (i := 0) rfl
 have cB11 := B1.out.cell (i := 1) rfl
 have cB12 := B1.out.cell (i := 2) rfl
 have cB13 := B1.out.cell (i := 3) rfl
 have cB14 := B1.out.cell (i := 4) rfl
 have cB15 := B1.out.cell (i := 5) rfl
 have cB16 := B1.out.cell (i := 6) rfl
 have cB17 := B1.out.cell (i := 7) rfl
 have cB1f := B1.out.fz
 have cB1l := B1.out.lt
 go_upto_region 3 with (fail)
 clear cB10 cB11 cB12 cB13 cB14 cB15 cB16 cB17 cB1f cB1l
 obtain ⟨U, hU⟩ : ∃ U, U = (((w103.setCell ⟨A1, 0, none⟩ (.bool y5.t.s)).setCell ⟨A1, 1, none⟩ (.slice y5.t.a y5.t.n y5.t.c)).setCell ⟨A1, 2, none⟩ (.bool y5.l.s)).setCell ⟨A1, 3, none⟩ (.slice y5.l.a y5.l.n y5.l.c) := ⟨_, rfl⟩
 have HD := Lib.hid (show DF U V.heap.size y5 q102 by rw [hU]; exact ((((N104.out.setBxs B1.out (by decide) 0 _).setBxs (B1.out.put 0 _) (by decide) 1 _).setBxs ((B1.out.put 0 _).put 1 _) (by decide) 2 _).setBxs (((B1.out.put 0 _).put 1 _).put 2 _) (by decide) 3 _))
 have KG := Lib.hid (show Below w.heap.size w U by rw [hU]; exact ((((KG.out.setCell HA1.out _).setCell HA1.out _).setCell HA1.out _).setCell HA1.out _))
 have B2 := Lib.hid (show Bxs U A2 40 [.bool false, .slice none 0 0, .bool false, .slice none 0 0, .int .u16 0, .int .u16 0, .int .u16 0, .int .u16 0] by rw [hU]; exact ((((B2.out.other HN12.out _).other HN12.out _).other HN12.out _).other HN12.out _))
 have BC := Lib.hid (show Bxs U bc 3 [.int .i64 (li : Int)] by rw [hU]; exact ((((BC.out.other HNC.out _).other HNC.out _).other HNC.out _).other HNC.out _))
 have B1 := Lib.hid (show Bxs U A1 40 [.bool y5.t.s, .slice y5.t.a y5.t.n y5.t.c, .bool y5.l.s, .slice y5.l.a y5.l.n y5.l.c, .int .u16 t.m.x, .int .u16 t.m.y, .int .u16 t.m.z, .int .u16 t.m.t] by rw [hU]; exact ((((B1.out.put 0 _).put 1 _).put 2 _).put 3 _))
 rw [← hU]
 clear hU
 have cB10 := B1.out.cell (i := 0) rfl
 have cB11 := B1.out.cell (i := 1) rfl
 have cB12 := B1.out.cell (i := 2) rfl
 have cB13 := B1.out.cell (i := 3) rfl
 have cB14 := B1.out.cell (i := 4) rfl
 have cB15 := B1.out.cell (i := 5) rfl
 have cB16 := B1.out.cell (i := 6) rfl
 have cB17 := B1.out.cell (i := 7) rfl
 have cB1f := B1.out.fz
 have cB1l := B1.out.lt
 have cBL := B1.out.cell (i := 4 + li) (at_cell _ _ _ _ _ HI.out)
 have cc0 := BC.out.cell (i := 0) rfl
 go_upto_region 4 with (fail)
 clear cB10 cB11 cB12 cB13 cB14 cB15 cB16 cB17 cB1f cB1l
 clear cc0 cBL
 obtain ⟨U2, hU2⟩ : ∃ U2, U2 = U.setCell ⟨A1, 4 + li, none⟩ (.int .u16 (((t.m.at li) - 1 : Nat) : Int)) := ⟨_, rfl⟩
 have HD := Lib.hid (show DF U2 V.heap.size y5 q102 by rw [hU2]; exact HD.out.setBxs B1.out (by decide) (4 + li) _)
 have KG := Lib.hid (show Below w.heap.size w U2 by rw [hU2]; exact KG.out.setCell HA1.out _)
 have B2 := Lib.hid (show Bxs U2 A2 40 [.bool false, .slice none 0 0, .bool false, .slice none 0 0, .int .u16 0, .int .u16 0, .int .u16 0, .int .u16 0] by rw [hU2]; exact B2.out.other HN12.out _)
 have B1 := Lib.hid (show Bxs U2 A1 40 [.bool y5.t.s, .slice y5.t.a y5.t.n y5.t.c, .bool y5.l.s, .slice y5.l.a y5.l.n y5.l.c, .int .u16 (t.m.dec li).x, .int .u16 (t.m.dec li).y, .int .u16 (t.m.dec li).z, .int .u16 (t.m.dec li).t] by rw [hU2]; exact put_dec B1.out HI.out)
 rw [← hU2]
 clear hU2
 have cB10 := B1.out.cell (i := 0) rfl
 have cB11 := B1.out.cell (i := 1) rfl
 have cB12 := B1.out.cell (i := 2) rfl
 have cB13 := B1.out.cell (i := 3) rfl
 have cB14 := B1.out.cell (i := 4) rfl
 have cB15 := B1.out.cell (i := 5) rfl
 have cB16 := B1.out.cell (i := 6) rfl
 have cB17 := B1.out.cell (i := 7) rfl
 have cB1f := B1.out.fz
 have cB1l := B1.out.lt
 have cB20 := B2.out.cell (i := 0) rfl
 have cB21 := B2.out.cell (i := 1) rfl
 have cB22 := B2.out.cell (i := 2) rfl
 have cB23 := B2.out.cell (i := 3) rfl
 have cB24 := B2.out.cell (i := 4) rfl
 have cB25 := B2.out.cell (i := 5) rfl
 have cB26 := B2.out.cell (i := 6) rfl
 have cB27 := B2.out.cell (i := 7) rfl
 have cB2f := B2.out.fz
 have cB2l := B2.out.lt
 have HQ := Lib.hid (show q102 = q * ((t.m.at li) : Rat) by rw [Hq102.out, Hq101.out, HEW.out]; rfl)
 have HD2 := Lib.hid (show DF (put8 U2 A2 (.bool y5.t.s) (.slice y5.t.a y5.t.n y5.t.c) (.bool y5.l.s) (.slice y5.l.a y5.l.n y5.l.c) (.int .u16 (t.m.dec li).x) (.int .u16 (t.m.dec li).y) (.int .u16 (t.m.dec li).z) (.int .u16 (t.m.dec li).t)) w.heap.size y5 (q * ((t.m.at li) : Rat)) from by rw [← HQ.out]; exact put8_df (HD.out.mono HSZ.out) B2.out (by decide) ..)
 have HB := Lib.hid (show Below w.heap.size w (put8 U2 A2 (.bool y5.t.s) (.slice y5.t.a y5.t.n y5.t.c) (.bool y5.l.s) (.slice y5.l.a y5.l.n y5.l.c) (.int .u16 (t.m.dec li).x) (.int .u16 (t.m.dec li).y) (.int .u16 (t.m.dec li).z) (.int .u16 (t.m.dec li).t)) from put8_below KG.out HA2.out ..)
 go_wp2_with fail
 exact bodyPost_ret (results_cell rfl _ _ _ _ _ _ _ rfl (put8_bxs B2.out ..) Tryz.underlying40 rfl (by kernel_rfl)) rfl ⟨y5, rfl, HD2.out, HB.out⟩
theorem slope1_any (i : Nat) (hi : i < 4) (t : TV) (q : Rat) (w : World) (af : AF w t.c q) (lf : LF t.c 900000) (bc : Nat) (hc : Bxs w bc 3 [.int .i64 (i : Int)]) (hs : t.m.Small) :
  Calls Tryz.prog 65 #[TV.v t, .pointer (some ⟨bc, 0, none⟩)] w fun en w' => ∃ y : FV, en = .returned (TV.v ⟨y, t.m.dec i⟩) ∧ DF w' w.heap.size y (q * (t.m.at i : Rat)) ∧ Below w.heap.size w w' := by
 exact slope1_i t q w af lf i hi bc hc (at_small hs i)
theorem dec_small {m : Mo} (h : m.Small) (i : Nat) : (m.dec i).Small := by
 obtain ⟨h1, h2, h3, h4⟩ := h
 unfold Mo.dec
 split
 ·exact ⟨by show m.x - 1 ≤ _; omega, h2, h3, h4⟩
 ·split
  ·exact ⟨h1, by show m.y - 1 ≤ _; omega, h3, h4⟩
  ·split
   ·exact ⟨h1, h2, by show m.z - 1 ≤ _; omega, h4⟩
   ·exact ⟨h1, h2, h3, by show m.t - 1 ≤ _; omega⟩
theorem lq_at {m : Mo} (h : m.Small) (i : Nat) {q : Rat} {k : Nat} (hq : LQ q k) : LQ (q * (m.at i : Rat)) (k + 3) := by
 have h1 := at_small h i
 have h2 : LQ (((m.at i : Nat) : Int) : Rat) 3 := LQ.int (by omega) (by omega)
 exact (hq.ls.mul h2.ls).lq (Nat.le_refl _) (Nat.le_refl _)
set_option maxRecDepth 100000 in
set_option maxHeartbeats 4000000 in
theorem slope_k (i : Nat) (hi : i < 4) (x : PV) (P : List Tm) (k : Nat) (w : World) (hx : KP w x P) (hp : ∀ t ∈ P, LQ t.2 k) (hn : P.length ≤ 1000000) (hk : P.length * (k + 4) ≤ 900000) (hk9 : k ≤ 900000) :
  Calls Tryz.prog 29 #[x.v, .int .i64 (i : Int)] w fun e w' => ∃ y : PV, e = .returned (.tuple #[y.v, .int .i64 0]) ∧ DP w' w.heap.size y (slopeP P i) ∧ Below w.heap.size w w' := by
 have B1 := Lib.hid (Bxs.new w 3 [.int .i64 (i : Int)])
 obtain ⟨V, hV⟩ : ∃ V, V = w.alloc (.cells #[.int .i64 (i : Int)] 3) := ⟨_, rfl⟩
 have hbV : Below w.heap.size w V := by rw [hV]; exact (Below.refl _ _).alloc (Nat.le_refl _) _
 have B1 := Lib.hid (show Bxs V w.heap.size 3 [.int .i64 (i : Int)] by rw [hV]; exact B1.out)
 have hxl := hx.len
 have CK := Lib.hid (check_k (hx.below hbV) (fun t ht => (hp t ht).up hk9) (by omega))
 have HX := Lib.hid hx; have HP := Lib.hid hp; have HN := Lib.hid hn; have HK := Lib.hid hk; have HI := Lib.hid hi; have HK9 := Lib.hid hk9
 have HXL := Lib.hid hxl
 have KG := Lib.hid hbV
 have HV := Lib.hid hV
 have h1 : ¬ ((i : Int) < 0) := by omega
 have h2 : ¬ ((4 : Int) ≤ (i : Int)) := by omega
 have h3 : ¬ ((i : Int) ≥ 4) := by omega
 obtain ⟨xa, xn, xc⟩ := x
 clear hV hbV hx hp hn hk hi hxl hk9
 change Calls Tryz.prog 29 #[.slice xa xn xc, .int .i64 (i : Int)] w _
 go_enter Tryz.func29, Tryz.ntmps29
 go_upto_region 1 with (fail)
 rw [show w.alloc (.cells #[.int .i64 (i : Int)] 3) = V from HV.out.symm]
 have c0 := B1.out.cell (i := 0) rfl
 go_wp2_with fail
 with_reducible refine CK.out.mono ?_
 rintro e w1 ⟨rfl, hb⟩
 have KG := Lib.hid (KG.out.trans (hb.mono KG.out.size))
 have B1 := Lib.hid (B1.out.below hb B1.out.lt)
 clear hb CK c0
 have c0 := B1.out.cell (i := 0) rfl
 obtain ⟨L, hR, hK, hLP⟩ := (HX.out.below KG.out).rowA (fun t ht => (HP.out t ht).up HK9.out)
 have hl : L.length = P.length := by rw [← hLP, List.length_map]
 have hmem : ∀ e ∈ L, tm e ∈ P := fun e he => by rw [← hLP]; exact List.mem_map_of_mem he
 have WT := Lib.hid (with_any 65 #[.pointer (some ⟨w.heap.size, 0, none⟩)] ⟨xa, xn, xc⟩ L (fun e => (e.1.m.dec i, e.2 * (e.1.m.at i : Rat))) (k + 3) w1 hR (by rw [hl]; exact HN.out)
  (by rw [hl]; exact HK.out) (fun _ _ => by kernel_rfl)
  (fun e he w2 hb2 ha hl2 => slope1_any i HI.out e.1 e.2 w2 ha hl2 w.heap.size (B1.out.below hb2 B1.out.lt) (HX.out.small _ (hmem e he)))
  (fun e he => dec_small (HX.out.small _ (hmem e he)) i) (fun e he => lq_at (HX.out.small _ (hmem e he)) i (HP.out _ (hmem e he))))
 have HL := Lib.hid hLP
 clear hR hK hLP hl hmem
 go_wp2_with fail
 with_reducible refine WT.out.mono ?_
 rintro e w2 ⟨y, rfl, hy, hb2⟩
 have HY := Lib.hid hy
 have HB2 := Lib.hid hb2
 clear hy hb2 WT c0
 go_wp2_with fail
 go_ret2
 refine ⟨y, rfl, ?_, KG.out.trans (HB2.out.mono KG.out.size)⟩
 have e1 : slopeP P i = nf (L.map fun e => (e.1.m.dec i, e.2 * (e.1.m.at i : Rat))) := by
  unfold slopeP slopeL
  rw [← HL.out, List.map_map]
  rfl
 rw [e1]
 exact HY.out.mono KG.out.size
theorem eqM_run (a b : Mo) (w : World) : (binOp BinOp.eql 38 (Mo.v a) (Mo.v b)).run Tryz.prog w = .ok (.bool (decide (a = b))) w := by
 have h := run_eqM a b w
 have e : binOp BinOp.eql 38 (Mo.v a) (Mo.v b) = (do pure (.bool (← Op.equal 38 (Mo.v a) (Mo.v b)))) := rfl
 rw [e]
 simp only [Sem.run_bind, h]
 rfl
theorem all_same {P Q : List Tm} {j : Nat} (h : ∀ i, i < j → P[i]? = Q[i]?) (h1 : j = P.length) (h2 : j = Q.length) : P = Q := by
 apply List.ext_getElem?
 intro i
 by_cases hi : i < j
 ·exact h i hi
 ·rw [List.getElem?_eq_none (by omega), List.getElem?_eq_none (by omega)]
theorem next_same {P Q : List Tm} {j : Nat} (h : ∀ i, i < j → P[i]? = Q[i]?) {m n : Mo} {q r : Rat} (h1 : P[j]? = some (m, q)) (h2 : Q[j]? = some (n, r)) (hs : true = decide (m = n ∧ q = r)) : ∀ i, i < j + 1 → P[i]? = Q[i]? := fun i hi => by
 by_cases e : i < j
 ·exact h i e
 ·obtain rfl : i = j := by omega
  obtain ⟨rfl, rfl⟩ := of_decide_eq_true hs.symm
  rw [h1, h2]
theorem not_same {P Q : List Tm} {j : Nat} {m n : Mo} {q r : Rat} (h1 : P[j]? = some (m, q)) (h2 : Q[j]? = some (n, r)) (hs : false = decide (m = n ∧ q = r)) : ¬ P = Q := fun e => by
 rw [e, h2] at h1
 have h3 := Option.some.inj h1
 exact of_decide_eq_false hs.symm ⟨(congrArg Prod.fst h3).symm, (congrArg Prod.snd h3).symm⟩
set_option maxRecDepth 100000 in
set_option maxHeartbeats 4000000 in
theorem same_termD (t u : TV) (q r : Rat) (w : World) (h1 : KF w t.c q) (h2 : KF w u.c r) (hq : LQ q 900000) (hr : LQ r 900000) : Calls Tryz.prog 83 #[TV.v t, TV.v u] w fun e w' => e = .returned (.bool (decide (t.m = u.m ∧ q = r))) ∧ Below w.heap.size w w' := by
 obtain ⟨V, hV⟩ : ∃ V, V = (w.alloc (.cells #[.bool t.c.t.s, .slice t.c.t.a t.c.t.n t.c.t.c, .bool t.c.l.s, .slice t.c.l.a t.c.l.n t.c.l.c, .int .u16 t.m.x, .int .u16 t.m.y, .int .u16 t.m.z, .int .u16 t.m.t] 40)).alloc (.cells #[.bool u.c.t.s, .slice u.c.t.a u.c.t.n u.c.t.c, .bool u.c.l.s, .slice u.c.l.a u.c.l.n u.c.l.c, .int .u16 u.m.x, .int .u16 u.m.y, .int .u16 u.m.z, .int .u16 u.m.t] 40) := ⟨_, rfl⟩
 have hbV : Below w.heap.size w V := by rw [hV]; exact ((Below.refl _ _).alloc (Nat.le_refl _) _).alloc (by go_size) _
 have B1 := Lib.hid (show Bxs V w.heap.size 40 [.bool t.c.t.s, .slice t.c.t.a t.c.t.n t.c.t.c, .bool t.c.l.s, .slice t.c.l.a t.c.l.n t.c.l.c, .int .u16 t.m.x, .int .u16 t.m.y, .int .u16 t.m.z, .int .u16 t.m.t] by rw [hV]; exact (Bxs.new w 40 [.bool t.c.t.s, .slice t.c.t.a t.c.t.n t.c.t.c, .bool t.c.l.s, .slice t.c.l.a t.c.l.n t.c.l.c, .int .u16 t.m.x, .int .u16 t.m.y, .int .u16 t.m.z, .int .u16 t.m.t]).alloc _)
 have B2 := Lib.hid (show Bxs V (w.heap.size + 1) 40 [.bool u.c.t.s, .slice u.c.t.a u.c.t.n u.c.t.c, .bool u.c.l.s, .slice u.c.l.a u.c.l.n u.c.l.c, .int .u16 u.m.x, .int .u16 u.m.y, .int .u16 u.m.z, .int .u16 u.m.t] by
  have h := Bxs.new (w.alloc (.cells #[.bool t.c.t.s, .slice t.c.t.a t.c.t.n t.c.t.c, .bool t.c.l.s, .slice t.c.l.a t.c.l.n t.c.l.c, .int .u16 t.m.x, .int .u16 t.m.y, .int .u16 t.m.z, .int .u16 t.m.t] 40)) 40 [.bool u.c.t.s, .slice u.c.t.a u.c.t.n u.c.t.c, .bool u.c.l.s, .slice u.c.l.a u.c.l.n u.c.l.c, .int .u16 u.m.x, .int .u16 u.m.y, .int .u16 u.m.z, .int .u16 u.m.t]
  rw [World.size_alloc] at h
  rw [hV]; exact h)
 have KG := Lib.hid hbV
 have SF := Lib.hid (qsameFrD (h1.below hbV) (h1.len hq (Nat.le_refl _)) (h2.below hbV) (h2.len hr (Nat.le_refl _)))
 have HV := Lib.hid hV
 have hqe := eqM_run t.m u.m
 obtain ⟨mb, hmb⟩ : ∃ b, b = decide (t.m = u.m) := ⟨_, rfl⟩
 rw [← hmb] at hqe
 obtain ⟨fb, hfb⟩ : ∃ b, b = decide (q = r) := ⟨_, rfl⟩
 rw [← hfb] at SF
 have HR := Lib.hid (show decide (t.m = u.m ∧ q = r) = (fb && mb) by rw [hmb, hfb]; by_cases a : t.m = u.m <;> by_cases b : q = r <;> simp [a, b])
 rw [HR.out]
 clear hV hbV h1 h2 hq hr hmb hfb
 go_enter Tryz.func83, Tryz.ntmps83
 go_upto_region 1 with (fail)
 rw [show (w.alloc (.cells #[.bool t.c.t.s, .slice t.c.t.a t.c.t.n t.c.t.c, .bool t.c.l.s, .slice t.c.l.a t.c.l.n t.c.l.c, .int .u16 t.m.x, .int .u16 t.m.y, .int .u16 t.m.z, .int .u16 t.m.t] 40)).alloc (.cells #[.bool u.c.t.s, .slice u.c.t.a u.c.t.n u.c.t.c, .bool u.c.l.s, .slice u.c.l.a u.c.l.n u.c.l.c, .int .u16 u.m.x, .int .u16 u.m.y, .int .u16 u.m.z, .int .u16 u.m.t] 40) = V from HV.out.symm]
 have c10 := B1.out.cell (i := 0) rfl
 have c11 := B1.out.cell (i := 1) rfl
 have c12 := B1.out.cell (i := 2) rfl
 have c13 := B1.out.cell (i := 3) rfl
 have c14 := B1.out.cell (i := 4) rfl
 have c15 := B1.out.cell (i := 5) rfl
 have c16 := B1.out.cell (i := 6) rfl
 have c17 := B1.out.cell (i := 7) rfl
 have c20 := B2.out.cell (i := 0) rfl
 have c21 := B2.out.cell (i := 1) rfl
 have c22 := B2.out.cell (i := 2) rfl
 have c23 := B2.out.cell (i := 3) rfl
 have c24 := B2.out.cell (i := 4) rfl
 have c25 := B2.out.cell (i := 5) rfl
 have c26 := B2.out.cell (i := 6) rfl
 have c27 := B2.out.cell (i := 7) rfl
 go_wp2_with fail
 with_reducible refine SF.out.mono ?_
 rintro e w1 ⟨rfl, hb⟩
 have KG := Lib.hid (KG.out.trans (hb.mono KG.out.size))
 have B1 := Lib.hid (B1.out.below hb B1.out.lt)
 have B2 := Lib.hid (B2.out.below hb B2.out.lt)
 clear hb SF c10 c11 c12 c13 c14 c15 c16 c17 c20 c21 c22 c23 c24 c25 c26 c27
 rcases Bool.eq_false_or_eq_true fb with rfl | rfl
 ·have c10 := B1.out.cell (i := 0) rfl
  have c11 := B1.out.cell (i := 1) rfl
  have c12 := B1.out.cell (i := 2) rfl
  have c13 := B1.out.cell (i := 3) rfl
  have c14 := B1.out.cell (i := 4) rfl
  have c15 := B1.out.cell (i := 5) rfl
  have c16 := B1.out.cell (i := 6) rfl
  have c17 := B1.out.cell (i := 7) rfl
  have c20 := B2.out.cell (i := 0) rfl
  have c21 := B2.out.cell (i := 1) rfl
  have c22 := B2.out.cell (i := 2) rfl
  have c23 := B2.out.cell (i := 3) rfl
  have c24 := B2.out.cell (i := 4) rfl
  have c25 := B2.out.cell (i := 5) rfl
  have c26 := B2.out.cell (i := 6) rfl
  have c27 := B2.out.cell (i := 7) rfl
  go_wp2_with fail
  go_ret
  exact ⟨rfl, KG.out⟩
 ·go_wp2_with fail
  go_ret
  exact ⟨rfl, KG.out⟩
set_option maxRecDepth 100000 in
set_option maxHeartbeats 4000000 in
theorem same1_d (t u : TV) (q r : Rat) (w : World) (h1 : KF w t.c q) (h2 : KF w u.c r) (hq : LQ q 900000) (hr : LQ r 900000) : Calls Tryz.prog 68 #[TV.v t, TV.v u] w fun e w' => e = .returned (.bool (decide (t.m = u.m ∧ q = r))) ∧ Below w.heap.size w w' := by
 obtain ⟨V, hV⟩ : ∃ V, V = (w.alloc (.cells #[.bool t.c.t.s, .slice t.c.t.a t.c.t.n t.c.t.c, .bool t.c.l.s, .slice t.c.l.a t.c.l.n t.c.l.c, .int .u16 t.m.x, .int .u16 t.m.y, .int .u16 t.m.z, .int .u16 t.m.t] 40)).alloc (.cells #[.bool u.c.t.s, .slice u.c.t.a u.c.t.n u.c.t.c, .bool u.c.l.s, .slice u.c.l.a u.c.l.n u.c.l.c, .int .u16 u.m.x, .int .u16 u.m.y, .int .u16 u.m.z, .int .u16 u.m.t] 40) := ⟨_, rfl⟩
 have hbV : Below w.heap.size w V := by rw [hV]; exact ((Below.refl _ _).alloc (Nat.le_refl _) _).alloc (by go_size) _
 have B1 := Lib.hid (show Bxs V w.heap.size 40 [.bool t.c.t.s, .slice t.c.t.a t.c.t.n t.c.t.c, .bool t.c.l.s, .slice t.c.l.a t.c.l.n t.c.l.c, .int .u16 t.m.x, .int .u16 t.m.y, .int .u16 t.m.z, .int .u16 t.m.t] by rw [hV]; exact (Bxs.new w 40 [.bool t.c.t.s, .slice t.c.t.a t.c.t.n t.c.t.c, .bool t.c.l.s, .slice t.c.l.a t.c.l.n t.c.l.c, .int .u16 t.m.x, .int .u16 t.m.y, .int .u16 t.m.z, .int .u16 t.m.t]).alloc _)
 have B2 := Lib.hid (show Bxs V (w.heap.size + 1) 40 [.bool u.c.t.s, .slice u.c.t.a u.c.t.n u.c.t.c, .bool u.c.l.s, .slice u.c.l.a u.c.l.n u.c.l.c, .int .u16 u.m.x, .int .u16 u.m.y, .int .u16 u.m.z, .int .u16 u.m.t] by
  have h := Bxs.new (w.alloc (.cells #[.bool t.c.t.s, .slice t.c.t.a t.c.t.n t.c.t.c, .bool t.c.l.s, .slice t.c.l.a t.c.l.n t.c.l.c, .int .u16 t.m.x, .int .u16 t.m.y, .int .u16 t.m.z, .int .u16 t.m.t] 40)) 40 [.bool u.c.t.s, .slice u.c.t.a u.c.t.n u.c.t.c, .bool u.c.l.s, .slice u.c.l.a u.c.l.n u.c.l.c, .int .u16 u.m.x, .int .u16 u.m.y, .int .u16 u.m.z, .int .u16 u.m.t]
  rw [World.size_alloc] at h
  rw [hV]; exact h)
 have KG := Lib.hid hbV
 have SF := Lib.hid (qcmp (h1.below hbV).any (h1.len hq (Nat.le_refl _)) (h2.below hbV).any (h2.len hr (Nat.le_refl _)))
 have HV := Lib.hid hV
 have hqe := eqM_run t.m u.m
 obtain ⟨mb, hmb⟩ : ∃ b, b = decide (t.m = u.m) := ⟨_, rfl⟩
 rw [← hmb] at hqe
 obtain ⟨cv, hcv⟩ : ∃ c, c = cmpQ q r := ⟨_, rfl⟩
 obtain ⟨fb, hfb⟩ : ∃ b, b = (cv == 0) := ⟨_, rfl⟩
 rw [← hcv] at SF
 have HR := Lib.hid (show decide (t.m = u.m ∧ q = r) = (mb && fb) by rw [hmb, hfb, hcv, cmpQ_same]; by_cases a : t.m = u.m <;> by_cases b : q = r <;> simp [a, b])
 have hfb2 := hfb.symm
 rw [HR.out]
 clear hV hbV h1 h2 hq hr hmb hcv hfb
 go_enter Tryz.func68, Tryz.ntmps68
 go_upto_region 1 with (fail)
 rw [show (w.alloc (.cells #[.bool t.c.t.s, .slice t.c.t.a t.c.t.n t.c.t.c, .bool t.c.l.s, .slice t.c.l.a t.c.l.n t.c.l.c, .int .u16 t.m.x, .int .u16 t.m.y, .int .u16 t.m.z, .int .u16 t.m.t] 40)).alloc (.cells #[.bool u.c.t.s, .slice u.c.t.a u.c.t.n u.c.t.c, .bool u.c.l.s, .slice u.c.l.a u.c.l.n u.c.l.c, .int .u16 u.m.x, .int .u16 u.m.y, .int .u16 u.m.z, .int .u16 u.m.t] 40) = V from HV.out.symm]
 have c10 := B1.out.cell (i := 0) rfl
 have c11 := B1.out.cell (i := 1) rfl
 have c12 := B1.out.cell (i := 2) rfl
 have c13 := B1.out.cell (i := 3) rfl
 have c14 := B1.out.cell (i := 4) rfl
 have c15 := B1.out.cell (i := 5) rfl
 have c16 := B1.out.cell (i := 6) rfl
 have c17 := B1.out.cell (i := 7) rfl
 have c20 := B2.out.cell (i := 0) rfl
 have c21 := B2.out.cell (i := 1) rfl
 have c22 := B2.out.cell (i := 2) rfl
 have c23 := B2.out.cell (i := 3) rfl
 have c24 := B2.out.cell (i := 4) rfl
 have c25 := B2.out.cell (i := 5) rfl
 have c26 := B2.out.cell (i := 6) rfl
 have c27 := B2.out.cell (i := 7) rfl
 rcases Bool.eq_false_or_eq_true mb with rfl | rfl
 ·go_wp2_with fail
  with_reducible refine SF.out.mono ?_
  rintro e w1 ⟨rfl, hb⟩
  have KG := Lib.hid (KG.out.trans (hb.mono KG.out.size))
  clear hb SF c10 c11 c12 c13 c14 c15 c16 c17 c20 c21 c22 c23 c24 c25 c26 c27
  go_wp2_with fail
  go_ret
  exact ⟨rfl, KG.out⟩
 ·go_wp2_with fail
  go_ret
  exact ⟨rfl, KG.out⟩
set_option maxRecDepth 100000 in
set_option maxHeartbeats 16000000 in
theorem same_d (x y : PV) (P Q : List Tm) (w : World) (hx : KP w x P) (hy : KP w y Q) (hp : ∀ t ∈ P, LQ t.2 900000) (hq : ∀ t ∈ Q, LQ t.2 900000) (hn : P.length ≤ 1000000) : Calls Tryz.prog 45 #[x.v, y.v] w fun e w' => e = .returned (.bool (decide (P = Q))) ∧ Below w.heap.size w w' := by
 have hxl := hx.len
 have hyl := hy.len
 obtain ⟨xa, xn, xc⟩ := x
 obtain ⟨ya, yn, yc⟩ := y
 change xn = P.length at hxl
 change yn = Q.length at hyl
 obtain ⟨L1, g1, g2, g3, g4⟩ := hx.ex
 obtain ⟨L2, k3, k4, k5, k6⟩ := hy.ex
 have HP := Lib.hid hp; have HQ := Lib.hid hq; have HNN := Lib.hid (show xn ≤ 1000000 by rw [hxl]; exact hn)
 have R1 := Lib.hid g1; have R2 := Lib.hid k3; have F1 := Lib.hid g3; have F2 := Lib.hid k5; have T1 := Lib.hid g4; have T2 := Lib.hid k6
 have N1 := Lib.hid (show L1.length = xn from g2); have N2 := Lib.hid (show L2.length = yn from k4)
 have HXL := Lib.hid hxl; have HYL := Lib.hid hyl
 obtain ⟨res, hres⟩ : ∃ b, b = decide (P = Q) := ⟨_, rfl⟩
 have HRES := Lib.hid hres
 rw [← hres]
 clear hx hy hp hq hn hxl hyl g1 g2 g3 g4 k3 k4 k5 k6 hres
 by_cases hne : ¬ (xn = yn)
 ·have h1 : ¬ ((xn : Int) = (yn : Int)) := by omega
  have hf : false = res := by rw [HRES.out]; exact (decide_eq_false fun h => hne (by rw [HXL.out, HYL.out, h])).symm
  change Calls Tryz.prog 45 #[.slice xa xn xc, .slice ya yn yc] w _
  go_enter Tryz.func45, Tryz.ntmps45
  go_wp2_with fail
  go_ret
  exact ⟨by rw [← hf]; rfl, Below.refl _ _⟩
 have hne2 : xn = yn := Decidable.of_not_not hne
 clear hne
 subst hne2
 change Calls Tryz.prog 45 #[.slice xa xn xc, .slice ya xn yc] w _
 go_enter Tryz.func45, Tryz.ntmps45
 go_wp2_with fail
 go_loopw [5] (fun i wr => ∃ j : Nat, j ≤ xn ∧ i = .int .i64 j ∧ (∀ i, i < j → P[i]? = Q[i]?) ∧ Below w.heap.size w wr) (fun i _ => xn - (intOf i).toNat)
 case atStart =>
  exact ⟨0, Nat.zero_le _, rfl, fun i hi => absurd hi (Nat.not_lt_zero _), Below.refl _ _⟩
 case round =>
  obtain ⟨j, hj, rfl, hal, hb0⟩ := hrel
  have HJ := Lib.hid hj; have HAL := Lib.hid hal; have KG := Lib.hid hb0
  clear hj hal hb0
  by_cases hjn : j < xn
  ·have HJN := Lib.hid hjn
   have h1l : j < L1.length := by rw [N1.out]; exact hjn
   have h2l : j < L2.length := by rw [N2.out]; exact hjn
   obtain ⟨pb, po, rfl, hc1⟩ := (R1.out.below KG.out).one (fun h => by rw [List.map_eq_nil_iff] at h; rw [h] at h1l; simp at h1l)
   obtain ⟨qb, qo, rfl, hc2⟩ := (R2.out.below KG.out).one (fun h => by rw [List.map_eq_nil_iff] at h; rw [h] at h2l; simp at h2l)
   obtain ⟨⟨t, q⟩, he1⟩ : ∃ e, L1[j]? = some e := ⟨_, List.getElem?_eq_getElem h1l⟩
   obtain ⟨⟨u, r⟩, he2⟩ : ∃ e, L2[j]? = some e := ⟨_, List.getElem?_eq_getElem h2l⟩
   have E1 := Lib.hid (hc1 j t (by rw [List.getElem?_map, he1]; rfl))
   have E2 := Lib.hid (hc2 j u (by rw [List.getElem?_map, he2]; rfl))
   have p1 : P[j]? = some (t.m, q) := by rw [← T1.out, List.getElem?_map, he1]; rfl
   have p2 : Q[j]? = some (u.m, r) := by rw [← T2.out, List.getElem?_map, he2]; rfl
   have P1 := Lib.hid p1; have P2 := Lib.hid p2
   have NT := Lib.hid (show KF wr t.c q from (F1.out _ (List.mem_of_getElem? he1)).below KG.out)
   have NU := Lib.hid (show KF wr u.c r from (F2.out _ (List.mem_of_getElem? he2)).below KG.out)
   have LQq := Lib.hid (HP.out _ (List.mem_of_getElem? p1))
   have LQr := Lib.hid (HQ.out _ (List.mem_of_getElem? p2))
   have ek : IntKind.i64.wrap ((j : Int) + 1) = (j : Int) + 1 := IntWalk.i64_in _ (by have := HJN.out; have := HNN.out; omega)
   obtain ⟨sb, hsb⟩ : ∃ b, b = decide (t.m = u.m ∧ q = r) := ⟨_, rfl⟩
   have HSB := Lib.hid hsb
   clear hc1 hc2 he1 he2 p1 p2 h1l h2l hsb
   go_upto_region 6 with (fail)
   refine Go.FS.wp_region_fresh 9 [] (Go.FS.spOf [(8, Go.FS.Sp.know (.bool sb))])
    (fun w' => Below wr.heap.size wr w') (by kernel_rfl) (by kernel_rfl) (by kernel_rfl)
    (Go.FS.spOf_cons (Go.FS.Sp.know_keeps _ _) (Go.FS.spOf_nil)) (fun _ _ h hb => h.trans (hb.mono h.size)) ((Below.refl _ _).drew) ?_
   simp only [List.append_eq, List.cons_append, List.nil_append, List.take_succ_cons, List.take_zero, List.drop_succ_cons, List.drop_zero]
   iterate 3
    refine Go.FS.wpF_reads rfl rfl rfl ?_ (fun w' hw' => ?_) ?_
    rotate_left
    ·have hb' := hw'.world
     skip
     clear hw'
     go_simp
     try rfl
    conv => arg 10; simp only [Act.put, Go.q0, Go.q1, Go.q2]
   refine Go.FS.wpF_reads rfl rfl rfl ?_ (fun w' hw' => ?_) ?_
   rotate_left
   ·have hb' := hw'.world
    obtain ⟨hs0, hs1, hs2, hs3, hs4, hs5, hs6, hs7⟩ := (E1.out.below hb').eight
    clear hw'
    go_simp
    try rfl
   conv => arg 10; simp only [Act.put, Go.q0, Go.q1, Go.q2]
   iterate 3
    refine Go.FS.wpF_reads rfl rfl rfl ?_ (fun w' hw' => ?_) ?_
    rotate_left
    ·have hb' := hw'.world
     skip
     clear hw'
     go_simp
     try rfl
    conv => arg 10; simp only [Act.put, Go.q0, Go.q1, Go.q2]
   refine Go.FS.wpF_reads rfl rfl rfl ?_ (fun w' hw' => ?_) ?_
   rotate_left
   ·have hb' := hw'.world
    obtain ⟨hs0, hs1, hs2, hs3, hs4, hs5, hs6, hs7⟩ := (E2.out.below hb').eight
    clear hw'
    go_simp
    try rfl
   conv => arg 10; simp only [Act.put, Go.q0, Go.q1, Go.q2]
   refine Go.FS.wpF_spec rfl rfl rfl (fun w' hw' => ?_) ?_
   ·have hb' := hw'.world
    refine Go.FS.gives_of (Go.FS.PK (.bool sb)) ?_ (fun _ _ h => h.post)
    go_simp
    have CT := same_termD t u q r w' (NT.out.below hb') (NU.out.below hb') LQq.out LQr.out
    rw [show decide (t.m = u.m ∧ q = r) = sb from HSB.out.symm] at CT
    refine CT.mono ?_
    rintro e w'' ⟨rfl, hb⟩
    exact ⟨_, rfl, rfl, hb⟩
   rintro _ rfl
   conv => arg 10; simp only [Act.put, Go.q0, Go.q1, Go.q2]
   refine Go.FS.wpF_nil (fun w101 hb hF => ?_)
   clear hF
   have KG := Lib.hid (KG.out.trans (hb.mono KG.out.size))
   clear hb
   rcases Bool.eq_false_or_eq_true sb with rfl | rfl
   ·go_wp2_with fail
    go_roundw
    case rel =>
     exact ⟨j + 1, by have := HJN.out; omega, rfl, next_same HAL.out P1.out P2.out HSB.out, KG.out⟩
    case measure => simp [intOf]; have := HJN.out; omega
   ·go_wp2_with fail
    go_ret
    refine ⟨by rw [HRES.out, decide_eq_false (not_same P1.out P2.out HSB.out)]; rfl, KG.out⟩
  ·have hge : ¬ ((j : Int) < (xn : Int)) := by omega
   have HJE := Lib.hid (show j = xn by have := HJ.out; omega)
   clear hjn
   go_wp2_with fail
   go_ret
   refine ⟨by rw [HRES.out, decide_eq_true (all_same HAL.out (by rw [HJE.out, HXL.out]) (by rw [HJE.out, HYL.out]))]; rfl, KG.out⟩
set_option maxRecDepth 100000 in
set_option maxHeartbeats 16000000 in
theorem equal_d (x y : PV) (P Q : List Tm) (w : World) (hx : KP w x P) (hy : KP w y Q) (hp : ∀ t ∈ P, LQ t.2 900000) (hq : ∀ t ∈ Q, LQ t.2 900000) (hn : P.length ≤ 1000000) : Calls Tryz.prog 67 #[x.v, y.v, .func (.func 68) #[] #[]] w fun e w' => e = .returned (.bool (decide (P = Q))) ∧ Below w.heap.size w w' := by
 have hxl := hx.len
 have hyl := hy.len
 obtain ⟨xa, xn, xc⟩ := x
 obtain ⟨ya, yn, yc⟩ := y
 change xn = P.length at hxl
 change yn = Q.length at hyl
 obtain ⟨L1, g1, g2, g3, g4⟩ := hx.ex
 obtain ⟨L2, k3, k4, k5, k6⟩ := hy.ex
 have HP := Lib.hid hp; have HQ := Lib.hid hq; have HNN := Lib.hid (show xn ≤ 1000000 by rw [hxl]; exact hn)
 have R1 := Lib.hid g1; have R2 := Lib.hid k3; have F1 := Lib.hid g3; have F2 := Lib.hid k5; have T1 := Lib.hid g4; have T2 := Lib.hid k6
 have N1 := Lib.hid (show L1.length = xn from g2); have N2 := Lib.hid (show L2.length = yn from k4)
 have HXL := Lib.hid hxl; have HYL := Lib.hid hyl
 obtain ⟨res, hres⟩ : ∃ b, b = decide (P = Q) := ⟨_, rfl⟩
 have HRES := Lib.hid hres
 rw [← hres]
 clear hx hy hp hq hn hxl hyl g1 g2 g3 g4 k3 k4 k5 k6 hres
 by_cases hne : ¬ (xn = yn)
 ·have h1 : ¬ ((xn : Int) = (yn : Int)) := by omega
  have hf : false = res := by rw [HRES.out]; exact (decide_eq_false fun h => hne (by rw [HXL.out, HYL.out, h])).symm
  change Calls Tryz.prog 67 #[.slice xa xn xc, .slice ya yn yc, .func (.func 68) #[] #[]] w _
  go_enter Tryz.func67, Tryz.ntmps67
  go_wp2_with fail
  go_ret
  exact ⟨by rw [← hf]; rfl, Below.refl _ _⟩
 have hne2 : xn = yn := Decidable.of_not_not hne
 clear hne
 subst hne2
 change Calls Tryz.prog 67 #[.slice xa xn xc, .slice ya xn yc, .func (.func 68) #[] #[]] w _
 go_enter Tryz.func67, Tryz.ntmps67
 go_wp2_with fail
 go_loopw [17] (fun i wr => ∃ j : Nat, j ≤ xn ∧ i = .int .i64 j ∧ (∀ i, i < j → P[i]? = Q[i]?) ∧ Below w.heap.size w wr) (fun i _ => xn - (intOf i).toNat)
 case atStart =>
  exact ⟨0, Nat.zero_le _, rfl, fun i hi => absurd hi (Nat.not_lt_zero _), Below.refl _ _⟩
 case round =>
  obtain ⟨j, hj, rfl, hal, hb0⟩ := hrel
  have HJ := Lib.hid hj; have HAL := Lib.hid hal; have KG := Lib.hid hb0
  clear hj hal hb0
  by_cases hjn : j < xn
  ·have HJN := Lib.hid hjn
   have h1l : j < L1.length := by rw [N1.out]; exact hjn
   have h2l : j < L2.length := by rw [N2.out]; exact hjn
   obtain ⟨pb, po, rfl, hc1⟩ := (R1.out.below KG.out).one (fun h => by rw [List.map_eq_nil_iff] at h; rw [h] at h1l; simp at h1l)
   obtain ⟨qb, qo, rfl, hc2⟩ := (R2.out.below KG.out).one (fun h => by rw [List.map_eq_nil_iff] at h; rw [h] at h2l; simp at h2l)
   obtain ⟨⟨t, q⟩, he1⟩ : ∃ e, L1[j]? = some e := ⟨_, List.getElem?_eq_getElem h1l⟩
   obtain ⟨⟨u, r⟩, he2⟩ : ∃ e, L2[j]? = some e := ⟨_, List.getElem?_eq_getElem h2l⟩
   have E1 := Lib.hid (hc1 j t (by rw [List.getElem?_map, he1]; rfl))
   have E2 := Lib.hid (hc2 j u (by rw [List.getElem?_map, he2]; rfl))
   have p1 : P[j]? = some (t.m, q) := by rw [← T1.out, List.getElem?_map, he1]; rfl
   have p2 : Q[j]? = some (u.m, r) := by rw [← T2.out, List.getElem?_map, he2]; rfl
   have P1 := Lib.hid p1; have P2 := Lib.hid p2
   have NT := Lib.hid (show KF wr t.c q from (F1.out _ (List.mem_of_getElem? he1)).below KG.out)
   have NU := Lib.hid (show KF wr u.c r from (F2.out _ (List.mem_of_getElem? he2)).below KG.out)
   have LQq := Lib.hid (HP.out _ (List.mem_of_getElem? p1))
   have LQr := Lib.hid (HQ.out _ (List.mem_of_getElem? p2))
   have ek : IntKind.i64.wrap ((j : Int) + 1) = (j : Int) + 1 := IntWalk.i64_in _ (by have := HJN.out; have := HNN.out; omega)
   obtain ⟨sb, hsb⟩ : ∃ b, b = decide (t.m = u.m ∧ q = r) := ⟨_, rfl⟩
   have HSB := Lib.hid hsb
   clear hc1 hc2 he1 he2 p1 p2 h1l h2l hsb
   obtain ⟨V, hV⟩ : ∃ V, V = (wr.alloc (.cells #[.bool t.c.t.s, .slice t.c.t.a t.c.t.n t.c.t.c, .bool t.c.l.s, .slice t.c.l.a t.c.l.n t.c.l.c, .int .u16 t.m.x, .int .u16 t.m.y, .int .u16 t.m.z, .int .u16 t.m.t] 40)).alloc (.cells #[.bool u.c.t.s, .slice u.c.t.a u.c.t.n u.c.t.c, .bool u.c.l.s, .slice u.c.l.a u.c.l.n u.c.l.c, .int .u16 u.m.x, .int .u16 u.m.y, .int .u16 u.m.z, .int .u16 u.m.t] 40) := ⟨_, rfl⟩
   have hbV : Below wr.heap.size wr V := by rw [hV]; exact ((Below.refl _ _).alloc (Nat.le_refl _) _).alloc (by go_size) _
   have B1 := Lib.hid (show Bxs V wr.heap.size 40 [.bool t.c.t.s, .slice t.c.t.a t.c.t.n t.c.t.c, .bool t.c.l.s, .slice t.c.l.a t.c.l.n t.c.l.c, .int .u16 t.m.x, .int .u16 t.m.y, .int .u16 t.m.z, .int .u16 t.m.t] by rw [hV]; exact (Bxs.new wr 40 [.bool t.c.t.s, .slice t.c.t.a t.c.t.n t.c.t.c, .bool t.c.l.s, .slice t.c.l.a t.c.l.n t.c.l.c, .int .u16 t.m.x, .int .u16 t.m.y, .int .u16 t.m.z, .int .u16 t.m.t]).alloc _)
   have B2 := Lib.hid (show Bxs V (wr.heap.size + 1) 40 [.bool u.c.t.s, .slice u.c.t.a u.c.t.n u.c.t.c, .bool u.c.l.s, .slice u.c.l.a u.c.l.n u.c.l.c, .int .u16 u.m.x, .int .u16 u.m.y, .int .u16 u.m.z, .int .u16 u.m.t] by
    have h := Bxs.new (wr.alloc (.cells #[.bool t.c.t.s, .slice t.c.t.a t.c.t.n t.c.t.c, .bool t.c.l.s, .slice t.c.l.a t.c.l.n t.c.l.c, .int .u16 t.m.x, .int .u16 t.m.y, .int .u16 t.m.z, .int .u16 t.m.t] 40)) 40 [.bool u.c.t.s, .slice u.c.t.a u.c.t.n u.c.t.c, .bool u.c.l.s, .slice u.c.l.a u.c.l.n u.c.l.c, .int .u16 u.m.x, .int .u16 u.m.y, .int .u16 u.m.z, .int .u16 u.m.t]
    rw [World.size_alloc] at h
    rw [hV]; exact h)
   obtain ⟨d10, d11, d12, d13, d14, d15, d16, d17⟩ := E1.out.eight
   obtain ⟨d20, d21, d22, d23, d24, d25, d26, d27⟩ := (E2.out.below ((Below.refl wr.heap.size wr).alloc (Nat.le_refl _) (.cells #[.bool t.c.t.s, .slice t.c.t.a t.c.t.n t.c.t.c, .bool t.c.l.s, .slice t.c.l.a t.c.l.n t.c.l.c, .int .u16 t.m.x, .int .u16 t.m.y, .int .u16 t.m.z, .int .u16 t.m.t] 40))).eight
   have S1 := Lib.hid (same1_d t u q r V (NT.out.below hbV) (NU.out.below hbV) LQq.out LQr.out)
   rw [show decide (t.m = u.m ∧ q = r) = sb from HSB.out.symm] at S1
   have KG := Lib.hid (KG.out.trans (hbV.mono KG.out.size))
   have HV := Lib.hid hV
   clear hV hbV
   go_upto_region 7 with (fail)
   rw [show (wr.alloc (.cells #[.bool t.c.t.s, .slice t.c.t.a t.c.t.n t.c.t.c, .bool t.c.l.s, .slice t.c.l.a t.c.l.n t.c.l.c, .int .u16 t.m.x, .int .u16 t.m.y, .int .u16 t.m.z, .int .u16 t.m.t] 40)).alloc (.cells #[.bool u.c.t.s, .slice u.c.t.a u.c.t.n u.c.t.c, .bool u.c.l.s, .slice u.c.l.a u.c.l.n u.c.l.c, .int .u16 u.m.x, .int .u16 u.m.y, .int .u16 u.m.z, .int .u16 u.m.t] 40) = V from HV.out.symm]
   clear d10 d11 d12 d13 d14 d15 d16 d17 d20 d21 d22 d23 d24 d25 d26 d27
   have c10 := B1.out.cell (i := 0) rfl
   have c11 := B1.out.cell (i := 1) rfl
   have c12 := B1.out.cell (i := 2) rfl
   have c13 := B1.out.cell (i := 3) rfl
   have c14 := B1.out.cell (i := 4) rfl
   have c15 := B1.out.cell (i := 5) rfl
   have c16 := B1.out.cell (i := 6) rfl
   have c17 := B1.out.cell (i := 7) rfl
   have c20 := B2.out.cell (i := 0) rfl
   have c21 := B2.out.cell (i := 1) rfl
   have c22 := B2.out.cell (i := 2) rfl
   have c23 := B2.out.cell (i := 3) rfl
   have c24 := B2.out.cell (i := 4) rfl
   have c25 := B2.out.cell (i := 5) rfl
   have c26 := B2.out.cell (i := 6) rfl
   have c27 := B2.out.cell (i := 7) rfl
   go_wp2_with fail
   with_reducible refine S1.out.mono ?_
   rintro e w1 ⟨rfl, hb⟩
   have KG := Lib.hid (KG.out.trans (hb.mono KG.out.size))
   clear hb S1 c10 c11 c12 c13 c14 c15 c16 c17 c20 c21 c22 c23 c24 c25 c26 c27
   rcases Bool.eq_false_or_eq_true sb with rfl | rfl
   ·go_wp2_with fail
    go_roundw
    case rel =>
     exact ⟨j + 1, by have := HJN.out; omega, rfl, next_same HAL.out P1.out P2.out HSB.out, KG.out⟩
    case measure => simp [intOf]; have := HJN.out; omega
   ·go_wp2_with fail
    go_ret
    refine ⟨by rw [HRES.out, decide_eq_false (not_same P1.out P2.out HSB.out)]; rfl, KG.out⟩
  ·have hge : ¬ ((j : Int) < (xn : Int)) := by omega
   have HJE := Lib.hid (show j = xn by have := HJ.out; omega)
   clear hjn
   go_wp2_with fail
   go_ret
   refine ⟨by rw [HRES.out, decide_eq_true (all_same HAL.out (by rw [HJE.out, HXL.out]) (by rw [HJE.out, HYL.out]))]; rfl, KG.out⟩
set_option maxRecDepth 100000 in
set_option maxHeartbeats 16000000 in
theorem pSame_d (x y : PV) (P Q : List Tm) (w : World) (hx : KP w x P) (hy : KP w y Q) (hp : ∀ t ∈ P, LQ t.2 900000) (hq : ∀ t ∈ Q, LQ t.2 900000) (hn : P.length ≤ 1000000) (hm : Q.length ≤ 1000000) : Calls Tryz.prog 32 #[x.v, y.v] w fun e w' => e = .returned (.bool (decide (P = Q))) ∧ Below w.heap.size w w' := by
 have O1 := Lib.hid (of_k hx hp (by rw [hx.len]; omega))
 have HX := Lib.hid hx; have HY := Lib.hid hy; have HP := Lib.hid hp; have HQ := Lib.hid hq; have HN := Lib.hid hn; have HM := Lib.hid hm
 obtain ⟨xa, xn, xc⟩ := x
 obtain ⟨ya, yn, yc⟩ := y
 change Calls Tryz.prog 32 #[.slice xa xn xc, .slice ya yn yc] w _
 clear hx hy hp hq hn hm
 go_enter Tryz.func32, Tryz.ntmps32
 go_wp2_with fail
 with_reducible refine O1.out.mono ?_
 rintro e w1 ⟨rfl, hb⟩
 have KG := Lib.hid hb
 clear hb O1
 have O2 := Lib.hid (of_k (HY.out.below KG.out) HQ.out (by have h := HY.out.len; have := HM.out; show yn ≤ _; change yn = _ at h; omega))
 go_wp2_with fail
 with_reducible refine O2.out.mono ?_
 rintro e w2 ⟨rfl, hb⟩
 have KG := Lib.hid (KG.out.trans (hb.mono KG.out.size))
 clear hb O2
 have ED := Lib.hid (equal_d ⟨xa, xn, xc⟩ ⟨ya, yn, yc⟩ P Q w2 (HX.out.below KG.out) (HY.out.below KG.out) HP.out HQ.out HN.out)
 go_wp2_with fail
 with_reducible refine ED.out.mono ?_
 rintro e w3 ⟨rfl, hb⟩
 have KG := Lib.hid (KG.out.trans (hb.mono KG.out.size))
 clear hb ED
 go_wp2_with fail
 go_ret
 exact ⟨rfl, KG.out⟩
set_option maxRecDepth 100000 in
set_option maxHeartbeats 16000000 in
theorem lsame_d (x y : PV) (P Q : List Tm) (w : World) (hx : KP w x P) (hy : KP w y Q) (hp : ∀ t ∈ P, LQ t.2 900000) (hq : ∀ t ∈ Q, LQ t.2 900000) (hn : P.length ≤ 1000000) : Calls Tryz.prog 15 #[x.v, y.v] w fun e w' => e = .returned (.bool (decide (P = Q))) ∧ Below w.heap.size w w' := by
 have SD := Lib.hid (same_d x y P Q w hx hy hp hq hn)
 obtain ⟨xa, xn, xc⟩ := x
 obtain ⟨ya, yn, yc⟩ := y
 change Calls Tryz.prog 15 #[.slice xa xn xc, .slice ya yn yc] w _
 clear hx hy hp hq hn
 go_enter Tryz.func15, Tryz.ntmps15
 go_wp2_with fail
 with_reducible refine SD.out.mono ?_
 rintro e w1 ⟨rfl, hb⟩
 have KG := Lib.hid hb
 clear hb SD
 go_wp2_with fail
 go_ret
 exact ⟨rfl, KG.out⟩
def moF (m : Mo) : Nat → Int := fun i => ((m.at i : Nat) : Int)
theorem moF_small {m : Mo} (h : m.Small) : Mono.Small (moF m) := fun i _ => ⟨Int.natCast_nonneg _, by have := at_small h i; unfold moF; omega⟩
def keyO (o : Int) (m : Mo) : Int := Mono.KO o (moF m)
theorem cmpZ_dec {a b : Int} : Mono.cmpZ a b > 0 ↔ b < a := by
 rcases Int.lt_trichotomy a b with h | h | h
 ·rw [Mono.cmpZ_lt h]; omega
 ·rw [Mono.cmpZ_eq h]; omega
 ·rw [Mono.cmpZ_gt h]; omega
set_option maxRecDepth 100000 in
set_option maxHeartbeats 16000000 in
theorem max_any (G : Nat) (cs : Array Value) (x : PV) (ts : List TV) (K : Mo → Int) (w : World) (hr : RT w x.a ts) (hl : ts.length = x.n) (hn : x.n ≤ 1000000) (hne : ts ≠ []) (hs : ∀ t ∈ ts, t.m.Small)
  (hcf : ∀ (args : Array Value) (w : World), (callFunc G args).run Tryz.prog w = .ok (.enter G args) w)
  (hF : ∀ t u : TV, t.m.Small → u.m.Small → ∀ w1, Below w.heap.size w w1 → Calls Tryz.prog G (#[TV.v t, TV.v u] ++ cs) w1 fun e w' => e = .returned (.int .i64 (Mono.cmpZ (K t.m) (K u.m))) ∧ Below w1.heap.size w1 w') :
  Calls Tryz.prog 46 #[x.v, .func (.func G) #[] cs] w fun e w' => ∃ t, t ∈ ts ∧ (∀ u ∈ ts, K u.m ≤ K t.m) ∧ e = .returned (TV.v t) ∧ Below w.heap.size w w' := by
 obtain ⟨xa, xn, xc⟩ := x
 change Calls Tryz.prog 46 #[.slice xa xn xc, .func (.func G) #[] cs] w _
 have HL := Lib.hid (show ts.length = xn from hl); have HN := Lib.hid (show xn ≤ 1000000 from hn); have HS := Lib.hid hs; have HF := Lib.hid hF
 obtain ⟨pb, po, rfl, hc⟩ := RT.one hr hne
 have HE := Lib.hid hc
 have HP := Lib.hid (show 0 < xn by rw [← HL.out]; exact List.length_pos_iff.2 hne)
 obtain ⟨t0, ht0⟩ : ∃ t, ts[0]? = some t := ⟨_, List.getElem?_eq_getElem (List.length_pos_iff.2 hne)⟩
 have HT0 := Lib.hid ht0
 have h1 : ¬ ((xn : Int) < 1) := by have := HP.out; omega
 obtain ⟨V, hV⟩ : ∃ V, V = w.alloc (.cells #[.bool false, .slice none 0 0, .bool false, .slice none 0 0, .int .u16 0, .int .u16 0, .int .u16 0, .int .u16 0] 40) := ⟨_, rfl⟩
 have hbV : Below w.heap.size w V := by rw [hV]; exact (Below.refl _ _).alloc (Nat.le_refl _) _
 have B4 := Lib.hid (show Bxs V w.heap.size 40 [.bool false, .slice none 0 0, .bool false, .slice none 0 0, .int .u16 0, .int .u16 0, .int .u16 0, .int .u16 0] by rw [hV]; exact Bxs.new w 40 [.bool false, .slice none 0 0, .bool false, .slice none 0 0, .int .u16 0, .int .u16 0, .int .u16 0, .int .u16 0])
 have E0 := Lib.hid ((hc 0 t0 ht0).below hbV)
 have KG := Lib.hid hbV
 have HV := Lib.hid hV
 have HP0 : (0 : Int) < (xn : Int) := by have := HP.out; omega
 clear hr hl hn hs hF hc ht0 hV hbV
 go_enter Tryz.func46, Tryz.ntmps46
 go_upto_region 1 with (fail)
 rw [show w.alloc (.cells #[.bool false, .slice none 0 0, .bool false, .slice none 0 0, .int .u16 0, .int .u16 0, .int .u16 0, .int .u16 0] 40) = V from HV.out.symm]
 obtain ⟨c0, c1, c2, c3, c4, c5, c6, c7⟩ := E0.out.eight
 simp only [Nat.zero_mul, Nat.add_zero] at c0 c1 c2 c3 c4 c5 c6 c7
 go_upto_region 4 with (fail)
 obtain ⟨U, hU⟩ : ∃ U, U = V.alloc (.cells #[.bool t0.c.t.s, .slice t0.c.t.a t0.c.t.n t0.c.t.c, .bool t0.c.l.s, .slice t0.c.l.a t0.c.l.n t0.c.l.c, .int .u16 t0.m.x, .int .u16 t0.m.y, .int .u16 t0.m.z, .int .u16 t0.m.t] 40) := ⟨_, rfl⟩
 have hbU : Below V.heap.size V U := by rw [hU]; exact (Below.refl _ _).alloc (Nat.le_refl _) _
 have B5 := Lib.hid (show Bxs U V.heap.size 40 [.bool t0.c.t.s, .slice t0.c.t.a t0.c.t.n t0.c.t.c, .bool t0.c.l.s, .slice t0.c.l.a t0.c.l.n t0.c.l.c, .int .u16 t0.m.x, .int .u16 t0.m.y, .int .u16 t0.m.z, .int .u16 t0.m.t] by rw [hU]; exact Bxs.new V 40 [.bool t0.c.t.s, .slice t0.c.t.a t0.c.t.n t0.c.t.c, .bool t0.c.l.s, .slice t0.c.l.a t0.c.l.n t0.c.l.c, .int .u16 t0.m.x, .int .u16 t0.m.y, .int .u16 t0.m.z, .int .u16 t0.m.t])
 obtain ⟨A1, hA1⟩ : ∃ A, A = w.heap.size := ⟨_, rfl⟩
 obtain ⟨A2, hA2⟩ : ∃ A, A = V.heap.size := ⟨_, rfl⟩
 have HA1 := Lib.hid (show w.heap.size ≤ A1 by omega)
 have HA2 := Lib.hid (show w.heap.size ≤ A2 by rw [hA2]; exact KG.out.size)
 have HNE := Lib.hid (show A1 ≠ A2 by have := B4.out.lt; omega)
 have B4 := Lib.hid (B4.out.below hbU B4.out.lt)
 have KG := Lib.hid (KG.out.trans (hbU.mono KG.out.size))
 rw [← hU, ← hA2, ← hA1]
 rw [← hA2] at B5
 rw [← hA1] at B4
 clear hU hbU hA1 hA2 c0 c1 c2 c3 c4 c5 c6 c7 h1 HP0
 go_wp2_with fail
 go_loopw [6] (fun i wr => ∃ (j : Nat) (t : TV), 1 ≤ j ∧ j ≤ xn ∧ i = .int .i64 j ∧ t ∈ ts ∧ (∀ i u, ts[i]? = some u → i < j → K u.m ≤ K t.m) ∧ Bxs wr A2 40 [.bool t.c.t.s, .slice t.c.t.a t.c.t.n t.c.t.c, .bool t.c.l.s, .slice t.c.l.a t.c.l.n t.c.l.c, .int .u16 t.m.x, .int .u16 t.m.y, .int .u16 t.m.z, .int .u16 t.m.t] ∧ Bxs wr A1 40 [.bool false, .slice none 0 0, .bool false, .slice none 0 0, .int .u16 0, .int .u16 0, .int .u16 0, .int .u16 0] ∧ Below w.heap.size w wr) (fun i _ => xn - (intOf i).toNat)
 case atStart =>
  refine ⟨1, t0, Nat.le_refl _, HP.out, rfl, List.mem_of_getElem? HT0.out, fun i u h1 h2 => ?_, B5.out, B4.out, KG.out⟩
  obtain rfl : i = 0 := by omega
  rw [HT0.out] at h1
  obtain rfl := Option.some.inj h1
  exact Int.le_refl _
 case round =>
  obtain ⟨j, t, hj1, hj, rfl, hmem, hmax, hB5, hB4, hb0⟩ := hrel
  have HJ1 := Lib.hid hj1; have HJ := Lib.hid hj; have HME := Lib.hid hmem; have HMX := Lib.hid hmax; have B5 := Lib.hid hB5; have B4 := Lib.hid hB4; have KG := Lib.hid hb0
  clear hj1 hj hmem hmax hB5 hB4 hb0
  by_cases hjn : j < xn
  ·have HJN := Lib.hid hjn
   obtain ⟨u, hu⟩ : ∃ u, ts[j]? = some u := ⟨_, List.getElem?_eq_getElem (by rw [HL.out]; exact hjn)⟩
   have HU := Lib.hid hu
   have E1 := Lib.hid ((HE.out j u hu).below KG.out)
   have HST := Lib.hid (HS.out t HME.out)
   have HSU := Lib.hid (HS.out u (List.mem_of_getElem? hu))
   obtain ⟨cv, hcv⟩ : ∃ c, c = Mono.cmpZ (K u.m) (K t.m) := ⟨_, rfl⟩
   have HCV := Lib.hid hcv
   have ek : IntKind.i64.wrap ((j : Int) + 1) = (j : Int) + 1 := IntWalk.i64_in _ (by have := HJN.out; have := HN.out; omega)
   clear hu hcv
   go_upto_region 7 with (fail)
   refine Go.FS.wp_region_fresh 7 [] (Go.FS.spOf [(6, Go.FS.Sp.know (.int .i64 cv))])
    (fun w' => Below wr.heap.size wr w') (by kernel_rfl) (by kernel_rfl) (by kernel_rfl)
    (Go.FS.spOf_cons (Go.FS.Sp.know_keeps _ _) (Go.FS.spOf_nil)) (fun _ _ h hb => h.trans (hb.mono h.size)) ((Below.refl _ _).drew) ?_
   simp only [List.append_eq, List.cons_append, List.nil_append, List.take_succ_cons, List.take_zero, List.drop_succ_cons, List.drop_zero]
   iterate 4
    refine Go.FS.wpF_reads rfl rfl rfl ?_ (fun w' hw' => ?_) ?_
    rotate_left
    ·have hb' := hw'.world
     skip
     clear hw'
     go_simp
     try rfl
    conv => arg 10; simp only [Act.put, Go.q0, Go.q1, Go.q2]
   refine Go.FS.wpF_reads rfl rfl rfl ?_ (fun w' hw' => ?_) ?_
   rotate_left
   ·have hb' := hw'.world
    obtain ⟨hs0, hs1, hs2, hs3, hs4, hs5, hs6, hs7⟩ := (E1.out.below hb').eight
    clear hw'
    go_simp
    try rfl
   conv => arg 10; simp only [Act.put, Go.q0, Go.q1, Go.q2]
   refine Go.FS.wpF_reads rfl rfl rfl ?_ (fun w' hw' => ?_) ?_
   rotate_left
   ·have hb' := hw'.world
    have hs0 := (B5.out.below hb' B5.out.lt).cell (i := 0) rfl
    have hs1 := (B5.out.below hb' B5.out.lt).cell (i := 1) rfl
    have hs2 := (B5.out.below hb' B5.out.lt).cell (i := 2) rfl
    have hs3 := (B5.out.below hb' B5.out.lt).cell (i := 3) rfl
    have hs4 := (B5.out.below hb' B5.out.lt).cell (i := 4) rfl
    have hs5 := (B5.out.below hb' B5.out.lt).cell (i := 5) rfl
    have hs6 := (B5.out.below hb' B5.out.lt).cell (i := 6) rfl
    have hs7 := (B5.out.below hb' B5.out.lt).cell (i := 7) rfl
    have hsf := (B5.out.below hb' B5.out.lt).fz
    have hsl := (B5.out.below hb' B5.out.lt).lt
    clear hw'
    go_simp
    try rfl
   conv => arg 10; simp only [Act.put, Go.q0, Go.q1, Go.q2]
   refine Go.FS.wpF_spec rfl rfl rfl (fun w' hw' => ?_) ?_
   ·have hb' := hw'.world
    refine Go.FS.gives_of (Go.FS.PK (.int .i64 cv)) ?_ (fun _ _ h => h.post)
    go_simp
    have CT := HF.out u t HSU.out HST.out w' (KG.out.trans (hb'.mono KG.out.size))
    rw [show Mono.cmpZ (K u.m) (K t.m) = cv from HCV.out.symm] at CT
    refine CT.mono ?_
    rintro e w'' ⟨rfl, hb⟩
    exact ⟨_, rfl, rfl, hb⟩
   rintro _ rfl
   conv => arg 10; simp only [Act.put, Go.q0, Go.q1, Go.q2]
   refine Go.FS.wpF_nil (fun w101 hb hF => ?_)
   clear hF
   have B5 := Lib.hid (B5.out.below hb B5.out.lt)
   have B4 := Lib.hid (B4.out.below hb B4.out.lt)
   have KG := Lib.hid (KG.out.trans (hb.mono KG.out.size))
   clear hb
   by_cases hcp : cv > 0
   ·have hcq : 0 < cv := hcp
    have HCP := Lib.hid hcp
    have E1 := Lib.hid ((HE.out j u HU.out).below KG.out)
    obtain ⟨c0, c1, c2, c3, c4, c5, c6, c7⟩ := E1.out.eight
    have cf := B5.out.fz
    have cl := B5.out.lt
    have c50 := B5.out.cell (i := 0) rfl
    have c51 := B5.out.cell (i := 1) rfl
    have c52 := B5.out.cell (i := 2) rfl
    have c53 := B5.out.cell (i := 3) rfl
    have c54 := B5.out.cell (i := 4) rfl
    have c55 := B5.out.cell (i := 5) rfl
    have c56 := B5.out.cell (i := 6) rfl
    have c57 := B5.out.cell (i := 7) rfl
    go_wp2_with fail
    go_roundw
    case rel =>
     refine ⟨j + 1, u, by omega, by have := HJN.out; omega, rfl, List.mem_of_getElem? HU.out, fun i v h1 h2 => ?_, put8_bxs B5.out .., ?_, put8_below KG.out HA2.out ..⟩
     ·have h3 : K t.m < K u.m := cmpZ_dec.1 (by rw [← HCV.out]; exact HCP.out)
      by_cases h4 : i < j
      ·have := HMX.out i v h1 h4; omega
      ·obtain rfl : i = j := by omega
       rw [HU.out] at h1
       obtain rfl := Option.some.inj h1
       exact Int.le_refl _
     ·exact ((((((((B4.out.other HNE.out _).other HNE.out _).other HNE.out _).other HNE.out _).other HNE.out _).other HNE.out _).other HNE.out _).other HNE.out _)
    case measure => simp [intOf]; have := HJN.out; omega
   ·have hcq : ¬ (0 < cv) := hcp
    have HCP := Lib.hid hcp
    go_wp2_with fail
    go_roundw
    case rel =>
     refine ⟨j + 1, t, by omega, by have := HJN.out; omega, rfl, HME.out, fun i v h1 h2 => ?_, B5.out, B4.out, KG.out⟩
     by_cases h4 : i < j
     ·exact HMX.out i v h1 h4
     ·obtain rfl : i = j := by omega
      rw [HU.out] at h1
      obtain rfl := Option.some.inj h1
      have h3 : ¬ (K t.m < K u.m) := fun h => HCP.out (by rw [HCV.out]; exact cmpZ_dec.2 h)
      omega
    case measure => simp [intOf]; have := HJN.out; omega
  ·have hge : ¬ ((j : Int) < (xn : Int)) := by omega
   have HJE := Lib.hid (show j = xn by have := HJ.out; omega)
   clear hjn
   have c0 := B5.out.cell (i := 0) rfl
   have c1 := B5.out.cell (i := 1) rfl
   have c2 := B5.out.cell (i := 2) rfl
   have c3 := B5.out.cell (i := 3) rfl
   have c4 := B5.out.cell (i := 4) rfl
   have c5 := B5.out.cell (i := 5) rfl
   have c6 := B5.out.cell (i := 6) rfl
   have c7 := B5.out.cell (i := 7) rfl
   have cf := B4.out.fz
   have cl := B4.out.lt
   have c40 := B4.out.cell (i := 0) rfl
   have c41 := B4.out.cell (i := 1) rfl
   have c42 := B4.out.cell (i := 2) rfl
   have c43 := B4.out.cell (i := 3) rfl
   have c44 := B4.out.cell (i := 4) rfl
   have c45 := B4.out.cell (i := 5) rfl
   have c46 := B4.out.cell (i := 6) rfl
   have c47 := B4.out.cell (i := 7) rfl
   go_wp2_with fail
   refine bodyPost_ret (results_cell rfl _ _ _ _ _ _ _ rfl (put8_bxs B4.out ..) Tryz.underlying40 rfl (by kernel_rfl)) rfl ⟨t, HME.out, fun u hu => ?_, rfl, put8_below KG.out HA1.out ..⟩
   obtain ⟨i, h⟩ := List.mem_iff_getElem?.1 hu
   exact HMX.out i u h (by have h8 := (List.getElem?_eq_some_iff.1 h).1; have h5 := HL.out; have h9 := HJE.out; omega)
set_option maxRecDepth 100000 in
set_option maxHeartbeats 4000000 in
theorem lead1_any (o : Int) (t u : TV) (w : World) (bo : Nat) (hb : Bxs w bo 30 [.int .u8 o]) (ht : t.m.Small) (hu : u.m.Small) :
  Calls Tryz.prog 47 #[TV.v t, TV.v u, .pointer (some ⟨bo, 0, none⟩)] w fun e w' => e = .returned (.int .i64 (Mono.cmpZ (keyO o t.m) (keyO o u.m))) ∧ Below w.heap.size w w' := by
 obtain ⟨V, hV⟩ : ∃ V, V = (w.alloc (.cells #[.bool t.c.t.s, .slice t.c.t.a t.c.t.n t.c.t.c, .bool t.c.l.s, .slice t.c.l.a t.c.l.n t.c.l.c, .int .u16 t.m.x, .int .u16 t.m.y, .int .u16 t.m.z, .int .u16 t.m.t] 40)).alloc (.cells #[.bool u.c.t.s, .slice u.c.t.a u.c.t.n u.c.t.c, .bool u.c.l.s, .slice u.c.l.a u.c.l.n u.c.l.c, .int .u16 u.m.x, .int .u16 u.m.y, .int .u16 u.m.z, .int .u16 u.m.t] 40) := ⟨_, rfl⟩
 have hbV : Below w.heap.size w V := by rw [hV]; exact ((Below.refl _ _).alloc (Nat.le_refl _) _).alloc (by go_size) _
 have B1 := Lib.hid (show Bxs V w.heap.size 40 [.bool t.c.t.s, .slice t.c.t.a t.c.t.n t.c.t.c, .bool t.c.l.s, .slice t.c.l.a t.c.l.n t.c.l.c, .int .u16 t.m.x, .int .u16 t.m.y, .int .u16 t.m.z, .int .u16 t.m.t] by rw [hV]; exact (Bxs.new w 40 [.bool t.c.t.s, .slice t.c.t.a t.c.t.n t.c.t.c, .bool t.c.l.s, .slice t.c.l.a t.c.l.n t.c.l.c, .int .u16 t.m.x, .int .u16 t.m.y, .int .u16 t.m.z, .int .u16 t.m.t]).alloc _)
 have B2 := Lib.hid (show Bxs V (w.heap.size + 1) 40 [.bool u.c.t.s, .slice u.c.t.a u.c.t.n u.c.t.c, .bool u.c.l.s, .slice u.c.l.a u.c.l.n u.c.l.c, .int .u16 u.m.x, .int .u16 u.m.y, .int .u16 u.m.z, .int .u16 u.m.t] by
  have h := Bxs.new (w.alloc (.cells #[.bool t.c.t.s, .slice t.c.t.a t.c.t.n t.c.t.c, .bool t.c.l.s, .slice t.c.l.a t.c.l.n t.c.l.c, .int .u16 t.m.x, .int .u16 t.m.y, .int .u16 t.m.z, .int .u16 t.m.t] 40)) 40 [.bool u.c.t.s, .slice u.c.t.a u.c.t.n u.c.t.c, .bool u.c.l.s, .slice u.c.l.a u.c.l.n u.c.l.c, .int .u16 u.m.x, .int .u16 u.m.y, .int .u16 u.m.z, .int .u16 u.m.t]
  rw [World.size_alloc] at h
  rw [hV]; exact h)
 have BO := Lib.hid (hb.below hbV hb.lt)
 have KG := Lib.hid hbV
 have HV := Lib.hid hV
 have CM := Lib.hid (show Calls Tryz.prog 48 #[.int .u8 o, Mo.v t.m, Mo.v u.m] V _ from Mono.cmp_any o (moF t.m) (moF u.m) V (moF_small ht) (moF_small hu))
 have HK := Lib.hid (Mono.cmp_key (o := o) (moF_small ht) (moF_small hu))
 clear hV hbV hb ht hu
 change Calls Tryz.prog 47 #[.agg #[.bool t.c.t.s, .slice t.c.t.a t.c.t.n t.c.t.c, .bool t.c.l.s, .slice t.c.l.a t.c.l.n t.c.l.c, .int .u16 t.m.x, .int .u16 t.m.y, .int .u16 t.m.z, .int .u16 t.m.t], .agg #[.bool u.c.t.s, .slice u.c.t.a u.c.t.n u.c.t.c, .bool u.c.l.s, .slice u.c.l.a u.c.l.n u.c.l.c, .int .u16 u.m.x, .int .u16 u.m.y, .int .u16 u.m.z, .int .u16 u.m.t], .pointer (some ⟨bo, 0, none⟩)] w _
 go_enter Tryz.func47, Tryz.ntmps47
 go_upto_region 1 with (fail)
 rw [show (w.alloc (.cells #[.bool t.c.t.s, .slice t.c.t.a t.c.t.n t.c.t.c, .bool t.c.l.s, .slice t.c.l.a t.c.l.n t.c.l.c, .int .u16 t.m.x, .int .u16 t.m.y, .int .u16 t.m.z, .int .u16 t.m.t] 40)).alloc (.cells #[.bool u.c.t.s, .slice u.c.t.a u.c.t.n u.c.t.c, .bool u.c.l.s, .slice u.c.l.a u.c.l.n u.c.l.c, .int .u16 u.m.x, .int .u16 u.m.y, .int .u16 u.m.z, .int .u16 u.m.t] 40) = V from HV.out.symm]
 have c10 := B1.out.cell (i := 0) rfl
 have c11 := B1.out.cell (i := 1) rfl
 have c12 := B1.out.cell (i := 2) rfl
 have c13 := B1.out.cell (i := 3) rfl
 have c14 := B1.out.cell (i := 4) rfl
 have c15 := B1.out.cell (i := 5) rfl
 have c16 := B1.out.cell (i := 6) rfl
 have c17 := B1.out.cell (i := 7) rfl
 have c20 := B2.out.cell (i := 0) rfl
 have c21 := B2.out.cell (i := 1) rfl
 have c22 := B2.out.cell (i := 2) rfl
 have c23 := B2.out.cell (i := 3) rfl
 have c24 := B2.out.cell (i := 4) rfl
 have c25 := B2.out.cell (i := 5) rfl
 have c26 := B2.out.cell (i := 6) rfl
 have c27 := B2.out.cell (i := 7) rfl
 have co := BO.out.cell (i := 0) rfl
 go_wp2_with fail
 with_reducible refine CM.out.mono ?_
 rintro e w1 ⟨rfl, hb⟩
 have KG := Lib.hid (KG.out.trans (hb.mono KG.out.size))
 clear hb CM c10 c11 c12 c13 c14 c15 c16 c17 c20 c21 c22 c23 c24 c25 c26 c27 co
 go_wp2_with fail
 go_ret
 refine ⟨?_, KG.out⟩
 rw [HK.out]
 rfl
set_option maxRecDepth 100000 in
set_option maxHeartbeats 16000000 in
theorem lead_k (o : Int) (x : PV) (P : List Tm) (w : World) (hx : AP w x P) (hp : ∀ t ∈ P, LQ t.2 900000) (hn : x.n ≤ 1000000) (hne : P ≠ []) :
  Calls Tryz.prog 16 #[.int .u8 o, x.v] w fun e w' => ∃ (y : FV) (t : Tm), e = .returned (.tuple #[TV.v ⟨y, t.1⟩, .bool true]) ∧ DF w' w.heap.size y t.2 ∧ Lead (keyO o) P t ∧ Below w.heap.size w w' := by
 obtain ⟨V0, hV⟩ : ∃ V, V = (w.alloc (.cells #[.int .u8 o] 30)).alloc (.cells #[.bool false, .slice none 0 0, .bool false, .slice none 0 0, .int .u16 0, .int .u16 0, .int .u16 0, .int .u16 0] 40) := ⟨_, rfl⟩
 have hbV : Below w.heap.size w V0 := by rw [hV]; exact ((Below.refl _ _).alloc (Nat.le_refl _) _).alloc (by go_size) _
 have BO := Lib.hid (show Bxs V0 w.heap.size 30 [.int .u8 o] by rw [hV]; exact (Bxs.new w 30 [.int .u8 o]).alloc _)
 have B4 := Lib.hid (show Bxs V0 (w.heap.size + 1) 40 [.bool false, .slice none 0 0, .bool false, .slice none 0 0, .int .u16 0, .int .u16 0, .int .u16 0, .int .u16 0] by
  have h := Bxs.new (w.alloc (.cells #[.int .u8 o] 30)) 40 [.bool false, .slice none 0 0, .bool false, .slice none 0 0, .int .u16 0, .int .u16 0, .int .u16 0, .int .u16 0]
  rw [World.size_alloc] at h
  rw [hV]; exact h)
 have OF := Lib.hid (of_at hx hbV hp (by omega))
 have HP := Lib.hid hp; have HN := Lib.hid hn; have HNE := Lib.hid hne
 have KG := Lib.hid hbV
 have HV := Lib.hid hV
 obtain ⟨A4, hA4⟩ : ∃ A, A = w.heap.size + 1 := ⟨_, rfl⟩
 have HA4 := Lib.hid (show w.heap.size ≤ A4 by omega)
 rw [← hA4] at B4
 have HA5 := Lib.hid hA4
 obtain ⟨xa, xn, xc⟩ := x
 change Calls Tryz.prog 16 #[.int .u8 o, .slice xa xn xc] w _
 clear hV hbV hx hp hn hne hA4
 go_enter Tryz.func16, Tryz.ntmps16
 go_upto_region 1 with (fail)
 rw [show (w.alloc (.cells #[.int .u8 o] 30)).alloc (.cells #[.bool false, .slice none 0 0, .bool false, .slice none 0 0, .int .u16 0, .int .u16 0, .int .u16 0, .int .u16 0] 40) = V0 from HV.out.symm, show w.heap.size + 1 = A4 from HA5.out.symm]
 go_wp2_with fail
 with_reducible refine OF.out.mono ?_
 rintro e w1 ⟨⟨pa, pn, pc⟩, he, hkp, hpn, hb⟩
 obtain rfl : e = .returned (.slice pa pn pc) := he
 have BO := Lib.hid (BO.out.below hb BO.out.lt)
 have B4 := Lib.hid (B4.out.below hb B4.out.lt)
 have KG := Lib.hid (KG.out.trans (hb.mono KG.out.size))
 have HX := Lib.hid hkp
 obtain ⟨L, g1, g2, g3, g4⟩ := hkp.ex
 have g2 : L.length = pn := g2
 have hlne : L ≠ [] := fun h => HNE.out (by rw [← g4, h]; rfl)
 have hne2 : L.map Prod.fst ≠ [] := fun h => hlne (List.map_eq_nil_iff.1 h)
 have h0 : ¬ ((pn : Int) = 0) := by have := List.length_pos_iff.2 hlne; omega
 have T1 := Lib.hid g4; have F1 := Lib.hid g3
 have hcf : ∀ (args : Array Value) (w : World), (callFunc 47 args).run Tryz.prog w = .ok (.enter 47 args) w := fun _ _ => by kernel_rfl
 have MX := Lib.hid (max_any 47 #[.pointer (some ⟨w.heap.size, 0, none⟩)] ⟨pa, pn, pc⟩ (L.map Prod.fst) (keyO o) w1 (g1.below KG.out) (by rw [List.length_map]; exact g2) (Nat.le_trans hpn HN.out) hne2
  (fun t ht => by
   obtain ⟨e, he, rfl⟩ := List.mem_map.1 ht
   exact HX.out.small (tm e) (by rw [← g4]; exact List.mem_map_of_mem he))
  hcf (fun t u ht hu w2 hb2 => lead1_any o t u w2 w.heap.size (BO.out.below hb2 BO.out.lt) ht hu))
 clear hkp hpn hb g1 g2 g3 g4 OF hlne hne2 hcf
 go_wp2_with fail
 with_reducible refine MX.out.mono ?_
 rintro e w2 ⟨t, htm, htx, rfl, hb⟩
 have B4 := Lib.hid (B4.out.below hb B4.out.lt)
 have KG := Lib.hid (KG.out.trans (hb.mono KG.out.size))
 obtain ⟨⟨t', q⟩, he, e1⟩ := List.mem_map.1 htm
 obtain rfl : t' = t := e1
 have hmem : (t'.m, q) ∈ P := by rw [← T1.out]; exact List.mem_map_of_mem he
 have HLD := Lib.hid (show Lead (keyO o) P (t'.m, q) from ⟨hmem, fun s hs => by
  rw [← T1.out] at hs
  obtain ⟨e, he, rfl⟩ := List.mem_map.1 hs
  exact htx e.1 (List.mem_map_of_mem he)⟩)
 have LQq := Lib.hid (HP.out _ hmem)
 have NT0 := Lib.hid (F1.out _ he)
 obtain ⟨t, ht⟩ : ∃ t, t = t' := ⟨_, rfl⟩
 rw [← ht] at HLD NT0 ⊢
 clear htm htx hb he hmem MX ht h0
 have c40 := B4.out.cell (i := 0) rfl
 have c41 := B4.out.cell (i := 1) rfl
 have c42 := B4.out.cell (i := 2) rfl
 have c43 := B4.out.cell (i := 3) rfl
 have c44 := B4.out.cell (i := 4) rfl
 have c45 := B4.out.cell (i := 5) rfl
 have c46 := B4.out.cell (i := 6) rfl
 have c47 := B4.out.cell (i := 7) rfl
 have c4f := B4.out.fz
 have c4l := B4.out.lt
 go_upto_region 5 with (fail)
 clear c40 c41 c42 c43 c44 c45 c46 c47 c4f c4l
 obtain ⟨V, hV⟩ : ∃ V, V = put8 w2 A4 (.bool t.c.t.s) (.slice t.c.t.a t.c.t.n t.c.t.c) (.bool t.c.l.s) (.slice t.c.l.a t.c.l.n t.c.l.c) (.int .u16 t.m.x) (.int .u16 t.m.y) (.int .u16 t.m.z) (.int .u16 t.m.t) := ⟨_, rfl⟩
 have B4 := Lib.hid (show Bxs V A4 40 [.bool t.c.t.s, .slice t.c.t.a t.c.t.n t.c.t.c, .bool t.c.l.s, .slice t.c.l.a t.c.l.n t.c.l.c, .int .u16 t.m.x, .int .u16 t.m.y, .int .u16 t.m.z, .int .u16 t.m.t] by rw [hV]; exact put8_bxs B4.out ..)
 have KG := Lib.hid (show Below w.heap.size w V by rw [hV]; exact put8_below KG.out HA4.out ..)
 unfold put8 at hV
 rw [← hV]
 have NT := Lib.hid (show KF V t.c q from NT0.out.below KG.out)
 have HSZ := Lib.hid (show w.heap.size ≤ V.heap.size from KG.out.size)
 clear hV NT0
 obtain ⟨q101, hq101⟩ : ∃ z : Rat, z = ((1 : Int) : Rat) := ⟨_, rfl⟩
 have Hq101 := Lib.hid hq101
 have LQq101 := Lib.hid (show LQ q101 3 by rw [hq101]; exact LQ.int (by decide) (by decide))
 clear hq101
 obtain ⟨q102, hq102⟩ : ∃ z : Rat, z = q * q101 := ⟨_, rfl⟩
 have Hq102 := Lib.hid hq102
 have LQq102 := Lib.hid (show LQ q102 1800000 by rw [hq102]; exact LQ.mul (LQq.out.up (by decide : _ ≤ 900000)) (LQq101.out.up (by decide : _ ≤ 900000)) (by decide))
 clear hq102
 go_upto_region 5 with (fail)
 refine Go.FS.wp_region_fresh 7 [] (Go.FS.spOf [(2, Go.FS.Sp.made (fun x : FV => x.v) (fun x w' => DF w' V.heap.size x q101) FV.blk), (3, Go.FS.Sp.made (fun x : FV => x.v) (fun x w' => DF w' V.heap.size x q102) FV.blk)])
  (fun w' => Below V.heap.size V w') (by kernel_rfl) (by kernel_rfl) (by kernel_rfl)
  (Go.FS.spOf_cons (Go.FS.Sp.made_keeps _ (fun _ _ _ h _ hk => h.kept hk) (Go.FS.notTaken (by kernel_rfl))) (Go.FS.spOf_cons (Go.FS.Sp.made_keeps _ (fun _ _ _ h _ hk => h.kept hk) (Go.FS.notTaken (by kernel_rfl))) (Go.FS.spOf_nil))) (fun _ _ h hb => h.trans (hb.mono h.size)) ((Below.refl _ _).drew) ?_
 simp only [List.append_eq, List.cons_append, List.nil_append, List.take_succ_cons, List.take_zero, List.drop_succ_cons, List.drop_zero]
 refine Go.FS.wpF_reads rfl rfl rfl ?_ (fun w' hw' => ?_) ?_
 rotate_left
 ·have hb' := hw'.world
  skip
  clear hw'
  go_simp
  try rfl
 conv => arg 10; simp only [Act.put, Go.q0, Go.q1, Go.q2]
 refine Go.FS.wpF_reads rfl rfl rfl ?_ (fun w' hw' => ?_) ?_
 rotate_left
 ·have hb' := hw'.world
  have hs0 := (B4.out.below hb' B4.out.lt).cell (i := 0) rfl
  have hs1 := (B4.out.below hb' B4.out.lt).cell (i := 1) rfl
  have hs2 := (B4.out.below hb' B4.out.lt).cell (i := 2) rfl
  have hs3 := (B4.out.below hb' B4.out.lt).cell (i := 3) rfl
  have hs4 := (B4.out.below hb' B4.out.lt).cell (i := 4) rfl
  have hs5 := (B4.out.below hb' B4.out.lt).cell (i := 5) rfl
  have hs6 := (B4.out.below hb' B4.out.lt).cell (i := 6) rfl
  have hs7 := (B4.out.below hb' B4.out.lt).cell (i := 7) rfl
  have hsf := (B4.out.below hb' B4.out.lt).fz
  have hsl := (B4.out.below hb' B4.out.lt).lt
  clear hw'
  go_simp
  try rfl
 conv => arg 10; simp only [Act.put, Go.q0, Go.q1, Go.q2]
 refine Go.FS.wpF_spec rfl rfl rfl (fun w' hw' => ?_) ?_
 ·have hb' := hw'.world
  refine Go.FS.gives_of (Go.FS.PM (fun x : FV => x.v) (fun x w' => DF w' V.heap.size x q101) FV.blk w'.heap.size) ?_ (fun _ _ h => h.post (fun _ _ => FV.inj))
  go_simp
  have CT := qof 1 w' (by decide) (by decide)
  rw [show ((1 : Int) : Rat) = q101 from Hq101.out.symm] at CT
  refine CT.mono ?_
  rintro e w'' ⟨za, rfl, ho, hb⟩
  exact ⟨_, rfl, ⟨za, rfl, ho.mono hb'.size, ho.blks⟩, hb⟩
 rintro _ ⟨y2, rfl⟩
 conv => arg 10; simp only [Act.put, Go.q0, Go.q1, Go.q2]
 refine Go.FS.wpF_spec rfl rfl rfl (fun w' hw' => ?_) ?_
 ·have hb' := hw'.world
  refine Go.FS.gives_of (Go.FS.PM (fun x : FV => x.v) (fun x w' => DF w' V.heap.size x q102) FV.blk w'.heap.size) ?_ (fun _ _ h => h.post (fun _ _ => FV.inj))
  go_simp
  have f2 := Go.FS.made_of (val := (fun x : FV => x.v)) (Φ := fun x w' => DF w' V.heap.size x q101) (fun _ _ => FV.inj) (hw'.fact 2 (by kernel_rfl))
  have CT := qmul ((NT.out.below hb')).any (((NT.out.below hb')).len LQq.out (by decide : _ ≤ 900000)) (f2).k.any (((f2).k).len LQq101.out (by decide : _ ≤ 900000))
  rw [show q * q101 = q102 from Hq102.out.symm] at CT
  refine CT.mono ?_
  rintro e w'' ⟨za, rfl, ho, hb⟩
  exact ⟨_, rfl, ⟨za, rfl, ho.mono hb'.size, ho.blks⟩, hb⟩
 rintro _ ⟨y3, rfl⟩
 conv => arg 10; simp only [Act.put, Go.q0, Go.q1, Go.q2]
 refine Go.FS.wpF_reads rfl rfl rfl ?_ (fun w' hw' => ?_) ?_
 rotate_left
 ·have hb' := hw'.world
  skip
  clear hw'
  go_simp
  try rfl
 conv => arg 10; simp only [Act.put, Go.q0, Go.q1, Go.q2]
 refine Go.FS.wpF_reads rfl rfl rfl ?_ (fun w' hw' => ?_) ?_
 rotate_left
 ·have hb' := hw'.world
  have hs0 := (B4.out.below hb' B4.out.lt).cell (i := 0) rfl
  have hs1 := (B4.out.below hb' B4.out.lt).cell (i := 1) rfl
  have hs2 := (B4.out.below hb' B4.out.lt).cell (i := 2) rfl
  have hs3 := (B4.out.below hb' B4.out.lt).cell (i := 3) rfl
  have hs4 := (B4.out.below hb' B4.out.lt).cell (i := 4) rfl
  have hs5 := (B4.out.below hb' B4.out.lt).cell (i := 5) rfl
  have hs6 := (B4.out.below hb' B4.out.lt).cell (i := 6) rfl
  have hs7 := (B4.out.below hb' B4.out.lt).cell (i := 7) rfl
  have hsf := (B4.out.below hb' B4.out.lt).fz
  have hsl := (B4.out.below hb' B4.out.lt).lt
  clear hw'
  go_simp
  try rfl
 conv => arg 10; simp only [Act.put, Go.q0, Go.q1, Go.q2]
 refine Go.FS.wpF_reads rfl rfl rfl ?_ (fun w' hw' => ?_) ?_
 rotate_left
 ·have hb' := hw'.world
  skip
  clear hw'
  go_simp
  try rfl
 conv => arg 10; simp only [Act.put, Go.q0, Go.q1, Go.q2]
 refine Go.FS.wpF_nil (fun w103 hb hF => ?_)
 have N104 := Lib.hid (show DF w103 V.heap.size y3 q102 from (Go.FS.made_of (val := (fun x : FV => x.v)) (Φ := fun x w' => DF w' V.heap.size x q102) (fun _ _ => FV.inj) (hF.all 3)))
 clear hF
 have NT := Lib.hid (NT.out.below hb)
 have B4 := Lib.hid (B4.out.below hb B4.out.lt)
 have KG := Lib.hid (KG.out.trans (hb.mono KG.out.size))
 clear hb
 have HQ := Lib.hid (show q102 = q by rw [Hq102.out, Hq101.out]; grind)
 have HD := Lib.hid (show DF (put8 w103 A4 (.bool y3.t.s) (.slice y3.t.a y3.t.n y3.t.c) (.bool y3.l.s) (.slice y3.l.a y3.l.n y3.l.c) (.int .u16 t.m.x) (.int .u16 t.m.y) (.int .u16 t.m.z) (.int .u16 t.m.t)) w.heap.size y3 q from by rw [← HQ.out]; exact put8_df (N104.out.mono HSZ.out) B4.out (by decide) ..)
 have HB := Lib.hid (show Below w.heap.size w (put8 w103 A4 (.bool y3.t.s) (.slice y3.t.a y3.t.n y3.t.c) (.bool y3.l.s) (.slice y3.l.a y3.l.n y3.l.c) (.int .u16 t.m.x) (.int .u16 t.m.y) (.int .u16 t.m.z) (.int .u16 t.m.t)) from put8_below KG.out HA4.out ..)
 have c40 := B4.out.cell (i := 0) rfl
 have c41 := B4.out.cell (i := 1) rfl
 have c42 := B4.out.cell (i := 2) rfl
 have c43 := B4.out.cell (i := 3) rfl
 have c44 := B4.out.cell (i := 4) rfl
 have c45 := B4.out.cell (i := 5) rfl
 have c46 := B4.out.cell (i := 6) rfl
 have c47 := B4.out.cell (i := 7) rfl
 have c4f := B4.out.fz
 have c4l := B4.out.lt
 go_wp2_with fail
 exact bodyPost_ret (results_ct rfl _ _ _ _ _ _ _ rfl (put8_bxs B4.out ..) Tryz.underlying40 rfl (by kernel_rfl)) rfl ⟨y3, (t.m, q), rfl, HD.out, HLD.out, HB.out⟩
set_option maxRecDepth 100000 in
set_option maxHeartbeats 4000000 in
theorem lead_nil (o : Int) (x : PV) (w : World) (hx : AP w x []) (hn : x.n ≤ 1000000) :
  Calls Tryz.prog 16 #[.int .u8 o, x.v] w fun e w' => e = .returned (.tuple #[.agg #[.bool false, .slice none 0 0, .bool false, .slice none 0 0, .int .u16 0, .int .u16 0, .int .u16 0, .int .u16 0], .bool false]) ∧ Below w.heap.size w w' := by
 obtain ⟨V0, hV⟩ : ∃ V, V = (w.alloc (.cells #[.int .u8 o] 30)).alloc (.cells #[.bool false, .slice none 0 0, .bool false, .slice none 0 0, .int .u16 0, .int .u16 0, .int .u16 0, .int .u16 0] 40) := ⟨_, rfl⟩
 have hbV : Below w.heap.size w V0 := by rw [hV]; exact ((Below.refl _ _).alloc (Nat.le_refl _) _).alloc (by go_size) _
 have B4 := Lib.hid (show Bxs V0 (w.heap.size + 1) 40 [.bool false, .slice none 0 0, .bool false, .slice none 0 0, .int .u16 0, .int .u16 0, .int .u16 0, .int .u16 0] by
  have h := Bxs.new (w.alloc (.cells #[.int .u8 o] 30)) 40 [.bool false, .slice none 0 0, .bool false, .slice none 0 0, .int .u16 0, .int .u16 0, .int .u16 0, .int .u16 0]
  rw [World.size_alloc] at h
  rw [hV]; exact h)
 have OF := Lib.hid (of_at hx hbV (fun t ht => by cases ht) (by omega))
 have KG := Lib.hid hbV
 have HV := Lib.hid hV
 obtain ⟨A4, hA4⟩ : ∃ A, A = w.heap.size + 1 := ⟨_, rfl⟩
 have HA4 := Lib.hid (show w.heap.size ≤ A4 by omega)
 rw [← hA4] at B4
 have HA5 := Lib.hid hA4
 obtain ⟨xa, xn, xc⟩ := x
 change Calls Tryz.prog 16 #[.int .u8 o, .slice xa xn xc] w _
 clear hV hbV hx hn hA4
 go_enter Tryz.func16, Tryz.ntmps16
 go_upto_region 1 with (fail)
 rw [show (w.alloc (.cells #[.int .u8 o] 30)).alloc (.cells #[.bool false, .slice none 0 0, .bool false, .slice none 0 0, .int .u16 0, .int .u16 0, .int .u16 0, .int .u16 0] 40) = V0 from HV.out.symm, show w.heap.size + 1 = A4 from HA5.out.symm]
 go_wp2_with fail
 with_reducible refine OF.out.mono ?_
 rintro e w1 ⟨⟨pa, pn, pc⟩, he, hkp, hpn, hb⟩
 obtain rfl : e = .returned (.slice pa pn pc) := he
 have B4 := Lib.hid (B4.out.below hb B4.out.lt)
 have KG := Lib.hid (KG.out.trans (hb.mono KG.out.size))
 have h0 := hkp.len
 obtain rfl : pn = 0 := h0
 clear hkp hpn hb OF
 have c40 := B4.out.cell (i := 0) rfl
 have c41 := B4.out.cell (i := 1) rfl
 have c42 := B4.out.cell (i := 2) rfl
 have c43 := B4.out.cell (i := 3) rfl
 have c44 := B4.out.cell (i := 4) rfl
 have c45 := B4.out.cell (i := 5) rfl
 have c46 := B4.out.cell (i := 6) rfl
 have c47 := B4.out.cell (i := 7) rfl
 have c4f := B4.out.fz
 have c4l := B4.out.lt
 go_wp2_with fail
 exact bodyPost_ret (results_ct rfl _ _ _ _ _ _ _ rfl (put8_bxs B4.out ..) Tryz.underlying40 rfl (by kernel_rfl)) rfl ⟨rfl, put8_below KG.out HA4.out ..⟩
def put4 (w : World) (b : Nat) (v0 v1 v2 v3 : Value) : World := (((w.setCell ⟨b, 0, none⟩ v0).setCell ⟨b, 1, none⟩ v1).setCell ⟨b, 2, none⟩ v2).setCell ⟨b, 3, none⟩ v3
theorem put4_bxs {w : World} {b : Nat} {t : TypeId} {u0 u1 u2 u3 : Value} (h : Bxs w b t [u0, u1, u2, u3]) (v0 v1 v2 v3 : Value) : Bxs (put4 w b v0 v1 v2 v3) b t [v0, v1, v2, v3] := (((h.put 0 v0).put 1 v1).put 2 v2).put 3 v3
theorem put4_other {w : World} {b g : Nat} {t : TypeId} {l : List Value} (h : Bxs w g t l) (hn : g ≠ b) (v0 v1 v2 v3 : Value) : Bxs (put4 w b v0 v1 v2 v3) g t l := (((h.other (a := ⟨b, 0, none⟩) hn v0).other (a := ⟨b, 1, none⟩) hn v1).other (a := ⟨b, 2, none⟩) hn v2).other (a := ⟨b, 3, none⟩) hn v3
theorem put4_df {w : World} {lo b : Nat} {x : FV} {q : Rat} {t : TypeId} {u0 u1 u2 u3 : Value} (h : DF w lo x q) (hb : Bxs w b t [u0, u1, u2, u3]) (ht : 122 ≠ t) (v0 v1 v2 v3 : Value) : DF (put4 w b v0 v1 v2 v3) lo x q :=
 (((h.setBxs hb ht 0 v0).setBxs (hb.put 0 v0) ht 1 v1).setBxs ((hb.put 0 v0).put 1 v1) ht 2 v2).setBxs (((hb.put 0 v0).put 1 v1).put 2 v2) ht 3 v3
theorem put4_kf {w : World} {b : Nat} {x : FV} {q : Rat} {t : TypeId} {u0 u1 u2 u3 : Value} (h : KF w x q) (hb : Bxs w b t [u0, u1, u2, u3]) (n0 : notInt u0 = true) (n1 : notInt u1 = true) (n2 : notInt u2 = true) (n3 : notInt u3 = true) {v0 v1 v2 v3 : Value} (m0 : notInt v0 = true) (m1 : notInt v1 = true) (m2 : notInt v2 = true) : KF (put4 w b v0 v1 v2 v3) x q :=
 (((h.setBxs hb (by simp [n0, n1, n2, n3]) 0 v0).setBxs (hb.put 0 v0) (by simp [m0, n1, n2, n3]) 1 v1).setBxs ((hb.put 0 v0).put 1 v1) (by simp [m0, m1, n2, n3]) 2 v2).setBxs (((hb.put 0 v0).put 1 v1).put 2 v2) (by simp [m0, m1, m2, n3]) 3 v3
theorem put4_below {B : Nat} {u w : World} {b : Nat} (h : Below B u w) (hb : B ≤ b) (v0 v1 v2 v3 : Value) : Below B u (put4 w b v0 v1 v2 v3) := (((h.setCell hb v0).setCell hb v1).setCell hb v2).setCell hb v3
theorem and1_u16 (e : Nat) (h : e ≤ 65535) : bits BinOp.and IntKind.u16 (e : Int) 1 = ((e % 2 : Nat) : Int) := by
 have h2 := bits_mask .u16 16 (by decide) wraps_u16 1 (by decide) (e : Int) (by omega) (by omega)
 have e1 : ((2 : Int) ^ 1 - 1) = 1 := by decide
 rw [e1] at h2
 rw [h2]
 omega
theorem rat_pow_lq {q : Rat} {k : Nat} (h : LQ q k) : ∀ m : Nat, LQ (q ^ m) (m * k + 1)
 | 0 => by
  have h1 : LQ ((1 : Int) : Rat) 1 := by constructor <;> decide +kernel
  rw [Rat.pow_zero, Nat.zero_mul, Nat.zero_add]
  exact h1
 | m + 1 => by
  rw [Rat.pow_succ]
  exact ((rat_pow_lq h m).ls.mul h.ls).lq (by rw [Nat.add_mul]; omega) (by rw [Nat.add_mul]; omega)
set_option maxRecDepth 100000 in
set_option maxHeartbeats 16000000 in
theorem power_any (x : FV) (q : Rat) (n k : Nat) (w : World) (hx : KF w x q) (hq : LQ q k) (hn : n ≤ 65535) (hk : n * k + 1 ≤ 900000) :
  Calls Tryz.prog 62 #[x.v, .int .u16 (n : Int)] w (RF w (q ^ n)) := by
 obtain ⟨V0, hV⟩ : ∃ V, V = (w.alloc (.cells #[.bool x.t.s, .slice x.t.a x.t.n x.t.c, .bool x.l.s, .slice x.l.a x.l.n x.l.c] 35)).alloc (.cells #[.bool false, .slice none 0 0, .bool false, .slice none 0 0] 35) := ⟨_, rfl⟩
 have hbV : Below w.heap.size w V0 := by rw [hV]; exact ((Below.refl _ _).alloc (Nat.le_refl _) _).alloc (by go_size) _
 have B2 := Lib.hid (show Bxs V0 w.heap.size 35 [.bool x.t.s, .slice x.t.a x.t.n x.t.c, .bool x.l.s, .slice x.l.a x.l.n x.l.c] by rw [hV]; exact (Bxs.new w 35 [.bool x.t.s, .slice x.t.a x.t.n x.t.c, .bool x.l.s, .slice x.l.a x.l.n x.l.c]).alloc _)
 have B4 := Lib.hid (show Bxs V0 (w.heap.size + 1) 35 [.bool false, .slice none 0 0, .bool false, .slice none 0 0] by
  have h := Bxs.new (w.alloc (.cells #[.bool x.t.s, .slice x.t.a x.t.n x.t.c, .bool x.l.s, .slice x.l.a x.l.n x.l.c] 35)) 35 [.bool false, .slice none 0 0, .bool false, .slice none 0 0]
  rw [World.size_alloc] at h
  rw [hV]; exact h)
 have OF := Lib.hid (qof 1 V0 (by decide) (by decide))
 have NX := Lib.hid hx; have HQ := Lib.hid hq; have HN := Lib.hid hn; have HK := Lib.hid hk
 have HL := Lib.hid (show ∀ m, m ≤ n → LQ (q ^ m) 900000 from fun m hm => (rat_pow_lq hq m).up (by have := Nat.mul_le_mul_right k hm; omega))
 have KG := Lib.hid hbV
 have HV := Lib.hid hV
 obtain ⟨A2, hA2⟩ : ∃ A, A = w.heap.size := ⟨_, rfl⟩
 obtain ⟨A4, hA4⟩ : ∃ A, A = w.heap.size + 1 := ⟨_, rfl⟩
 have HA2 := Lib.hid (show w.heap.size ≤ A2 by omega)
 have HA4 := Lib.hid (show w.heap.size ≤ A4 by omega)
 have HN24 := Lib.hid (show A2 ≠ A4 by omega)
 rw [← hA4] at B4
 rw [← hA2] at B2
 have HE4 := Lib.hid hA4; have HE2 := Lib.hid hA2
 change Calls Tryz.prog 62 #[.agg #[.bool x.t.s, .slice x.t.a x.t.n x.t.c, .bool x.l.s, .slice x.l.a x.l.n x.l.c], .int .u16 (n : Int)] w _
 clear hV hbV hx hq hn hk hA4 hA2
 go_enter Tryz.func62, Tryz.ntmps62
 go_upto_region 1 with (fail)
 rw [show (w.alloc (.cells #[.bool x.t.s, .slice x.t.a x.t.n x.t.c, .bool x.l.s, .slice x.l.a x.l.n x.l.c] 35)).alloc (.cells #[.bool false, .slice none 0 0, .bool false, .slice none 0 0] 35) = V0 from HV.out.symm, show w.heap.size + 1 = A4 from HE4.out.symm, show w.heap.size = A2 from HE2.out.symm]
 go_wp2_with fail
 with_reducible refine OF.out.mono ?_
 rintro e w1 ⟨y, rfl, hy, hb⟩
 have HY0 := Lib.hid hy
 have B2 := Lib.hid (B2.out.below hb B2.out.lt)
 have B4 := Lib.hid (B4.out.below hb B4.out.lt)
 have KG := Lib.hid (KG.out.trans (hb.mono KG.out.size))
 have HSZ := Lib.hid (show w.heap.size ≤ V0.heap.size by rw [HV.out]; simp; omega)
 clear hy hb OF
 go_upto_region 2 with (fail)
 obtain ⟨V, hV⟩ : ∃ V, V = w1.alloc (.cells #[.bool y.t.s, .slice y.t.a y.t.n y.t.c, .bool y.l.s, .slice y.l.a y.l.n y.l.c] 35) := ⟨_, rfl⟩
 have hbV : Below w1.heap.size w1 V := by rw [hV]; exact (Below.refl _ _).alloc (Nat.le_refl _) _
 have B5 := Lib.hid (show Bxs V w1.heap.size 35 [.bool y.t.s, .slice y.t.a y.t.n y.t.c, .bool y.l.s, .slice y.l.a y.l.n y.l.c] by rw [hV]; exact Bxs.new w1 35 [.bool y.t.s, .slice y.t.a y.t.n y.t.c, .bool y.l.s, .slice y.l.a y.l.n y.l.c])
 obtain ⟨A5, hA5⟩ : ∃ A, A = w1.heap.size := ⟨_, rfl⟩
 have HN25 := Lib.hid (show A2 ≠ A5 by have := B2.out.lt; omega)
 have HN45 := Lib.hid (show A4 ≠ A5 by have := B4.out.lt; omega)
 have HA5 := Lib.hid (show w.heap.size ≤ A5 by have := KG.out.size; omega)
 have B2 := Lib.hid (B2.out.below hbV B2.out.lt)
 have B4 := Lib.hid (B4.out.below hbV B4.out.lt)
 have KG := Lib.hid (KG.out.trans (hbV.mono KG.out.size))
 have HY := Lib.hid (show DF V w.heap.size y (q ^ 0) from by rw [Rat.pow_zero]; exact (HY0.out.below hbV).mono HSZ.out)
 have NX := Lib.hid (NX.out.below KG.out)
 rw [← hV, ← hA5]
 rw [← hA5] at B5
 clear hV hbV hA5 HY0
 go_loopw [1] (fun s wr => ∃ (j m e : Nat) (xa xr : FV), s = .int .u16 (e : Int) ∧ j + m * e = n ∧ (e = 0 ∨ m ≤ n) ∧ j ≤ n ∧ e ≤ n ∧ KF wr xa (q ^ m) ∧ DF wr w.heap.size xr (q ^ j) ∧ Bxs wr A2 35 [.bool xa.t.s, .slice xa.t.a xa.t.n xa.t.c, .bool xa.l.s, .slice xa.l.a xa.l.n xa.l.c] ∧ Bxs wr A5 35 [.bool xr.t.s, .slice xr.t.a xr.t.n xr.t.c, .bool xr.l.s, .slice xr.l.a xr.l.n xr.l.c] ∧ Bxs wr A4 35 [.bool false, .slice none 0 0, .bool false, .slice none 0 0] ∧ Below w.heap.size w wr) (fun s _ => (intOf s).toNat)
 case atStart =>
  refine ⟨0, 1, n, x, y, rfl, by omega, by omega, by omega, Nat.le_refl _, ?_, HY.out, B2.out, B5.out, B4.out, KG.out⟩
  rw [Rat.pow_succ, Rat.pow_zero, Rat.one_mul]; exact NX.out
 case round =>
  obtain ⟨j, m, e, xa, xr, rfl, hje, hm0, hj, hen, ha, hr, hB2, hB5, hB4, hb0⟩ := hrel
  have HJE := Lib.hid hje; have HM0 := Lib.hid hm0; have HEN := Lib.hid hen; have HJ := Lib.hid hj; have NA := Lib.hid ha; have NR := Lib.hid hr
  have B2 := Lib.hid hB2; have B5 := Lib.hid hB5; have B4 := Lib.hid hB4; have KG := Lib.hid hb0
  clear hje hm0 hen hj ha hr hB2 hB5 hB4 hb0
  by_cases he0 : 0 < e
  ·have h1 : (0 : Int) < (e : Int) := by omega
   have HM := Lib.hid (show m ≤ n from HM0.out.elim (fun h => absurd h (by omega)) id)
   have HE6 := Lib.hid (show e ≤ 65535 from Nat.le_trans HEN.out HN.out)
   have eb := and1_u16 e HE6.out
   by_cases hodd : e % 2 = 1
   ·have g0 : ((e : Int) % 2 == 1) = true := by simp; omega
    have HJM := Lib.hid (show j + m ≤ n by have h := HJE.out; have h2 := Nat.le_mul_of_pos_right m he0; omega)
    have MU := Lib.hid (qmul NR.out.k.any (NR.out.k.len (HL.out _ HJ.out) (Nat.le_refl _)) NA.out.any (NA.out.len (HL.out _ HM.out) (Nat.le_refl _)))
    have c50 := B5.out.cell (i := 0) rfl
    have c51 := B5.out.cell (i := 1) rfl
    have c52 := B5.out.cell (i := 2) rfl
    have c53 := B5.out.cell (i := 3) rfl
    have c5f := B5.out.fz
    have c5l := B5.out.lt
    have c20 := B2.out.cell (i := 0) rfl
    have c21 := B2.out.cell (i := 1) rfl
    have c22 := B2.out.cell (i := 2) rfl
    have c23 := B2.out.cell (i := 3) rfl
    have c2f := B2.out.fz
    have c2l := B2.out.lt
    go_wp2_with fail
    with_reducible refine MU.out.mono ?_
    rintro _ w2 ⟨y2, rfl, hy, hb⟩
    have B2 := Lib.hid (B2.out.below hb B2.out.lt)
    have B4 := Lib.hid (B4.out.below hb B4.out.lt)
    have B5 := Lib.hid (B5.out.below hb B5.out.lt)
    have NA := Lib.hid (NA.out.below hb)
    have NR := Lib.hid (show DF w2 w.heap.size y2 (q ^ (j + m)) from by rw [rat_pow_add]; exact hy.mono KG.out.size)
    have KG := Lib.hid (KG.out.trans (hb.mono KG.out.size))
    clear hy hb MU
    clear c50 c51 c52 c53 c5f c5l
    clear c20 c21 c22 c23 c2f c2l
    have c50 := B5.out.cell (i := 0) rfl
    have c51 := B5.out.cell (i := 1) rfl
    have c52 := B5.out.cell (i := 2) rfl
    have c53 := B5.out.cell (i := 3) rfl
    have c5f := B5.out.fz
    have c5l := B5.out.lt
    go_upto_region 6 with (fail)
    clear c50 c51 c52 c53 c5f c5l
    obtain ⟨U, hU⟩ : ∃ U, U = put4 w2 A5 (.bool y2.t.s) (.slice y2.t.a y2.t.n y2.t.c) (.bool y2.l.s) (.slice y2.l.a y2.l.n y2.l.c) := ⟨_, rfl⟩
    have NR := Lib.hid (show DF U w.heap.size y2 _ by rw [hU]; exact put4_df NR.out B5.out (by decide) ..)
    have NA := Lib.hid (show KF U xa _ by rw [hU]; exact put4_kf NA.out B5.out rfl rfl rfl rfl rfl rfl rfl)
    have B2 := Lib.hid (show Bxs U A2 35 _ by rw [hU]; exact put4_other B2.out HN25.out ..)
    have B4 := Lib.hid (show Bxs U A4 35 _ by rw [hU]; exact put4_other B4.out HN45.out ..)
    have KG := Lib.hid (show Below w.heap.size w U by rw [hU]; exact put4_below KG.out HA5.out ..)
    have B5 := Lib.hid (show Bxs U A5 35 [.bool y2.t.s, .slice y2.t.a y2.t.n y2.t.c, .bool y2.l.s, .slice y2.l.a y2.l.n y2.l.c] by rw [hU]; exact put4_bxs B5.out ..)
    unfold put4 at hU
    rw [← hU]
    clear hU
    by_cases he1 : 1 < e
    ·have g3 : (1 : Int) < (e : Int) := by omega
     have HE1 := Lib.hid he1
     have HM2 := Lib.hid (show m + m ≤ n by have h := HJE.out; have h2 := Nat.mul_le_mul_left m (show 2 ≤ e by omega); omega)
     have MV := Lib.hid (qmul NA.out.any (NA.out.len (HL.out _ HM.out) (Nat.le_refl _)) NA.out.any (NA.out.len (HL.out _ HM.out) (Nat.le_refl _)))
     have c20 := B2.out.cell (i := 0) rfl
     have c21 := B2.out.cell (i := 1) rfl
     have c22 := B2.out.cell (i := 2) rfl
     have c23 := B2.out.cell (i := 3) rfl
     have c2f := B2.out.fz
     have c2l := B2.out.lt
     go_wp2_with fail
     with_reducible refine MV.out.mono ?_
     rintro _ w3 ⟨y3, rfl, hy, hb⟩
     have B2 := Lib.hid (B2.out.below hb B2.out.lt)
     have B4 := Lib.hid (B4.out.below hb B4.out.lt)
     have B5 := Lib.hid (B5.out.below hb B5.out.lt)
     have NA := Lib.hid (NA.out.below hb)
     have NR := Lib.hid (NR.out.below hb)
     have NB := Lib.hid (show KF w3 y3 (q ^ (m + m)) from by rw [rat_pow_add]; exact hy.k)
     have KG := Lib.hid (KG.out.trans (hb.mono KG.out.size))
     clear hy hb MV
     clear c20 c21 c22 c23 c2f c2l
     have c20 := B2.out.cell (i := 0) rfl
     have c21 := B2.out.cell (i := 1) rfl
     have c22 := B2.out.cell (i := 2) rfl
     have c23 := B2.out.cell (i := 3) rfl
     have c2f := B2.out.fz
     have c2l := B2.out.lt
     go_wp2_with fail
     go_roundw
     case rel =>
      refine ⟨j + m, m + m, e / 2, y3, y2, ?_, ?_, Or.inr HM2.out, HJM.out, by have := HEN.out; omega, put4_kf NB.out B2.out rfl rfl rfl rfl rfl rfl rfl, put4_df NR.out B2.out (by decide) .., put4_bxs B2.out .., put4_other B5.out HN25.out.symm .., put4_other B4.out HN24.out.symm .., put4_below KG.out HA2.out ..⟩
      ·exact congrArg (Value.int .u16) (by omega)
      ·obtain ⟨f, hf⟩ : ∃ f, f = e / 2 := ⟨_, rfl⟩
       have he : e = 2 * f + 1 := by omega
       have h := HJE.out
       rw [he] at h
       rw [← hf, ← h]
       grind
     case measure => simp [intOf]; omega
    ·have g3 : ¬ ((1 : Int) < (e : Int)) := by omega
     have HE1 := Lib.hid (show e = 1 by omega)
     go_wp2_with fail
     go_roundw
     case rel =>
      refine ⟨j + m, m, e / 2, xa, y2, ?_, ?_, Or.inr HM.out, HJM.out, by have := HEN.out; omega, NA.out, NR.out, B2.out, B5.out, B4.out, KG.out⟩
      ·exact congrArg (Value.int .u16) (by omega)
      ·have h := HJE.out
       rw [HE1.out] at h ⊢
       omega
     case measure => simp [intOf]; omega
   ·have g0 : ((e : Int) % 2 == 1) = false := by simp; omega
    by_cases he1 : 1 < e
    ·have g3 : (1 : Int) < (e : Int) := by omega
     have HE1 := Lib.hid he1
     have HM2 := Lib.hid (show m + m ≤ n by have h := HJE.out; have h2 := Nat.mul_le_mul_left m (show 2 ≤ e by omega); omega)
     have MV := Lib.hid (qmul NA.out.any (NA.out.len (HL.out _ HM.out) (Nat.le_refl _)) NA.out.any (NA.out.len (HL.out _ HM.out) (Nat.le_refl _)))
     have c20 := B2.out.cell (i := 0) rfl
     have c21 := B2.out.cell (i := 1) rfl
     have c22 := B2.out.cell (i := 2) rfl
     have c23 := B2.out.cell (i := 3) rfl
     have c2f := B2.out.fz
     have c2l := B2.out.lt
     go_wp2_with fail
     with_reducible refine MV.out.mono ?_
     rintro _ w3 ⟨y3, rfl, hy, hb⟩
     have B2 := Lib.hid (B2.out.below hb B2.out.lt)
     have B4 := Lib.hid (B4.out.below hb B4.out.lt)
     have B5 := Lib.hid (B5.out.below hb B5.out.lt)
     have NA := Lib.hid (NA.out.below hb)
     have NR := Lib.hid (NR.out.below hb)
     have NB := Lib.hid (show KF w3 y3 (q ^ (m + m)) from by rw [rat_pow_add]; exact hy.k)
     have KG := Lib.hid (KG.out.trans (hb.mono KG.out.size))
     clear hy hb MV
     clear c20 c21 c22 c23 c2f c2l
     have c20 := B2.out.cell (i := 0) rfl
     have c21 := B2.out.cell (i := 1) rfl
     have c22 := B2.out.cell (i := 2) rfl
     have c23 := B2.out.cell (i := 3) rfl
     have c2f := B2.out.fz
     have c2l := B2.out.lt
     go_wp2_with fail
     go_roundw
     case rel =>
      refine ⟨j, m + m, e / 2, y3, xr, ?_, ?_, Or.inr HM2.out, HJ.out, by have := HEN.out; omega, put4_kf NB.out B2.out rfl rfl rfl rfl rfl rfl rfl, put4_df NR.out B2.out (by decide) .., put4_bxs B2.out .., put4_other B5.out HN25.out.symm .., put4_other B4.out HN24.out.symm .., put4_below KG.out HA2.out ..⟩
      ·exact congrArg (Value.int .u16) (by omega)
      ·obtain ⟨f, hf⟩ : ∃ f, f = e / 2 := ⟨_, rfl⟩
       have he : e = 2 * f := by omega
       have h := HJE.out
       rw [he] at h
       rw [← hf, ← h]
       grind
     case measure => simp [intOf]; omega
    ·have g3 : ¬ ((1 : Int) < (e : Int)) := by omega
     have HE1 := Lib.hid (show e = 1 by omega)
     go_wp2_with fail
     go_roundw
     case rel =>
      refine ⟨j, m, e / 2, xa, xr, ?_, ?_, Or.inr HM.out, HJ.out, by have := HEN.out; omega, NA.out, NR.out, B2.out, B5.out, B4.out, KG.out⟩
      ·exact absurd HE1.out (by omega)
      ·exact absurd HE1.out (by omega)
     case measure => simp [intOf]; omega
  ·have h0 : e = 0 := by omega
   subst h0
   have HJN := Lib.hid (show j = n by have h := HJE.out; omega)
   have HR := Lib.hid (show DF (put4 wr A4 (.bool xr.t.s) (.slice xr.t.a xr.t.n xr.t.c) (.bool xr.l.s) (.slice xr.l.a xr.l.n xr.l.c)) w.heap.size xr (q ^ n) from by rw [← HJN.out]; exact put4_df NR.out B4.out (by decide) ..)
   have c50 := B5.out.cell (i := 0) rfl
   have c51 := B5.out.cell (i := 1) rfl
   have c52 := B5.out.cell (i := 2) rfl
   have c53 := B5.out.cell (i := 3) rfl
   have c5f := B5.out.fz
   have c5l := B5.out.lt
   have c40 := B4.out.cell (i := 0) rfl
   have c41 := B4.out.cell (i := 1) rfl
   have c42 := B4.out.cell (i := 2) rfl
   have c43 := B4.out.cell (i := 3) rfl
   have c4f := B4.out.fz
   have c4l := B4.out.lt
   go_wp2_with fail
   exact bodyPost_ret (results_cell rfl _ _ _ _ _ _ _ rfl (put4_bxs B4.out ..) Tryz.underlying35 rfl (by kernel_rfl)) rfl ⟨xr, rfl, HR.out, put4_below KG.out HA4.out ..⟩
set_option maxRecDepth 100000 in
set_option maxHeartbeats 4000000 in
theorem at1_k (x : FV) (q : Rat) (w : World) (h : KF w x q) (hq : LQ q 900000) : Calls Tryz.prog 61 #[x.v] w fun e w' => e = .returned (.bool false) ∧ Below w.heap.size w w' := by
 obtain ⟨V, hV⟩ : ∃ V, V = w.alloc (.cells #[.bool x.t.s, .slice x.t.a x.t.n x.t.c, .bool x.l.s, .slice x.l.a x.l.n x.l.c] 35) := ⟨_, rfl⟩
 have hbV : Below w.heap.size w V := by rw [hV]; exact (Below.refl _ _).alloc (Nat.le_refl _) _
 have B1 := Lib.hid (show Bxs V w.heap.size 35 [.bool x.t.s, .slice x.t.a x.t.n x.t.c, .bool x.l.s, .slice x.l.a x.l.n x.l.c] by rw [hV]; exact Bxs.new w 35 [.bool x.t.s, .slice x.t.a x.t.n x.t.c, .bool x.l.s, .slice x.l.a x.l.n x.l.c])
 have KG := Lib.hid hbV
 have HV := Lib.hid hV
 have CK := Lib.hid (qcheck (h.below hbV) (h.len hq (Nat.le_refl _)))
 clear hV hbV h hq
 change Calls Tryz.prog 61 #[.agg #[.bool x.t.s, .slice x.t.a x.t.n x.t.c, .bool x.l.s, .slice x.l.a x.l.n x.l.c]] w _
 go_enter Tryz.func61, Tryz.ntmps61
 go_upto_region 1 with (fail)
 rw [show w.alloc (.cells #[.bool x.t.s, .slice x.t.a x.t.n x.t.c, .bool x.l.s, .slice x.l.a x.l.n x.l.c] 35) = V from HV.out.symm]
 have c0 := B1.out.cell (i := 0) rfl
 have c1 := B1.out.cell (i := 1) rfl
 have c2 := B1.out.cell (i := 2) rfl
 have c3 := B1.out.cell (i := 3) rfl
 go_wp2_with fail
 with_reducible refine CK.out.mono ?_
 rintro e w1 ⟨rfl, hb⟩
 have KG := Lib.hid (KG.out.trans (hb.mono KG.out.size))
 clear hb CK c0 c1 c2 c3
 go_wp2_with fail
 go_ret
 exact ⟨rfl, KG.out⟩
structure K4 (w : World) (x0 x1 x2 x3 : FV) (l : Nat → Rat) : Prop where
 k0 : KF w x0 (l 0)
 k1 : KF w x1 (l 1)
 k2 : KF w x2 (l 2)
 k3 : KF w x3 (l 3)
theorem K4.below {w w' : World} {x0 x1 x2 x3 : FV} {l : Nat → Rat} (h : K4 w x0 x1 x2 x3 l) (hb : Below w.heap.size w w') : K4 w' x0 x1 x2 x3 l := ⟨h.k0.below hb, h.k1.below hb, h.k2.below hb, h.k3.below hb⟩
set_option maxRecDepth 100000 in
set_option maxHeartbeats 16000000 in
theorem idx_k (b : Nat) (x0 x1 x2 x3 : FV) (l : Nat → Rat) (w : World) (hb : Bxs w b 56 [.bool x0.t.s, .slice x0.t.a x0.t.n x0.t.c, .bool x0.l.s, .slice x0.l.a x0.l.n x0.l.c, .bool x1.t.s, .slice x1.t.a x1.t.n x1.t.c, .bool x1.l.s, .slice x1.l.a x1.l.n x1.l.c, .bool x2.t.s, .slice x2.t.a x2.t.n x2.t.c, .bool x2.l.s, .slice x2.l.a x2.l.n x2.l.c, .bool x3.t.s, .slice x3.t.a x3.t.n x3.t.c, .bool x3.l.s, .slice x3.l.a x3.l.n x3.l.c]) (h : K4 w x0 x1 x2 x3 l) (hq : ∀ i, LQ (l i) 900000) :
  Calls Tryz.prog 91 #[.slice (some ⟨b, 0, none⟩) 4 4, .func (.func 61) #[] #[]] w fun e w' => e = .returned (.int .i64 (-1)) ∧ Below w.heap.size w w' := by
 have BB := Lib.hid hb; have HH := Lib.hid h; have HQ := Lib.hid hq
 have hcf : ∀ (args : Array Value) (w : World), (callFunc 61 args).run Tryz.prog w = .ok (.enter 61 args) w := fun _ _ => by kernel_rfl
 clear hb h hq
 go_enter Tryz.func91, Tryz.ntmps91
 go_wp2_with fail
 go_loopw [8] (fun i wr => ∃ j : Nat, j ≤ 4 ∧ i = .int .i64 j ∧ Below w.heap.size w wr) (fun i _ => 4 - (intOf i).toNat)
 case atStart => exact ⟨0, Nat.zero_le _, rfl, Below.refl _ _⟩
 case round =>
  obtain ⟨j, hj, rfl, hb0⟩ := hrel
  have KG := Lib.hid hb0
  have B1 := Lib.hid (BB.out.below hb0 BB.out.lt)
  have H4 := Lib.hid (HH.out.below hb0)
  clear hb0
  by_cases hjn : j < 4
  ·have hl5 : j = 0 ∨ j = 1 ∨ j = 2 ∨ j = 3 := by omega
   clear hj hjn
   have c0 := B1.out.cell (i := 0) rfl
   have c1 := B1.out.cell (i := 1) rfl
   have c2 := B1.out.cell (i := 2) rfl
   have c3 := B1.out.cell (i := 3) rfl
   have c4 := B1.out.cell (i := 4) rfl
   have c5 := B1.out.cell (i := 5) rfl
   have c6 := B1.out.cell (i := 6) rfl
   have c7 := B1.out.cell (i := 7) rfl
   have c8 := B1.out.cell (i := 8) rfl
   have c9 := B1.out.cell (i := 9) rfl
   have c10 := B1.out.cell (i := 10) rfl
   have c11 := B1.out.cell (i := 11) rfl
   have c12 := B1.out.cell (i := 12) rfl
   have c13 := B1.out.cell (i := 13) rfl
   have c14 := B1.out.cell (i := 14) rfl
   have c15 := B1.out.cell (i := 15) rfl
   rcases hl5 with rfl | rfl | rfl | rfl
   ·have AK := Lib.hid (at1_k x0 (l 0) wr H4.out.k0 (HQ.out 0))
    go_wp2_with fail
    with_reducible refine AK.out.mono ?_
    rintro e w1 ⟨rfl, hb⟩
    have KG := Lib.hid (KG.out.trans (hb.mono KG.out.size))
    clear hb AK c0 c1 c2 c3 c4 c5 c6 c7 c8 c9 c10 c11 c12 c13 c14 c15
    go_wp2_with fail
    go_roundw
    case rel => exact ⟨1, by omega, rfl, KG.out⟩
    case measure => simp [intOf]
   ·have AK := Lib.hid (at1_k x1 (l 1) wr H4.out.k1 (HQ.out 1))
    go_wp2_with fail
    with_reducible refine AK.out.mono ?_
    rintro e w1 ⟨rfl, hb⟩
    have KG := Lib.hid (KG.out.trans (hb.mono KG.out.size))
    clear hb AK c0 c1 c2 c3 c4 c5 c6 c7 c8 c9 c10 c11 c12 c13 c14 c15
    go_wp2_with fail
    go_roundw
    case rel => exact ⟨2, by omega, rfl, KG.out⟩
    case measure => simp [intOf]
   ·have AK := Lib.hid (at1_k x2 (l 2) wr H4.out.k2 (HQ.out 2))
    go_wp2_with fail
    with_reducible refine AK.out.mono ?_
    rintro e w1 ⟨rfl, hb⟩
    have KG := Lib.hid (KG.out.trans (hb.mono KG.out.size))
    clear hb AK c0 c1 c2 c3 c4 c5 c6 c7 c8 c9 c10 c11 c12 c13 c14 c15
    go_wp2_with fail
    go_roundw
    case rel => exact ⟨3, by omega, rfl, KG.out⟩
    case measure => simp [intOf]
   ·have AK := Lib.hid (at1_k x3 (l 3) wr H4.out.k3 (HQ.out 3))
    go_wp2_with fail
    with_reducible refine AK.out.mono ?_
    rintro e w1 ⟨rfl, hb⟩
    have KG := Lib.hid (KG.out.trans (hb.mono KG.out.size))
    clear hb AK c0 c1 c2 c3 c4 c5 c6 c7 c8 c9 c10 c11 c12 c13 c14 c15
    go_wp2_with fail
    go_roundw
    case rel => exact ⟨4, by omega, rfl, KG.out⟩
    case measure => simp [intOf]
  ·obtain rfl : j = 4 := by omega
   clear hj hjn
   go_wp2_with fail
   go_ret
   exact ⟨rfl, KG.out⟩
set_option maxRecDepth 100000 in
set_option maxHeartbeats 4000000 in
theorem con_k (b : Nat) (x0 x1 x2 x3 : FV) (l : Nat → Rat) (w : World) (hb : Bxs w b 56 [.bool x0.t.s, .slice x0.t.a x0.t.n x0.t.c, .bool x0.l.s, .slice x0.l.a x0.l.n x0.l.c, .bool x1.t.s, .slice x1.t.a x1.t.n x1.t.c, .bool x1.l.s, .slice x1.l.a x1.l.n x1.l.c, .bool x2.t.s, .slice x2.t.a x2.t.n x2.t.c, .bool x2.l.s, .slice x2.l.a x2.l.n x2.l.c, .bool x3.t.s, .slice x3.t.a x3.t.n x3.t.c, .bool x3.l.s, .slice x3.l.a x3.l.n x3.l.c]) (h : K4 w x0 x1 x2 x3 l) (hq : ∀ i, LQ (l i) 900000) :
  Calls Tryz.prog 60 #[.slice (some ⟨b, 0, none⟩) 4 4, .func (.func 61) #[] #[]] w fun e w' => e = .returned (.bool false) ∧ Below w.heap.size w w' := by
 have IK := Lib.hid (idx_k b x0 x1 x2 x3 l w hb h hq)
 clear hb h hq
 go_enter Tryz.func60, Tryz.ntmps60
 go_wp2_with fail
 with_reducible refine IK.out.mono ?_
 rintro e w1 ⟨rfl, hb⟩
 have KG := Lib.hid hb
 clear hb IK
 go_wp2_with fail
 go_ret
 exact ⟨rfl, KG.out⟩
end Go.Proofs.YtkkbegkdbcenkaaGreatDoor.Pol
