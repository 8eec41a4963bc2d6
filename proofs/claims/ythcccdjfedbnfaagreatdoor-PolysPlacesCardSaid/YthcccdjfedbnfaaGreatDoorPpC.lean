/-
  The walk of divide's closure of package limbs; parts put into an own list by copy.
-/
import Derived.Test.YthcccdjfedbnfaaGreatDoorPpB
import Derived.Deep.DeepCutAuto
import Derived.Deep.RegionHeld3
import Derived.Laws.OwnMore
import Derived.Laws.CopyRow
set_option linter.unusedSimpArgs false
set_option linter.unusedVariables false
namespace Go.Proofs.YthcccdjfedbnfaaGreatDoor.Limb
open Go.RowKit Go.Sort Go.Fresh
theorem cf_add (args : Array Value) (w : World) : (callFunc 110 args).run Tryz.prog w = .ok (.enter 110 args) w := by kernel_rfl
theorem add_plain (zp zq sg : Int) (h : zq.natAbs ≤ zp.natAbs) (hsg : sg = if decide (zp < 0) = decide (zq < 0) then 1 else -1) :
  0 ≤ (zp.natAbs : Int) + sg * (zq.natAbs : Int) ∧ ((zp.natAbs : Int) + sg * (zq.natAbs : Int)).toNat = (zp + zq).natAbs ∧
  (decide (zp < 0) && decide (0 < lenB (zp + zq).natAbs)) = decide (zp + zq < 0) := by
 have e0 : 0 < lenB (zp + zq).natAbs ↔ zp + zq ≠ 0 := by
  constructor
  ·intro h1 h2; rw [h2, show Int.natAbs 0 = 0 from rfl, lenB_zero] at h1; omega
  ·intro h1
   rcases Nat.eq_zero_or_pos (lenB (zp + zq).natAbs) with h2 | h2
   ·have := lenB_eq_zero.1 h2; omega
   ·exact h2
 by_cases h1 : zp < 0 <;> by_cases h2 : zq < 0 <;> simp only [h1, h2, decide_true, decide_false, if_true, reduceCtorEq, if_false] at hsg <;> subst hsg <;>
  refine ⟨by omega, by omega, ?_⟩ <;> simp only [h1, decide_true, decide_false, Bool.true_and, Bool.false_and]
 ·exact decide_eq_decide.2 (e0.trans (by omega))
 ·exact decide_eq_decide.2 (e0.trans (by omega))
 ·exact (decide_eq_false (by omega)).symm
 ·exact (decide_eq_false (by omega)).symm
def addF (x nx y ny : Nat) (sg : Int) (i : Nat) : Int := part (dgi x) nx i + sg * part (dgi y) ny i
theorem part_rng (x n i : Nat) : 0 ≤ part (dgi x) n i ∧ part (dgi x) n i ≤ 999999999 := by
 unfold part
 split
 ·have := dgi_Dig x (i + 1) i (by omega); omega
 ·omega
theorem addF_bd (x nx y ny : Nat) (sg : Int) (hsg : sg = 1 ∨ sg = -1) (i : Nat) : -1 * 999999999 ≤ addF x nx y ny sg i ∧ addF x nx y ny sg i ≤ 2 * 999999999 := by
 have h1 := part_rng x nx i
 have h2 := part_rng y ny i
 unfold addF
 rcases hsg with rfl | rfl <;> omega
theorem addF_sum (x y : Nat) (sg : Int) (h : lenB y ≤ lenB x + 1) : sumB (addF x (lenB x) y (lenB y) sg) (lenB x + 1) = x + sg * y := by
 have e : addF x (lenB x) y (lenB y) sg = fun i => part (dgi x) (lenB x) i + part (dgi y) (lenB y) i * sg := by funext i; unfold addF; rw [Int.mul_comm]
 rw [e, sumB_plus, sumB_times, sumB_part _ (by omega), sumB_part _ h, sumB_dgi, sumB_dgi, Int.mul_comm]
theorem add_lt (x y : Nat) (sg : Int) (hsg : sg = 1 ∨ sg = -1) (h : y ≤ x) : (x : Int) + sg * y < (pw (lenB x + 1) : Int) := by
 have h1 := lt_pw_lenB x
 rw [pw_succ]
 rcases hsg with rfl | rfl <;> omega
theorem quietOf {P : Program} {f : FuncId} {args : Array Value} {w : World} {n : Nat} {v : Value}
  (h : Calls P f args (w.drewN n) fun e w' => e = .returned v ∧ w' = w.drewN n) : Calls P f args (w.drewN n) fun e w'' => e = .returned v ∧ ∃ m, w'' = w.drewN m :=
 h.mono fun _ _ ⟨he, hm⟩ => ⟨he, n, hm⟩
set_option maxHeartbeats 1000000 in
theorem addFn (w : World) (b1 b2 b3 : Nat) (s1 s2 : Value) (T : TypeId) (p q : Option Addr) (f g : Nat → Int) (nx ny d e : Nat) (sg : Int) (k : Nat)
  (B1 : Bx w b1 T s1 (.slice p nx d)) (B2 : Bx w b2 T s2 (.slice q ny e)) (h3 : w.cell? ⟨b3, 0, none⟩ = some (.int .i64 sg)) (hp : Rd w p nx f) (hq : Rd w q ny g)
  (hx : nx ≤ 1000000000) (hy : ny ≤ 1000000000) (hk : k ≤ 1000000000) (hsg : sg = 1 ∨ sg = -1) (r1 : 0 ≤ part f nx k ∧ part f nx k ≤ 999999999) (r2 : 0 ≤ part g ny k ∧ part g ny k ≤ 999999999) :
  Calls Tryz.prog 110 #[.int .i64 k, .pointer (some ⟨b1, 0, none⟩), .pointer (some ⟨b3, 0, none⟩), .pointer (some ⟨b2, 0, none⟩)] w fun e w' => e = .returned (.int .i64 (part f nx k + sg * part g ny k)) ∧ Below w.heap.size w w' := by
 have P := Lib.hid (fun (w1 : World) (h : ∃ m, w1 = w.drewN m) => part_any p nx d f k w1 (by obtain ⟨m, rfl⟩ := h; exact hp.drewN m) hx hk)
 have Q := Lib.hid (fun (w1 : World) (h : ∃ m, w1 = w.drewN m) => part_any q ny e g k w1 (by obtain ⟨m, rfl⟩ := h; exact hq.drewN m) hy hk)
 have e1 := IntWalk.i64_in (sg * part g ny k) (by rcases hsg with rfl | rfl <;> omega)
 have e2 := IntWalk.i64_in (part f nx k + sg * part g ny k) (by rcases hsg with rfl | rfl <;> omega)
 generalize part f nx k = u at *
 generalize part g ny k = v at *
 have c1 := B1.c1
 have c2 := B2.c1
 clear B1 B2 hp hq
 go_enter Tryz.func110, Tryz.ntmps110
 go_wp2_with fail
 go_quiet (first | with_reducible exact quietOf (P.out _ ⟨_, rfl⟩) | with_reducible exact quietOf (Q.out _ ⟨_, rfl⟩))
 go_wp2
 go_ret
 exact ⟨rfl, bdrewN (Below.refl _ _) _⟩
theorem Own.cut {T : Nat} {w : World} {base : Nat} {a : Option Addr} {n cap L : Nat} {o o' : Nat → Int} (h : Own T w base a n cap o) (hL : L ≤ n) (e : ∀ i, i < L → o i = o' i) : Own T w base a L L o' := by
 refine ⟨Nat.le_refl _, ?_, fun i hi => by rw [← e i hi]; exact h.rng i (by omega)⟩
 rcases h.place with ⟨e0, h0, h1⟩ | ⟨g, cur, ha, hbg, hg, hcap, hc⟩
 ·exact Or.inl ⟨e0, by omega, by omega⟩
 ·exact Or.inr ⟨g, cur, ha, hbg, hg, by have := h.le; omega, fun i hi => by rw [hc i (by omega)]; show some (Value.int .u32 (o i)) = _; rw [e i hi]⟩
theorem Own.other {T : Nat} {w : World} {base : Nat} {a : Option Addr} {n cap : Nat} {o : Nat → Int} (h : Own T w base a n cap o) {p : Addr} (hp : p.block < base) (v : Value) : Own T (w.setCell p v) base a n cap o := by
 refine ⟨h.le, ?_, h.rng⟩
 rcases h.place with h0 | ⟨g, cur, ha, hbg, hg, hcap, hc⟩
 ·exact Or.inl h0
 ·exact Or.inr ⟨g, cur, ha, hbg, (Below.heap_setCell _ _ _ _ (by omega)).trans hg, hcap, hc⟩
theorem own_of {T g N b : Nat} {o : Nat → Int} {w : World} (h : ∃ x : Nat, Value.slice (some ⟨g, 0, none⟩) N N = .slice (some ⟨x, 0, none⟩) N N ∧ Own T w b (some ⟨x, 0, none⟩) N N o) : Own T w b (some ⟨g, 0, none⟩) N N o := by
 obtain ⟨x, e, h⟩ := h
 cases e
 exact h
theorem own_num {T L b : Nat} {s : Bool} {a : Option Addr} {o : Nat → Int} {w : World} {p : Option Addr → Prop} (h : ∃ x : Option Addr, numV s a L L = numV s x L L ∧ Own T w b x L L o ∧ p x) : Own T w b a L L o ∧ p a := by
 obtain ⟨x, e, h⟩ := h
 cases e
 exact h
set_option maxHeartbeats 400000 in
theorem add_any (s1 : Bool) (a1 : Option Addr) (n1 c1 : Nat) (o1 : Nat → Int) (s2 : Bool) (a2 : Option Addr) (n2 c2 : Nat) (o2 : Nat → Int) (w : World)
  (h1 : Rd w a1 n1 o1) (hn1 : n1 ≤ 100000000) (hc1 : n1 ≤ c1) (h2 : Rd w a2 n2 o2) (hn2 : n2 ≤ 100000000) (hc2 : n2 ≤ c2) :
  Calls Tryz.prog 80 #[numV s1 a1 n1 c1, numV s2 a2 n2 c2] w fun e w' => ∃ a, e = .returned (numV (decide (valN s1 n1 o1 + valN s2 n2 o2 < 0)) a (lenB (valN s1 n1 o1 + valN s2 n2 o2).natAbs) (lenB (valN s1 n1 o1 + valN s2 n2 o2).natAbs)) ∧
   Own 110 w' w.heap.size a (lenB (valN s1 n1 o1 + valN s2 n2 o2).natAbs) (lenB (valN s1 n1 o1 + valN s2 n2 o2).natAbs) (dgi (valN s1 n1 o1 + valN s2 n2 o2).natAbs) ∧ (a = none → lenB (valN s1 n1 o1 + valN s2 n2 o2).natAbs = 0) ∧ Below w.heap.size w w' := by
 obtain ⟨x1, d1, r1, l1, m1, O1⟩ := of_any s1 a1 n1 c1 o1 w h1 (by omega) hc1
 obtain ⟨x2, d2, r2, l2, m2, O2⟩ := of_any s2 a2 n2 c2 o2 w h2 (by omega) hc2
 generalize valN s1 n1 o1 = z1 at r1 l1 m1 O1 ⊢
 have HO1 := Lib.hid O1; clear O1
 generalize valN s2 n2 o2 = z2 at r2 l2 m2 O2 ⊢
 have HO2 := Lib.hid O2; clear O2
 have B1 := (((Bx.new w 26 (.bool s1) (.slice a1 n1 c1)).alloc (.cells #[.bool s2, .slice a2 n2 c2] 26)).alloc (.cells #[.bool false, .slice none 0 0] 26))
 have B2 := ((Bx.new2 w (.cells #[.bool s1, .slice a1 n1 c1] 26) 26 (.bool s2) (.slice a2 n2 c2)).alloc (.cells #[.bool false, .slice none 0 0] 26))
 have B3 := (Bx.new3 w (.cells #[.bool s1, .slice a1 n1 c1] 26) (.cells #[.bool s2, .slice a2 n2 c2] 26) 26 (.bool false) (.slice none 0 0))
 go_enter Tryz.func80, Tryz.ntmps80
 go_upto_region 1 with (fail)
 obtain ⟨W, hW⟩ : ∃ W, W = (((w.alloc (.cells #[.bool s1, .slice a1 n1 c1] 26)).alloc (.cells #[.bool s2, .slice a2 n2 c2] 26)).alloc (.cells #[.bool false, .slice none 0 0] 26)) := ⟨_, rfl⟩
 have G1 := Lib.hid (((Below.refl _ _).alloc (by go_size) _ |>.alloc (by go_size) _ |>.alloc (by go_size) _) : Below w.heap.size w (((w.alloc (.cells #[.bool s1, .slice a1 n1 c1] 26)).alloc (.cells #[.bool s2, .slice a2 n2 c2] 26)).alloc (.cells #[.bool false, .slice none 0 0] 26)))
 rw [← hW] at B1 B2 B3 G1
 rw [show (((w.alloc (.cells #[.bool s1, .slice a1 n1 c1] 26)).alloc (.cells #[.bool s2, .slice a2 n2 c2] 26)).alloc (.cells #[.bool false, .slice none 0 0] 26)) = W from hW.symm]
 clear hW
 go_cut [] (fun wx => Bx wx w.heap.size 26 (.bool (decide (z1 < 0))) (.slice x1 (lenB z1.natAbs) d1) ∧ Bx wx (w.heap.size + 1) 26 (.bool (decide (z2 < 0))) (.slice x2 (lenB z2.natAbs) d2) ∧
  Bx wx (w.heap.size + 1 + 1) 26 (.bool false) (.slice none 0 0) ∧ Below w.heap.size w wx)
 case first =>
  have HS1 := Lib.hid (fun (w' : World) (hb : Below W.heap.size W w') => And.intro (B1.below hb B1.lt).c0 (B1.below hb B1.lt).c1)
  have HS2 := Lib.hid (fun (w' : World) (hb : Below W.heap.size W w') => And.intro (B2.below hb B2.lt).c0 (B2.below hb B2.lt).c1)
  have HB1 := Lib.hid B1; have HB2 := Lib.hid B2; have HB3 := Lib.hid B3
  clear B1 B2 B3
  refine wp_region_fresh 4 (spOf [(1, Sp.know (numV (decide (z1 < 0)) x1 (lenB z1.natAbs) d1)), (3, Sp.know (numV (decide (z2 < 0)) x2 (lenB z2.natAbs) d2))]) (fun w' => Below W.heap.size W w') (by kernel_rfl) (by kernel_rfl)
   (spOf_cons (Sp.know_keeps _) (spOf_cons (Sp.know_keeps _) spOf_nil)) (fun _ _ h hb => h.trans (hb.mono h.size)) ((Below.refl _ _).drew) ?_
  simp only [List.take_succ_cons, List.take_zero, List.drop_succ_cons, List.drop_zero]
  (refine wpF_reads rfl rfl ?_ (fun w' hw' => ?_) ?_; rotate_left; · (have hb' := Has.world hw'; (have hs := HS1.out _ hb'); clear hw'; go_simp; try rfl))
  (refine wpF_spec rfl rfl (fun w' hw' => ?_) ?_; · (have hb' := Has.world hw'; go_simp; ((refine (HO1.out w' (G1.out.trans (hb'.mono G1.out.size))).mono ?_; rintro e w'' ⟨rfl, hb⟩; exact ⟨_, rfl, rfl, hb⟩))))
  rintro _ rfl
  (refine wpF_reads rfl rfl ?_ (fun w' hw' => ?_) ?_; rotate_left; · (have hb' := Has.world hw'; (have hs := HS2.out _ hb'); clear hw'; go_simp; try rfl))
  (refine wpF_spec rfl rfl (fun w' hw' => ?_) ?_; · (have hb' := Has.world hw'; go_simp; ((refine (HO2.out w' (G1.out.trans (hb'.mono G1.out.size))).mono ?_; rintro e w'' ⟨rfl, hb⟩; exact ⟨_, rfl, rfl, hb⟩))))
  rintro _ rfl
  refine wpF_nil (fun w1 hb1 hF => ?_)
  clear hF
  have C1 := HB1.out.below hb1 HB1.out.lt
  have C2 := HB2.out.below hb1 HB2.out.lt
  have C3 := HB3.out.below hb1 HB3.out.lt
  have G2 := G1.out.trans (hb1.mono G1.out.size)
  have K1 := Lib.hid C1; have K2 := Lib.hid C2; have K3 := Lib.hid C3
  obtain ⟨b10, b11, b12, b13⟩ := C1.all
  obtain ⟨b20, b21, b22, b23⟩ := C2.all
  have KG := Lib.hid G2
  clear C1 C2 C3 hb1 HS1 HS2 G2
  go_wp2_with fail
  go_meet
  case rel =>
   exact ⟨((K1.out.set _ _).other (by dsimp only; omega) _).other (by dsimp only; omega) _, ((K2.out.other (by dsimp only; omega) _).other (by dsimp only; omega) _).set _ _, (((K3.out.other (by dsimp only; omega) _).other (by dsimp only; omega) _).other (by dsimp only; omega) _).other (by dsimp only; omega) _,
    (((KG.out.setCell (by simp) _).setCell (by simp) _).setCell (by simp) _).setCell (by simp) _⟩
 case rest =>
  obtain ⟨B1, B2, B3, G1⟩ := hcut
  obtain ⟨w1, rfl⟩ : ∃ w1, w1 = wc := ⟨_, rfl⟩
  have R1 := r1.below G1
  have R2 := r2.below G1
  have AM := Lib.hid (amounts_any z1.natAbs z2.natAbs x1 x2 d1 d2 w1 R1 R2 (by omega) (by omega))
  have K1 := Lib.hid B1; have K2 := Lib.hid B2; have K3 := Lib.hid B3
  have KG := Lib.hid G1
  have HR := Lib.hid (And.intro r1 r2)
  obtain ⟨b10, b11, b12, b13⟩ := B1.all
  obtain ⟨b20, b21, b22, b23⟩ := B2.all
  clear B1 B2 B3 G1 R1 R2 r1 r2 h1 h2 HO1 HO2
  go_upto_if 15 with (first
   | (go_at_call 92; refine AM.out.mono ?_; rintro e w2 ⟨rfl, m, rfl⟩))
  go_cut [] (fun wx => ∃ (zp zq : Int) (xp xq : Option Addr) (dp dq : Nat), zp + zq = z1 + z2 ∧ zq.natAbs ≤ zp.natAbs ∧ lenB zp.natAbs ≤ 100000000 ∧ Rd w xp (lenB zp.natAbs) (dgi zp.natAbs) ∧ Rd w xq (lenB zq.natAbs) (dgi zq.natAbs) ∧
   Bx wx w.heap.size 26 (.bool (decide (zp < 0))) (.slice xp (lenB zp.natAbs) dp) ∧ Bx wx (w.heap.size + 1) 26 (.bool (decide (zq < 0))) (.slice xq (lenB zq.natAbs) dq) ∧
   Bx wx (w.heap.size + 1 + 1) 26 (.bool false) (.slice none 0 0) ∧ Below w.heap.size w wx)
  case first =>
   by_cases hlt : z1.natAbs < z2.natAbs
   ·rw [show cmpZ (z1.natAbs : Int) (z2.natAbs : Int) = -1 from cmpZ_lt (by omega)]
    go_wp2_with fail
    go_meet
    case rel =>
     exact ⟨z2, z1, x2, x1, d2, d1, by omega, by omega, by omega, HR.out.2, HR.out.1,
      ((K1.out.drewN m |>.set _ _).other (by dsimp only; omega) _).other (by dsimp only; omega) _, ((K2.out.drewN m |>.other (by dsimp only; omega) _).other (by dsimp only; omega) _).set _ _,
      (((K3.out.drewN m |>.other (by dsimp only; omega) _).other (by dsimp only; omega) _).other (by dsimp only; omega) _).other (by dsimp only; omega) _,
      ((((bdrewN KG.out m).setCell (by simp) _).setCell (by simp) _).setCell (by simp) _).setCell (by simp) _⟩
   ·have hc : decide (cmpZ (z1.natAbs : Int) (z2.natAbs : Int) < 0) = false := by
     refine decide_eq_false ?_
     rcases Nat.lt_or_ge z2.natAbs z1.natAbs with h | h
     ·rw [cmpZ_gt (by omega)]; omega
     ·rw [cmpZ_eq (by omega)]; omega
    rw [hc]
    clear hc
    go_wp2_with fail
    go_meet
    case rel => exact ⟨z1, z2, x1, x2, d1, d2, by omega, by omega, by omega, HR.out.1, HR.out.2, K1.out.drewN m, K2.out.drewN m, K3.out.drewN m, bdrewN KG.out m⟩
  case rest =>
   obtain ⟨zp, zq, xp, xq, dp, dq, ez, hle, hlp, rp, rq, B1, B2, B3, G1⟩ := hcut
   obtain ⟨w3, rfl⟩ : ∃ w3, w3 = wc := ⟨_, rfl⟩
   have K1 := Lib.hid B1; have K2 := Lib.hid B2; have K3 := Lib.hid B3
   have KG := Lib.hid G1
   have HP := Lib.hid rp; have HQ := Lib.hid rq
   have HE := Lib.hid ez; have HL := Lib.hid hle; have HLP := Lib.hid hlp
   have hsz : w.heap.size + 1 + 1 < w3.heap.size := B3.lt
   obtain ⟨b10, b11, b12, b13⟩ := B1.all
   obtain ⟨b20, b21, b22, b23⟩ := B2.all
   obtain ⟨sg, hsg⟩ : ∃ sg : Int, sg = if decide (zp < 0) = decide (zq < 0) then 1 else -1 := ⟨_, rfl⟩
   have HS := Lib.hid hsg
   clear B1 B2 B3 G1 rp rq ez hle hlp HR AM hsg
   go_upto_if 22 with (fail)
   go_cut [] (fun wx => Bx wx w.heap.size 26 (.bool (decide (zp < 0))) (.slice xp (lenB zp.natAbs) dp) ∧ Bx wx (w.heap.size + 1) 26 (.bool (decide (zq < 0))) (.slice xq (lenB zq.natAbs) dq) ∧
    Bx wx (w.heap.size + 1 + 1) 26 (.bool false) (.slice none 0 0) ∧ wx.rowIs w3.heap.size 2 1 (fun _ => .int .i64 sg) ∧ Below w.heap.size w wx)
   case first =>
    by_cases hs : decide (zp < 0) = decide (zq < 0)
    ·have e0 : (!(decide (zp < 0) == decide (zq < 0))) = false := by rw [hs]; simp
     have S := Lib.hid (HS.out.trans (if_pos hs))
     rw [e0]
     clear e0 hs
     go_wp2_with fail
     go_meet
     case rel =>
      exact ⟨K1.out.alloc _, K2.out.alloc _, K3.out.alloc _, by
       have h := World.rowIs_alloc w3 #[.int .i64 1] 2 (fun _ => .int .i64 sg) (fun i hi => by
        match i, hi with
        | 0, _ => rw [S.out]; rfl)
       exact h, KG.out.alloc KG.out.size _⟩
    ·have e0 : (!(decide (zp < 0) == decide (zq < 0))) = true := by simpa using hs
     have S := Lib.hid (HS.out.trans (if_neg hs))
     rw [e0]
     clear e0 hs
     go_wp2_with fail
     go_meet
     case rel =>
      exact ⟨K1.out.alloc _, K2.out.alloc _, K3.out.alloc _, by
       have h := World.rowIs_alloc w3 #[.int .i64 (-1)] 2 (fun _ => .int .i64 sg) (fun i hi => by
        match i, hi with
        | 0, _ => rw [S.out]; rfl)
       exact h, KG.out.alloc KG.out.size _⟩
   case rest =>
    obtain ⟨B1, B2, B3, BS, G1⟩ := hcut
    obtain ⟨w4, rfl⟩ : ∃ w4, w4 = wc := ⟨_, rfl⟩
    have HB1 := Lib.hid B1; have HB2 := Lib.hid B2; have HB3 := Lib.hid B3; have HBS := Lib.hid BS; have HG := Lib.hid G1
    clear K1 K2 K3 KG b10 b11 b12 b13 b20 b21 b22 b23 B1 B2 B3 BS G1
    have hcf := Lib.hid cf_add
    obtain ⟨F, hF⟩ : ∃ F : Nat → Int, F = fun k => part (dgi zp.natAbs) (lenB zp.natAbs) k + sg * part (dgi zq.natAbs) (lenB zq.natAbs) k := ⟨_, rfl⟩
    have hs1 : sg = 1 ∨ sg = -1 := by rw [HS.out]; split <;> simp
    have hlq : lenB zq.natAbs ≤ lenB zp.natAbs := lenB_mono HL.out
    have hlp : lenB zp.natAbs ≤ 100000000 := HLP.out
    have hsum : sumB F (lenB zp.natAbs + 1) = (zp.natAbs : Int) + sg * (zq.natAbs : Int) := by rw [hF]; exact addF_sum _ _ _ (by omega)
    obtain ⟨p1, p2, p3⟩ := add_plain zp zq sg HL.out HS.out
    have hcs := cS_fits (f := F) (n := lenB zp.natAbs + 1) (by rw [hsum]; exact p1) (by rw [hsum]; exact add_lt _ _ _ hs1 HL.out)
    have hcut : sumB (cD F) (lenB zp.natAbs + 1) = (zp.natAbs : Int) + sg * (zq.natAbs : Int) := hcs.2.trans hsum
    rw [HE.out] at p2 p3
    have CARRY := Lib.hid (fun (w' : World) (hb : Below w4.heap.size w4 w') => carry_any 110 #[.pointer (some ⟨w.heap.size, 0, none⟩), .pointer (some ⟨w3.heap.size, 0, none⟩), .pointer (some ⟨w.heap.size + 1, 0, none⟩)] (lenB zp.natAbs + 1) F (-1) 2 w' (by omega) cf_add
     (fun k hk w1 hb1 => by
      have hbb : Below w4.heap.size w4 w1 := hb.trans (hb1.mono hb.size)
      have := addFn w1 w.heap.size (w.heap.size + 1) w3.heap.size _ _ _ xp xq (dgi zp.natAbs) (dgi zq.natAbs) (lenB zp.natAbs) (lenB zq.natAbs) dp dq sg k (HB1.out.below hbb HB1.out.lt) (HB2.out.below hbb HB2.out.lt)
       ((hbb.cell (p := ⟨w3.heap.size, 0, none⟩) HBS.out.lt).trans (HBS.out.cell (i := 0) (by omega)))
       (HP.out.below (HG.out.trans (hbb.mono HG.out.size))) (HQ.out.below (HG.out.trans (hbb.mono HG.out.size))) (by omega) (by omega) (by omega) hs1 (part_rng _ _ _) (part_rng _ _ _)
      rw [hF]
      exact this) (fun k _ => by rw [hF]; exact addF_bd _ _ _ _ _ hs1 k) (by omega) (by omega) (by omega) (by omega))
    have HF := Lib.hid hF; clear hF
    have HC := Lib.hid hcut; clear hcut
    have HS1 := Lib.hid (fun (w' : World) (hb : Below w4.heap.size w4 w') => And.intro (HB1.out.below hb HB1.out.lt).c0 (HB1.out.below hb HB1.out.lt).c1)
    have HP2 := Lib.hid p2; have HP3 := Lib.hid p3
    clear hsum p1 p2 p3 hcs HE HS HL
    obtain ⟨N, hN⟩ : ∃ N, N = lenB zp.natAbs + 1 := ⟨_, rfl⟩
    have HN := Lib.hid hN
    rw [← hN] at CARRY HC
    have hNb : N ≤ 100000001 := by omega
    have ew : IntKind.i64.wrap ((lenB zp.natAbs : Int) + 1) = (N : Int) := by rw [IntWalk.i64_in _ (by omega)]; omega
    have HD := Lib.hid (show lenB (z1 + z2).natAbs ≤ N ∧ ∀ i, i < lenB (z1 + z2).natAbs → cD F i = dgi (z1 + z2).natAbs i by
     have h1 := lenB_le_of (cD_Dig F N)
     rw [HC.out, HP2.out] at h1
     refine ⟨h1, fun i hi => ?_⟩
     have h2 := dg_sumB (cD_Dig F N) i (by omega)
     rw [HC.out, HP2.out] at h2
     exact h2.symm)
    have CUT := Lib.hid (fun (w' : World) (g : Nat) (ho : Own 110 w' w4.heap.size (some ⟨g, 0, none⟩) N N (cD F)) => cut_any (decide (zp < 0)) (some ⟨g, 0, none⟩) N N (cD F) w' ho.rd (cD_Dig F N) (by omega) (Nat.le_refl _) (fun h => by cases h))
    rw [HC.out, HP2.out, HP3.out] at CUT
    clear hN
    go_upto_region 7 with (fail)
    refine wp_region_fresh 9 (spOf [(7, Sp.made (fun g : Nat => .slice (some ⟨g, 0, none⟩) N N) (fun g w' => Own 110 w' w4.heap.size (some ⟨g, 0, none⟩) N N (cD F))),
      (8, Sp.made (fun a : Option Addr => numV (decide (z1 + z2 < 0)) a (lenB (z1 + z2).natAbs) (lenB (z1 + z2).natAbs)) (fun a w' => Own 110 w' w4.heap.size a (lenB (z1 + z2).natAbs) (lenB (z1 + z2).natAbs) (dgi (z1 + z2).natAbs) ∧ (a = none → lenB (z1 + z2).natAbs = 0)))])
     (fun w' => Below w4.heap.size w4 w') (by kernel_rfl) (by kernel_rfl)
     (spOf_cons (Sp.made_keeps fun x w w' h hb => h.below hb) (spOf_cons (Sp.made_keeps fun x w w' h hb => ⟨h.1.below hb, h.2⟩) spOf_nil)) (fun _ _ h hb => h.trans (hb.mono h.size)) ((Below.refl _ _).drew) ?_
    simp only [List.take_succ_cons, List.take_zero, List.drop_succ_cons, List.drop_zero]
    (refine wpF_reads rfl rfl ?_ (fun w' hw' => ?_) ?_; rotate_left; · (have hb' := Has.world hw'; (skip); clear hw'; go_simp; try rfl))
    (refine wpF_reads rfl rfl ?_ (fun w' hw' => ?_) ?_; rotate_left; · (have hb' := Has.world hw'; (have hs := HS1.out _ hb'); clear hw'; go_simp; try rfl))
    (refine wpF_reads rfl rfl ?_ (fun w' hw' => ?_) ?_; rotate_left; · (have hb' := Has.world hw'; (skip); clear hw'; go_simp; try rfl))
    (refine wpF_reads rfl rfl ?_ (fun w' hw' => ?_) ?_; rotate_left; · (have hb' := Has.world hw'; (have hs := HS1.out _ hb'); clear hw'; go_simp; try rfl))
    (refine wpF_reads rfl rfl ?_ (fun w' hw' => ?_) ?_; rotate_left; · (have hb' := Has.world hw'; (skip); clear hw'; go_simp; try rfl))
    (refine wpF_reads rfl rfl ?_ (fun w' hw' => ?_) ?_; rotate_left; · (have hb' := Has.world hw'; (skip); clear hw'; go_simp; try rfl))
    (refine wpF_reads rfl rfl ?_ (fun w' hw' => ?_) ?_; rotate_left; · (have hb' := Has.world hw'; (skip); clear hw'; go_simp; try rfl))
    (refine wpF_spec rfl rfl (fun w' hw' => ?_) ?_; · (have hb' := Has.world hw'; go_simp; ((refine (CARRY.out w' hb').mono ?_; rintro e w'' ⟨rfl, ho, hb⟩; exact ⟨_, rfl, ⟨⟨_, rfl⟩, ⟨_, rfl, ho.mono hb'.size⟩⟩, hb⟩))))
    rintro _ ⟨g, rfl⟩
    (refine wpF_spec rfl rfl (fun w' hw' => ?_) ?_; · (have hb' := Has.world hw'; go_simp; ((have h7 := own_of (g := g) (N := N) (T := 110) (o := cD F) (b := w4.heap.size) (hw'.fact 7 (by kernel_rfl)); refine (CUT.out w' g h7).mono ?_; rintro e w'' ⟨rfl, hb⟩; exact ⟨_, rfl, ⟨⟨_, rfl⟩, ⟨_, rfl, (h7.below hb).cut HD.out.1 HD.out.2, fun h => by cases h⟩⟩, hb⟩))))
    rintro _ ⟨a, rfl⟩
    refine wpF_nil (fun w5 hb5 hF5 => ?_)
    have OA := own_num (T := 110) (b := w4.heap.size) (s := decide (z1 + z2 < 0)) (L := lenB (z1 + z2).natAbs) (o := dgi (z1 + z2).natAbs) (a := a) (p := fun x => x = none → lenB (z1 + z2).natAbs = 0) (hF5 8)
    have HO := Lib.hid OA
    have B3 := HB3.out.below hb5 HB3.out.lt
    have HB5 := Lib.hid B3
    obtain ⟨b30, b31, b32, b33⟩ := B3.all
    have HG5 := Lib.hid (HG.out.trans (hb5.mono HG.out.size))
    have hz4 := HB3.out.lt
    have hz5 := HG.out.size
    clear hF5 OA B3 hb5 HS1 CARRY CUT HD
    go_wp2_with fail
    refine bodyPost_ret (results_cell rfl _ _ _ _ _ _ _ rfl (HB5.out.set _ _) Tryz.underlying26 rfl (by kernel_rfl)) rfl ⟨a, rfl, ?_, HO.out.2, ?_⟩
    ·exact ((HO.out.1.other (by dsimp only; omega) _).other (by dsimp only; omega) _).mono hz5
    ·exact (HG5.out.setCell (by dsimp only; omega) _).setCell (by dsimp only; omega) _
def ResN (w : World) (z : Int) (e : Ending) (w' : World) : Prop :=
 ∃ a, e = .returned (numV (decide (z < 0)) a (lenB z.natAbs) (lenB z.natAbs)) ∧ Own 110 w' w.heap.size a (lenB z.natAbs) (lenB z.natAbs) (dgi z.natAbs) ∧ (a = none → lenB z.natAbs = 0) ∧ Below w.heap.size w w'
theorem add_res (s1 : Bool) (a1 : Option Addr) (n1 c1 : Nat) (o1 : Nat → Int) (s2 : Bool) (a2 : Option Addr) (n2 c2 : Nat) (o2 : Nat → Int) (w : World)
  (h1 : Rd w a1 n1 o1) (hn1 : n1 ≤ 100000000) (hc1 : n1 ≤ c1) (h2 : Rd w a2 n2 o2) (hn2 : n2 ≤ 100000000) (hc2 : n2 ≤ c2) :
  Calls Tryz.prog 80 #[numV s1 a1 n1 c1, numV s2 a2 n2 c2] w (ResN w (valN s1 n1 o1 + valN s2 n2 o2)) := add_any s1 a1 n1 c1 o1 s2 a2 n2 c2 o2 w h1 hn1 hc1 h2 hn2 hc2
theorem canon_ok (z : Int) : okN (decide (z < 0)) (lenB z.natAbs) (dgi z.natAbs) := by
 refine ⟨fun i hi => (dgi_Dig _ _ i hi).2, fun h => ?_, fun h => ?_⟩
 ·have := lenB_eq_zero.1 h
  exact decide_eq_false (by omega)
 ·have h1 := dg_last (m := z.natAbs) (fun e => by rw [e, lenB_zero] at h; omega)
  show ((dg z.natAbs (lenB z.natAbs - 1) : Nat) : Int) ≠ 0
  omega
theorem canon_val (z : Int) : valN (decide (z < 0)) (lenB z.natAbs) (dgi z.natAbs) = z := by
 unfold valN
 rw [if_pos (canon_ok z), sumB_dgi]
 by_cases h : z < 0
 ·rw [if_pos (decide_eq_true h)]; omega
 ·rw [if_neg (by simpa using h)]; omega
theorem own_clone {T L b : Nat} {x : Option Addr × Nat} {o : Nat → Int} {w : World} (h : ∃ y : Option Addr × Nat, Value.slice x.1 L x.2 = .slice y.1 L y.2 ∧ Own T w b y.1 L y.2 o ∧ (y.1 = none → y.2 = 0)) : Own T w b x.1 L x.2 o ∧ (x.1 = none → x.2 = 0) := by
 obtain ⟨y, e, h⟩ := h
 simp only [Value.slice.injEq] at e
 rw [e.1, e.2.2]
 exact h
theorem pos_len {z : Int} : 0 < lenB z.natAbs ↔ z ≠ 0 := by
 constructor
 ·intro h1 h2; rw [h2, show Int.natAbs 0 = 0 from rfl, lenB_zero] at h1; omega
 ·intro h1
  rcases Nat.eq_zero_or_pos (lenB z.natAbs) with h2 | h2
  ·have := lenB_eq_zero.1 h2; omega
  ·exact h2
theorem neg_sign (z : Int) : ((!decide (z < 0)) && decide (0 < lenB z.natAbs)) = decide (-z < 0) := by
 have e0 := pos_len (z := z)
 by_cases h1 : z < 0
 ·simp only [h1, decide_true, Bool.not_true, Bool.false_and]
  exact (decide_eq_false (by omega)).symm
 ·simp only [h1, decide_false, Bool.not_false, Bool.true_and]
  exact decide_eq_decide.2 (e0.trans (by omega))
set_option maxHeartbeats 1000000 in
theorem neg_any (s1 : Bool) (a1 : Option Addr) (n1 c1 : Nat) (o1 : Nat → Int) (w : World)
  (h1 : Rd w a1 n1 o1) (hn1 : n1 ≤ 100000000) (hc1 : n1 ≤ c1) :
  Calls Tryz.prog 126 #[numV s1 a1 n1 c1] w (ResN w (- valN s1 n1 o1)) := by
 obtain ⟨x2, d2, r2, l2, m2, O2⟩ := of_any s1 a1 n1 c1 o1 w h1 (by omega) hc1
 generalize valN s1 n1 o1 = z2 at r2 l2 m2 O2 ⊢
 have HO2 := Lib.hid O2
 have HR2 := Lib.hid r2
 have HB1 := Lib.hid ((Bx.new w 26 (.bool s1) (.slice a1 n1 c1)).alloc (.cells #[.bool false, .slice none 0 0] 26))
 have HB2 := Lib.hid (Bx.new2 w (.cells #[.bool s1, .slice a1 n1 c1] 26) 26 (.bool false) (.slice none 0 0))
 clear O2 h1 r2
 go_enter Tryz.func126, Tryz.ntmps126
 go_wp2_with fail
 refine (HO2.out _ ?_).mono ?_
 ·(repeat' (first | (with_reducible exact Below.refl _ _) | (with_reducible assumption) | (with_reducible refine Below.alloc ?_ ?_ _) | (with_reducible refine Below.drew ?_) | (with_reducible refine bdrewN ?_ _) | (with_reducible refine Below.setCell ?_ ?_ _) | (with_reducible refine Below.frame ?_ _) | go_size))
 rintro e w1 ⟨rfl, hb1⟩
 have B1 := HB1.out.below hb1 HB1.out.lt
 have B2 := HB2.out.below hb1 HB2.out.lt
 have G1 := Lib.hid (((Below.refl _ _).alloc (by go_size) _ |>.alloc (by go_size) _).trans (hb1.mono (by go_size)) : Below w.heap.size w w1)
 have K1 := Lib.hid B1; have K2 := Lib.hid B2
 obtain ⟨b10, b11, b12, b13⟩ := B1.all
 clear HB1 HB2 B1 B2 hb1
 go_upto_region 2 with (fail)
 obtain ⟨W, hW⟩ : ∃ W, W = ((w1.setCell ⟨w.heap.size, 0, none⟩ (.bool (decide (z2 < 0)))).setCell ⟨w.heap.size, 1, none⟩ (.slice x2 (lenB z2.natAbs) d2)) := ⟨_, rfl⟩
 rw [← hW]
 have HB1 := Lib.hid (K1.out.set (.bool (decide (z2 < 0))) (.slice x2 (lenB z2.natAbs) d2))
 have HB2 := Lib.hid ((K2.out.other (a := ⟨w.heap.size, 0, none⟩) (by dsimp only; omega) (.bool (decide (z2 < 0)))).other (a := ⟨w.heap.size, 1, none⟩) (by dsimp only; omega) (.slice x2 (lenB z2.natAbs) d2))
 have HG := Lib.hid ((G1.out.setCell (p := ⟨w.heap.size, 0, none⟩) (Nat.le_refl _) (.bool (decide (z2 < 0)))).setCell (p := ⟨w.heap.size, 1, none⟩) (Nat.le_refl _) (.slice x2 (lenB z2.natAbs) d2))
 rw [← hW] at HB1 HB2 HG
 clear hW b10 b11 b12 b13 K1 K2 G1
 have HS1 := Lib.hid (fun (w' : World) (hb : Below W.heap.size W w') => And.intro (HB1.out.below hb HB1.out.lt).c0 (HB1.out.below hb HB1.out.lt).c1)
 have CL := Lib.hid (fun (w' : World) (hb : Below W.heap.size W w') => clone_any x2 (lenB z2.natAbs) d2 (dgi z2.natAbs) w' (HR2.out.below (HG.out.trans (hb.mono HG.out.size))) (by omega))
 have CUT := Lib.hid (fun (w' : World) (x : Option Addr × Nat) (ho : Own 110 w' W.heap.size x.1 (lenB z2.natAbs) x.2 (dgi z2.natAbs)) (hx : x.1 = none → x.2 = 0) => cut_any (!decide (z2 < 0)) x.1 (lenB z2.natAbs) x.2 (dgi z2.natAbs) w' ho.rd (dgi_Dig _ _) (by omega) ho.le hx)
 rw [sumB_dgi, Int.toNat_natCast, neg_sign] at CUT
 obtain ⟨sB, hsB⟩ : ∃ sB, sB = decide (-z2 < 0) := ⟨_, rfl⟩
 rw [← hsB] at CUT
 have HSB := Lib.hid hsB
 clear hsB
 refine wp_region_fresh 7 (spOf [(5, Sp.made (fun x : Option Addr × Nat => .slice x.1 (lenB z2.natAbs) x.2) (fun x w' => Own 110 w' W.heap.size x.1 (lenB z2.natAbs) x.2 (dgi z2.natAbs) ∧ (x.1 = none → x.2 = 0))),
   (6, Sp.made (fun a : Option Addr => numV sB a (lenB z2.natAbs) (lenB z2.natAbs)) (fun a w' => Own 110 w' W.heap.size a (lenB z2.natAbs) (lenB z2.natAbs) (dgi z2.natAbs) ∧ (a = none → lenB z2.natAbs = 0)))])
  (fun w' => Below W.heap.size W w') (by kernel_rfl) (by kernel_rfl)
  (spOf_cons (Sp.made_keeps fun x w w' h hb => ⟨h.1.below hb, h.2⟩) (spOf_cons (Sp.made_keeps fun x w w' h hb => ⟨h.1.below hb, h.2⟩) spOf_nil)) (fun _ _ h hb => h.trans (hb.mono h.size)) ((Below.refl _ _).drew) ?_
 simp only [List.take_succ_cons, List.take_zero, List.drop_succ_cons, List.drop_zero]
 (refine wpF_reads rfl rfl ?_ (fun w' hw' => ?_) ?_; rotate_left; · (have hb' := Has.world hw'; (skip); clear hw'; go_simp; try rfl))
 (refine wpF_reads rfl rfl ?_ (fun w' hw' => ?_) ?_; rotate_left; · (have hb' := Has.world hw'; (have hs := HS1.out _ hb'); clear hw'; go_simp; try rfl))
 (refine wpF_reads rfl rfl ?_ (fun w' hw' => ?_) ?_; rotate_left; · (have hb' := Has.world hw'; (skip); clear hw'; go_simp; try rfl))
 (refine wpF_reads rfl rfl ?_ (fun w' hw' => ?_) ?_; rotate_left; · (have hb' := Has.world hw'; (skip); clear hw'; go_simp; try rfl))
 (refine wpF_reads rfl rfl ?_ (fun w' hw' => ?_) ?_; rotate_left; · (have hb' := Has.world hw'; (have hs := HS1.out _ hb'); clear hw'; go_simp; try rfl))
 (refine wpF_spec rfl rfl (fun w' hw' => ?_) ?_; · (have hb' := Has.world hw'; go_simp; ((refine (CL.out w' hb').mono ?_; rintro e w'' ⟨a', cap', rfl, ho, hn, hb⟩; exact ⟨_, rfl, ⟨⟨a', cap', rfl⟩, ⟨a', cap', rfl, ho.mono hb'.size, hn⟩⟩, hb⟩))))
 rintro _ ⟨x, rfl⟩
 (refine wpF_spec rfl rfl (fun w' hw' => ?_) ?_; · (have hb' := Has.world hw'; go_simp; ((have h7 := own_clone (x := x) (L := lenB z2.natAbs) (T := 110) (o := dgi z2.natAbs) (b := W.heap.size) (hw'.fact 5 (by kernel_rfl)); refine (CUT.out w' x h7.1 h7.2).mono ?_; rintro e w'' ⟨rfl, hb⟩; exact ⟨_, rfl, ⟨⟨_, rfl⟩, ⟨_, rfl, (h7.1.below hb).cut (Nat.le_refl _) (fun _ _ => rfl), fun h => by have := h7.1.le; have := h7.2 h; omega⟩⟩, hb⟩))))
 rintro _ ⟨a, rfl⟩
 refine wpF_nil (fun w5 hb5 hF5 => ?_)
 have OA := own_num (T := 110) (b := W.heap.size) (s := sB) (L := lenB z2.natAbs) (o := dgi z2.natAbs) (a := a) (p := fun x => x = none → lenB z2.natAbs = 0) (hF5 6)
 have HO := Lib.hid OA
 have B2 := HB2.out.below hb5 HB2.out.lt
 have HB5 := Lib.hid B2
 obtain ⟨b30, b31, b32, b33⟩ := B2.all
 have HG5 := Lib.hid (HG.out.trans (hb5.mono HG.out.size))
 have hz4 := HB2.out.lt
 have hz5 := HG.out.size
 clear hF5 OA B2 hb5 HS1 CL CUT
 go_wp2_with fail
 unfold ResN
 rw [Int.natAbs_neg, ← HSB.out]
 refine bodyPost_ret (results_cell rfl _ _ _ _ _ _ _ rfl (HB5.out.set _ _) Tryz.underlying26 rfl (by kernel_rfl)) rfl ⟨a, rfl, ?_, HO.out.2, ?_⟩
 ·exact ((HO.out.1.other (by dsimp only; omega) _).other (by dsimp only; omega) _).mono hz5
 ·exact (HG5.out.setCell (by dsimp only; omega) _).setCell (by dsimp only; omega) _
theorem cmpZ_amounts (x y : Int) : cmpZ x y = if x < 0 then (if y < 0 then cmpZ (y.natAbs : Int) (x.natAbs : Int) else -1) else if y < 0 then 1 else cmpZ (x.natAbs : Int) (y.natAbs : Int) := by
 by_cases h1 : x < 0 <;> by_cases h2 : y < 0
 ·rw [if_pos h1, if_pos h2]; exact cmpZ_congr (by omega) (by omega)
 ·rw [if_pos h1, if_neg h2]; exact cmpZ_lt (by omega)
 ·rw [if_neg h1, if_pos h2]; exact cmpZ_gt (by omega)
 ·rw [if_neg h1, if_neg h2]; exact cmpZ_congr (by omega) (by omega)
set_option maxHeartbeats 1000000 in
theorem cmp_any (s1 : Bool) (a1 : Option Addr) (n1 c1 : Nat) (o1 : Nat → Int) (s2 : Bool) (a2 : Option Addr) (n2 c2 : Nat) (o2 : Nat → Int) (w : World)
  (h1 : Rd w a1 n1 o1) (hn1 : n1 ≤ 100000000) (hc1 : n1 ≤ c1) (h2 : Rd w a2 n2 o2) (hn2 : n2 ≤ 100000000) (hc2 : n2 ≤ c2) :
  Calls Tryz.prog 67 #[numV s1 a1 n1 c1, numV s2 a2 n2 c2] w fun e w' => e = .returned (.int .i64 (cmpZ (valN s1 n1 o1) (valN s2 n2 o2))) ∧ Below w.heap.size w w' := by
 obtain ⟨x1, d1, r1, l1, m1, O1⟩ := of_any s1 a1 n1 c1 o1 w h1 (by omega) hc1
 obtain ⟨x2, d2, r2, l2, m2, O2⟩ := of_any s2 a2 n2 c2 o2 w h2 (by omega) hc2
 generalize valN s1 n1 o1 = z1 at r1 l1 m1 O1 ⊢
 have HO1 := Lib.hid O1; clear O1
 generalize valN s2 n2 o2 = z2 at r2 l2 m2 O2 ⊢
 have HO2 := Lib.hid O2; clear O2
 have B1 := ((Bx.new w 26 (.bool s1) (.slice a1 n1 c1)).alloc (.cells #[.bool s2, .slice a2 n2 c2] 26))
 have B2 := (Bx.new2 w (.cells #[.bool s1, .slice a1 n1 c1] 26) 26 (.bool s2) (.slice a2 n2 c2))
 go_enter Tryz.func67, Tryz.ntmps67
 go_upto_region 1 with (fail)
 obtain ⟨W, hW⟩ : ∃ W, W = ((w.alloc (.cells #[.bool s1, .slice a1 n1 c1] 26)).alloc (.cells #[.bool s2, .slice a2 n2 c2] 26)) := ⟨_, rfl⟩
 have G1 := Lib.hid (((Below.refl _ _).alloc (by go_size) _ |>.alloc (by go_size) _) : Below w.heap.size w ((w.alloc (.cells #[.bool s1, .slice a1 n1 c1] 26)).alloc (.cells #[.bool s2, .slice a2 n2 c2] 26)))
 rw [← hW] at B1 B2 G1
 rw [show ((w.alloc (.cells #[.bool s1, .slice a1 n1 c1] 26)).alloc (.cells #[.bool s2, .slice a2 n2 c2] 26)) = W from hW.symm]
 clear hW
 go_cut [] (fun wx => Bx wx w.heap.size 26 (.bool (decide (z1 < 0))) (.slice x1 (lenB z1.natAbs) d1) ∧ Bx wx (w.heap.size + 1) 26 (.bool (decide (z2 < 0))) (.slice x2 (lenB z2.natAbs) d2) ∧ Below w.heap.size w wx)
 case first =>
  have HS1 := Lib.hid (fun (w' : World) (hb : Below W.heap.size W w') => And.intro (B1.below hb B1.lt).c0 (B1.below hb B1.lt).c1)
  have HS2 := Lib.hid (fun (w' : World) (hb : Below W.heap.size W w') => And.intro (B2.below hb B2.lt).c0 (B2.below hb B2.lt).c1)
  have HB1 := Lib.hid B1; have HB2 := Lib.hid B2
  clear B1 B2
  refine wp_region_fresh 4 (spOf [(1, Sp.know (numV (decide (z1 < 0)) x1 (lenB z1.natAbs) d1)), (3, Sp.know (numV (decide (z2 < 0)) x2 (lenB z2.natAbs) d2))]) (fun w' => Below W.heap.size W w') (by kernel_rfl) (by kernel_rfl)
   (spOf_cons (Sp.know_keeps _) (spOf_cons (Sp.know_keeps _) spOf_nil)) (fun _ _ h hb => h.trans (hb.mono h.size)) ((Below.refl _ _).drew) ?_
  simp only [List.take_succ_cons, List.take_zero, List.drop_succ_cons, List.drop_zero]
  (refine wpF_reads rfl rfl ?_ (fun w' hw' => ?_) ?_; rotate_left; · (have hb' := Has.world hw'; (have hs := HS1.out _ hb'); clear hw'; go_simp; try rfl))
  (refine wpF_spec rfl rfl (fun w' hw' => ?_) ?_; · (have hb' := Has.world hw'; go_simp; ((refine (HO1.out w' (G1.out.trans (hb'.mono G1.out.size))).mono ?_; rintro e w'' ⟨rfl, hb⟩; exact ⟨_, rfl, rfl, hb⟩))))
  rintro _ rfl
  (refine wpF_reads rfl rfl ?_ (fun w' hw' => ?_) ?_; rotate_left; · (have hb' := Has.world hw'; (have hs := HS2.out _ hb'); clear hw'; go_simp; try rfl))
  (refine wpF_spec rfl rfl (fun w' hw' => ?_) ?_; · (have hb' := Has.world hw'; go_simp; ((refine (HO2.out w' (G1.out.trans (hb'.mono G1.out.size))).mono ?_; rintro e w'' ⟨rfl, hb⟩; exact ⟨_, rfl, rfl, hb⟩))))
  rintro _ rfl
  refine wpF_nil (fun w1 hb1 hF => ?_)
  clear hF
  have C1 := HB1.out.below hb1 HB1.out.lt
  have C2 := HB2.out.below hb1 HB2.out.lt
  have G2 := G1.out.trans (hb1.mono G1.out.size)
  have K1 := Lib.hid C1; have K2 := Lib.hid C2
  obtain ⟨b10, b11, b12, b13⟩ := C1.all
  obtain ⟨b20, b21, b22, b23⟩ := C2.all
  have KG := Lib.hid G2
  clear C1 C2 hb1 HS1 HS2 G2
  go_wp2_with fail
  go_meet
  case rel =>
   exact ⟨((K1.out.set _ _).other (by dsimp only; omega) _).other (by dsimp only; omega) _, ((K2.out.other (by dsimp only; omega) _).other (by dsimp only; omega) _).set _ _  ,
    (((KG.out.setCell (by simp) _).setCell (by simp) _).setCell (by simp) _).setCell (by simp) _⟩
 case rest =>
  obtain ⟨B1, B2, G1⟩ := hcut
  obtain ⟨w1, rfl⟩ : ∃ w1, w1 = wc := ⟨_, rfl⟩
  have R1 := r1.below G1
  have R2 := r2.below G1
  have AM := Lib.hid (amounts_any z1.natAbs z2.natAbs x1 x2 d1 d2 w1 R1 R2 (by omega) (by omega))
  have AN := Lib.hid (amounts_any z2.natAbs z1.natAbs x2 x1 d2 d1 w1 R2 R1 (by omega) (by omega))
  have KG := Lib.hid G1
  have E := Lib.hid (cmpZ_amounts z1 z2)
  obtain ⟨b10, b11, b12, b13⟩ := B1.all
  obtain ⟨b20, b21, b22, b23⟩ := B2.all
  clear B1 B2 G1 R1 R2 r1 r2 h1 h2 HO1 HO2
  by_cases n1 : z1 < 0 <;> by_cases n2 : z2 < 0
  ·have E2 := Lib.hid (E.out.trans (by rw [if_pos n1, if_pos n2]))
   rw [decide_eq_true n1] at b10
   rw [decide_eq_true n2] at b20
   clear n1 n2 E
   go_wp2_with fail
   refine AN.out.mono ?_
   rintro e w2 ⟨rfl, m, rfl⟩
   go_wp2
   go_ret
   exact ⟨by rw [E2.out]; rfl, bdrewN KG.out m⟩
  ·have E2 := Lib.hid (E.out.trans (by rw [if_pos n1, if_neg n2]))
   rw [decide_eq_true n1] at b10
   rw [decide_eq_false n2] at b20
   clear n1 n2 E
   go_wp2
   go_ret
   exact ⟨by rw [E2.out]; rfl, KG.out⟩
  ·have E2 := Lib.hid (E.out.trans (by rw [if_neg n1, if_pos n2]))
   rw [decide_eq_false n1] at b10
   rw [decide_eq_true n2] at b20
   clear n1 n2 E
   go_wp2
   go_ret
   exact ⟨by rw [E2.out]; rfl, KG.out⟩
  ·have E2 := Lib.hid (E.out.trans (by rw [if_neg n1, if_neg n2]))
   rw [decide_eq_false n1] at b10
   rw [decide_eq_false n2] at b20
   clear n1 n2 E
   go_wp2_with fail
   refine AM.out.mono ?_
   rintro e w2 ⟨rfl, m, rfl⟩
   go_wp2
   go_ret
   exact ⟨by rw [E2.out]; rfl, bdrewN KG.out m⟩
theorem valN_none : valN false 0 (fun _ => 0) = 0 := by
 unfold valN
 split <;> rfl
set_option maxHeartbeats 400000 in
theorem sign_any (s1 : Bool) (a1 : Option Addr) (n1 c1 : Nat) (o1 : Nat → Int) (w : World) (h1 : Rd w a1 n1 o1) (hn1 : n1 ≤ 100000000) (hc1 : n1 ≤ c1) :
  Calls Tryz.prog 42 #[numV s1 a1 n1 c1] w fun e w' => e = .returned (.int .i64 (cmpZ (valN s1 n1 o1) 0)) ∧ Below w.heap.size w w' := by
 have HR := Lib.hid h1
 clear h1
 go_enter Tryz.func42, Tryz.ntmps42
 go_wp2_with fail
 refine (cmp_any s1 a1 n1 c1 o1 false none 0 0 (fun _ => 0) _ (HR.out.below (w' := _) ?_) hn1 hc1 (Rd.nil _ _ _) (by omega) (Nat.le_refl _)).mono ?_
 ·(repeat' (first | (with_reducible exact Below.refl _ _) | (with_reducible assumption) | (with_reducible refine Below.alloc ?_ ?_ _) | (with_reducible refine Below.drew ?_) | (with_reducible refine bdrewN ?_ _) | (with_reducible refine Below.setCell ?_ ?_ _) | (with_reducible refine Below.frame ?_ _) | go_size))
 rw [valN_none]
 rintro e w1 ⟨rfl, hb1⟩
 have G1 := ((Below.refl _ _).alloc (by go_size) _).trans (hb1.mono (by go_size))
 clear hb1
 go_wp2
 go_ret
 exact ⟨rfl, G1⟩
theorem rows_upd {w : World} {g n j : Nat} {p : Nat → Int} (h : w.rowIs g 110 n (uc p)) (v : Int) : (w.setCell ⟨g, j, none⟩ (.int .u32 v)).rowIs g 110 n (uc (upd p j v)) :=
 (h.set j (.int .u32 v)).congr fun i hi => by
  by_cases e : i = j
  ·subst e; rw [if_pos rfl]; show _ = Value.int .u32 (upd p i v i); rw [upd_same]
  ·rw [if_neg e]; show Value.int .u32 (p i) = Value.int .u32 (upd p j v i); rw [upd_ne p v e]
theorem mul_sign (z1 z2 : Int) : ((!(decide (z1 < 0) == decide (z2 < 0))) && decide (0 < lenB (z1 * z2).natAbs)) = decide (z1 * z2 < 0) := by
 have e0 := pos_len (z := z1 * z2)
 rcases Int.lt_trichotomy z1 0 with h1 | h1 | h1
 ·rcases Int.lt_trichotomy z2 0 with h2 | h2 | h2
  ·have := Int.mul_pos_of_neg_of_neg h1 h2
   simp [h1, h2]; omega
  ·subst h2; simp [h1, lenB_zero]
  ·have := Int.mul_neg_of_neg_of_pos h1 h2
   have h3 : ¬ z2 < 0 := by omega
   simp only [h1, h3, decide_true, decide_false, Bool.true_beq, Bool.not_false, Bool.true_and]
   exact decide_eq_decide.2 (e0.trans (by omega))
 ·subst h1; simp [lenB_zero]
 ·rcases Int.lt_trichotomy z2 0 with h2 | h2 | h2
  ·have := Int.mul_neg_of_pos_of_neg h1 h2
   have h3 : ¬ z1 < 0 := by omega
   simp only [h2, h3, decide_true, decide_false, Bool.false_beq, Bool.not_true, Bool.not_false, Bool.true_and]
   exact decide_eq_decide.2 (e0.trans (by omega))
  ·subst h2; simp [lenB_zero]
  ·have := Int.mul_pos h1 h2
   have h3 : ¬ z1 < 0 := by omega
   have h4 : ¬ z2 < 0 := by omega
   simp [h3, h4]; omega
set_option maxHeartbeats 2000000 in
theorem mul_any (s1 : Bool) (a1 : Option Addr) (n1 c1 : Nat) (o1 : Nat → Int) (s2 : Bool) (a2 : Option Addr) (n2 c2 : Nat) (o2 : Nat → Int) (w : World)
  (h1 : Rd w a1 n1 o1) (hn1 : n1 ≤ 100000000) (hc1 : n1 ≤ c1) (h2 : Rd w a2 n2 o2) (hn2 : n2 ≤ 100000000) (hc2 : n2 ≤ c2) :
  Calls Tryz.prog 54 #[numV s1 a1 n1 c1, numV s2 a2 n2 c2] w (ResN w (valN s1 n1 o1 * valN s2 n2 o2)) := by
 obtain ⟨x1, d1, r1, l1, m1, O1⟩ := of_any s1 a1 n1 c1 o1 w h1 (by omega) hc1
 obtain ⟨x2, d2, r2, l2, m2, O2⟩ := of_any s2 a2 n2 c2 o2 w h2 (by omega) hc2
 generalize valN s1 n1 o1 = z1 at r1 l1 m1 O1 ⊢
 have HO1 := Lib.hid O1; clear O1
 generalize valN s2 n2 o2 = z2 at r2 l2 m2 O2 ⊢
 have HO2 := Lib.hid O2; clear O2
 have B1 := (((Bx.new w 26 (.bool s1) (.slice a1 n1 c1)).alloc (.cells #[.bool s2, .slice a2 n2 c2] 26)).alloc (.cells #[.bool false, .slice none 0 0] 26))
 have B2 := ((Bx.new2 w (.cells #[.bool s1, .slice a1 n1 c1] 26) 26 (.bool s2) (.slice a2 n2 c2)).alloc (.cells #[.bool false, .slice none 0 0] 26))
 have B3 := (Bx.new3 w (.cells #[.bool s1, .slice a1 n1 c1] 26) (.cells #[.bool s2, .slice a2 n2 c2] 26) 26 (.bool false) (.slice none 0 0))
 go_enter Tryz.func54, Tryz.ntmps54
 go_upto_region 1 with (fail)
 obtain ⟨W, hW⟩ : ∃ W, W = (((w.alloc (.cells #[.bool s1, .slice a1 n1 c1] 26)).alloc (.cells #[.bool s2, .slice a2 n2 c2] 26)).alloc (.cells #[.bool false, .slice none 0 0] 26)) := ⟨_, rfl⟩
 have G1 := Lib.hid (((Below.refl _ _).alloc (by go_size) _ |>.alloc (by go_size) _ |>.alloc (by go_size) _) : Below w.heap.size w (((w.alloc (.cells #[.bool s1, .slice a1 n1 c1] 26)).alloc (.cells #[.bool s2, .slice a2 n2 c2] 26)).alloc (.cells #[.bool false, .slice none 0 0] 26)))
 rw [← hW] at B1 B2 B3 G1
 rw [show (((w.alloc (.cells #[.bool s1, .slice a1 n1 c1] 26)).alloc (.cells #[.bool s2, .slice a2 n2 c2] 26)).alloc (.cells #[.bool false, .slice none 0 0] 26)) = W from hW.symm]
 clear hW
 go_cut [] (fun wx => Bx wx w.heap.size 26 (.bool (decide (z1 < 0))) (.slice x1 (lenB z1.natAbs) d1) ∧ Bx wx (w.heap.size + 1) 26 (.bool (decide (z2 < 0))) (.slice x2 (lenB z2.natAbs) d2) ∧
  Bx wx (w.heap.size + 1 + 1) 26 (.bool false) (.slice none 0 0) ∧ Below w.heap.size w wx)
 case first =>
  have HS1 := Lib.hid (fun (w' : World) (hb : Below W.heap.size W w') => And.intro (B1.below hb B1.lt).c0 (B1.below hb B1.lt).c1)
  have HS2 := Lib.hid (fun (w' : World) (hb : Below W.heap.size W w') => And.intro (B2.below hb B2.lt).c0 (B2.below hb B2.lt).c1)
  have HB1 := Lib.hid B1; have HB2 := Lib.hid B2; have HB3 := Lib.hid B3
  clear B1 B2 B3
  refine wp_region_fresh 4 (spOf [(1, Sp.know (numV (decide (z1 < 0)) x1 (lenB z1.natAbs) d1)), (3, Sp.know (numV (decide (z2 < 0)) x2 (lenB z2.natAbs) d2))]) (fun w' => Below W.heap.size W w') (by kernel_rfl) (by kernel_rfl)
   (spOf_cons (Sp.know_keeps _) (spOf_cons (Sp.know_keeps _) spOf_nil)) (fun _ _ h hb => h.trans (hb.mono h.size)) ((Below.refl _ _).drew) ?_
  simp only [List.take_succ_cons, List.take_zero, List.drop_succ_cons, List.drop_zero]
  (refine wpF_reads rfl rfl ?_ (fun w' hw' => ?_) ?_; rotate_left; · (have hb' := Has.world hw'; (have hs := HS1.out _ hb'); clear hw'; go_simp; try rfl))
  (refine wpF_spec rfl rfl (fun w' hw' => ?_) ?_; · (have hb' := Has.world hw'; go_simp; ((refine (HO1.out w' (G1.out.trans (hb'.mono G1.out.size))).mono ?_; rintro e w'' ⟨rfl, hb⟩; exact ⟨_, rfl, rfl, hb⟩))))
  rintro _ rfl
  (refine wpF_reads rfl rfl ?_ (fun w' hw' => ?_) ?_; rotate_left; · (have hb' := Has.world hw'; (have hs := HS2.out _ hb'); clear hw'; go_simp; try rfl))
  (refine wpF_spec rfl rfl (fun w' hw' => ?_) ?_; · (have hb' := Has.world hw'; go_simp; ((refine (HO2.out w' (G1.out.trans (hb'.mono G1.out.size))).mono ?_; rintro e w'' ⟨rfl, hb⟩; exact ⟨_, rfl, rfl, hb⟩))))
  rintro _ rfl
  refine wpF_nil (fun w1 hb1 hF => ?_)
  clear hF
  have C1 := HB1.out.below hb1 HB1.out.lt
  have C2 := HB2.out.below hb1 HB2.out.lt
  have C3 := HB3.out.below hb1 HB3.out.lt
  have G2 := G1.out.trans (hb1.mono G1.out.size)
  have K1 := Lib.hid C1; have K2 := Lib.hid C2; have K3 := Lib.hid C3
  obtain ⟨b10, b11, b12, b13⟩ := C1.all
  obtain ⟨b20, b21, b22, b23⟩ := C2.all
  have KG := Lib.hid G2
  clear C1 C2 C3 hb1 HS1 HS2 G2
  go_wp2_with fail
  go_meet
  case rel =>
   exact ⟨((K1.out.set _ _).other (by dsimp only; omega) _).other (by dsimp only; omega) _, ((K2.out.other (by dsimp only; omega) _).other (by dsimp only; omega) _).set _ _, (((K3.out.other (by dsimp only; omega) _).other (by dsimp only; omega) _).other (by dsimp only; omega) _).other (by dsimp only; omega) _,
    (((KG.out.setCell (by simp) _).setCell (by simp) _).setCell (by simp) _).setCell (by simp) _⟩
 case rest =>
  obtain ⟨B1, B2, B3, G1⟩ := hcut
  obtain ⟨w1, rfl⟩ : ∃ w1, w1 = wc := ⟨_, rfl⟩
  have HR1 := Lib.hid r1
  have HR2 := Lib.hid r2
  have KG := Lib.hid G1
  have K1 := Lib.hid B1; have K2 := Lib.hid B2; have K3 := Lib.hid B3
  obtain ⟨b10, b11, b12, b13⟩ := B1.all
  obtain ⟨b20, b21, b22, b23⟩ := B2.all
  obtain ⟨n, hn⟩ : ∃ n, n = lenB z1.natAbs + lenB z2.natAbs := ⟨_, rfl⟩
  have HN := Lib.hid hn
  have hnb : n ≤ 200000000 := by omega
  have ew : ((lenB z1.natAbs : Nat) : Int) + ((lenB z2.natAbs : Nat) : Int) = (n : Int) := by omega
  have hmk := run_make_row' (P := Tryz.prog) 24 110 (.int .u32 0) 4 Tryz.underlying24 info32 rfl .i64 .i64 n (by omega) (by omega)
  clear B1 B2 B3 G1 r1 r2 h1 h2 HO1 HO2 hn
  obtain ⟨X, hX⟩ : ∃ X, X = lenB z1.natAbs := ⟨_, rfl⟩
  obtain ⟨Y, hY⟩ : ∃ Y, Y = lenB z2.natAbs := ⟨_, rfl⟩
  rw [← hX] at b11 HR1 ew l1 m1 HN
  rw [← hY] at b21 HR2 ew l2 m2 HN
  have HX := Lib.hid hX; have HY := Lib.hid hY
  have hz1 := K3.out.lt
  clear hX hY
  obtain ⟨fx, hfx⟩ : ∃ fx, fx = dgi z1.natAbs := ⟨_, rfl⟩
  obtain ⟨fy, hfy⟩ : ∃ fy, fy = dgi z2.natAbs := ⟨_, rfl⟩
  have DX := Lib.hid (show Dig fx X by rw [hfx]; exact dgi_Dig _ _)
  have DY := Lib.hid (show Dig fy Y by rw [hfy]; exact dgi_Dig _ _)
  have SX := Lib.hid (show sumB fx X = z1.natAbs by rw [hfx, HX.out]; exact sumB_dgi _)
  have SY := Lib.hid (show sumB fy Y = z2.natAbs by rw [hfy, HY.out]; exact sumB_dgi _)
  rw [← hfx] at HR1
  rw [← hfy] at HR2
  clear hfx hfy
  go_wp2_with fail
  go_loopw [26] (fun i wr => ∃ k : Nat, k ≤ X ∧ i = .int .i64 k ∧ (∃ o, MulRow fx fy Y n k o ∧ wr.rowIs w1.heap.size 110 n (uc o)) ∧
   Bx wr w.heap.size 26 (.bool (decide (z1 < 0))) (.slice x1 X d1) ∧ Bx wr (w.heap.size + 1) 26 (.bool (decide (z2 < 0))) (.slice x2 Y d2) ∧
   Bx wr (w.heap.size + 1 + 1) 26 (.bool false) (.slice none 0 0) ∧ Below w.heap.size w wr) (fun i _ => X - (intOf i).toNat)
  case atStart =>
   exact ⟨0, by omega, rfl, ⟨_, MulRow.start _ _ _ _, World.rowIs_made w1 (.int .u32 0) n 110⟩, (HX.out ▸ K1.out).alloc _, (HY.out ▸ K2.out).alloc _, K3.out.alloc _, KG.out.alloc KG.out.size _⟩
  case round =>
   obtain ⟨k, hk, rfl, ⟨o, hM, hR⟩, B1, B2, B3, G⟩ := hrel
   have KM := Lib.hid hM; have KR := Lib.hid hR; have KG1 := Lib.hid G
   have J1 := Lib.hid B1; have J2 := Lib.hid B2; have J3 := Lib.hid B3
   obtain ⟨b20, b21, b22, b23⟩ := B2.all
   obtain ⟨b10, b11, b12, b13⟩ := B1.all
   clear hM hR G B1 B2 B3 hmk
   by_cases hkX : k < X
   ·obtain ⟨pb, po, rfl, hc⟩ := (HR1.out.below KG1.out).cells (by omega)
    have c1 := hc k hkX
    clear hc
    go_wp2_with fail
    go_loopw [8, 34] (fun on i wr2 => ∃ j : Nat, j ≤ Y ∧ i = .int .i64 j ∧ (∃ p v, on = .int .u64 v ∧ MulIn fx fy Y n k j p v ∧ wr2.rowIs w1.heap.size 110 n (uc p)) ∧
     Bx wr2 w.heap.size 26 (.bool (decide (z1 < 0))) (.slice (some ⟨pb, po, none⟩) X d1) ∧ Bx wr2 (w.heap.size + 1) 26 (.bool (decide (z2 < 0))) (.slice x2 Y d2) ∧
     Bx wr2 (w.heap.size + 1 + 1) 26 (.bool false) (.slice none 0 0) ∧ Below w.heap.size w wr2) (fun _ i _ => Y - (intOf i).toNat)
    case atStart => exact ⟨0, by omega, rfl, ⟨_, _, rfl, KM.out.inner, KR.out⟩, J1.out, J2.out, J3.out, KG1.out⟩
    case round =>
     obtain ⟨j, hj, rfl, ⟨p, v, rfl, hI, hR⟩, B1, B2, B3, G⟩ := hrel
     have LM := Lib.hid hI; have LR := Lib.hid hR; have LG := Lib.hid G
     have L1 := Lib.hid B1; have L2 := Lib.hid B2; have L3 := Lib.hid B3
     clear b10 b11 b12 b13 b20 b21 b22 b23 c1
     obtain ⟨b20, b21, b22, b23⟩ := B2.all
     have hfz := hR.frozen
     clear hI hR G B1 B2 B3
     by_cases hjY : j < Y
     ·obtain ⟨qb, qo, rfl, hc⟩ := (HR2.out.below LG.out).cells (by omega)
      have c2 : wr.cell? ⟨qb, qo + j, none⟩ = some (.int .u32 (fy j)) := hc j hjY
      have c3 : wr.cell? ⟨w1.heap.size, k + j, none⟩ = some (.int .u32 (p (k + j))) := LR.out.cell (i := k + j) (by have := HN.out; omega)
      have hx := DX.out k hkX
      have hy := DY.out j hjY
      obtain ⟨hT, hS⟩ := LM.out.step hx hy hjY (by have := HN.out; omega)
      have hpd := LM.out.dig (k + j) (by have := HN.out; omega)
      have hon := LM.out.on0
      have hb := mul_bd hx hy
      have hkn : k + j < n := by have := HN.out; omega
      have HSt := Lib.hid hS
      have w1' := IntWalk.u64_in (fx k) (by omega)
      have w2' := IntWalk.u64_in (fy j) (by omega)
      have w3' := IntWalk.u64_in (p (k + j)) (by omega)
      have w4' := IntWalk.u64_in (fx k * fy j) (by omega)
      have w5' := IntWalk.u64_in (fx k * fy j + p (k + j)) (by omega)
      have w6' := IntWalk.u64_in (v + (fx k * fy j + p (k + j))) (by omega)
      have t1 : (v + (fx k * fy j + p (k + j))).tmod 1000000000 = (v + (fx k * fy j + p (k + j))) % 1000000000 := Int.tmod_eq_emod_of_nonneg hT.1
      have t2 : (v + (fx k * fy j + p (k + j))).tdiv 1000000000 = (v + (fx k * fy j + p (k + j))) / 1000000000 := Int.tdiv_eq_ediv_of_nonneg hT.1
      have w7' := IntWalk.u32_in ((v + (fx k * fy j + p (k + j))) % 1000000000) (by omega)
      have w8' := IntWalk.u64_in ((v + (fx k * fy j + p (k + j))) / 1000000000) (by omega)
      clear hc hS hT hpd hon hb hx hy
      dsimp only [uc]
      go_wp2_with fail
      go_roundw
      case rel => exact ⟨j + 1, by omega, by go_num, ⟨_, _, rfl, HSt.out, rows_upd LR.out _⟩, L1.out.other (by dsimp only; omega) _, L2.out.other (by dsimp only; omega) _, L3.out.other (by dsimp only; omega) _, LG.out.setCell (by dsimp only; omega) _⟩
      case measure => simp [intOf]; omega
     ·obtain rfl : j = Y := by omega
      obtain ⟨vo, hco⟩ : ∃ vo, wr.cell? ⟨w1.heap.size, k + j, none⟩ = some vo := ⟨_, LR.out.cell (i := k + j) (by have := HN.out; omega)⟩
      have hkn : k + j < n := by have := HN.out; omega
      have hon := LM.out.on0
      have w7' := IntWalk.u32_in v (by omega)
      have HSt := Lib.hid (LM.out.row hkn)
      go_wp2_with fail
      go_roundw
      case rel => exact ⟨k + 1, by omega, by go_num, ⟨_, HSt.out, rows_upd LR.out _⟩, L1.out.other (by dsimp only; omega) _, L2.out.other (by dsimp only; omega) _, L3.out.other (by dsimp only; omega) _, LG.out.setCell (by dsimp only; omega) _⟩
      case measure => simp [intOf]; omega
   ·obtain rfl : k = X := by omega
    have hM := KM.out
    have hR := KR.out
    have ht : (sumB o n).toNat = (z1 * z2).natAbs := by
     rw [hM.sum, SX.out, SY.out, Int.natAbs_mul, ← Int.natCast_mul, Int.toNat_natCast]
    have OW := Lib.hid (Own.of_rowIs hR (Nat.le_refl _) (fun i hi => by have := hM.dig i hi; omega))
    have C := cut_any (!(decide (z1 < 0) == decide (z2 < 0))) (some ⟨w1.heap.size, 0, none⟩) n n o wr OW.out.rd hM.dig (by omega) (Nat.le_refl _) (fun h => by cases h)
    have hL := lenB_le_of hM.dig
    have hD := fun i hi => dg_sumB hM.dig i hi
    rw [ht, mul_sign] at C
    rw [ht] at hL hD
    obtain ⟨sB, hsB⟩ : ∃ sB, sB = decide (z1 * z2 < 0) := ⟨_, rfl⟩
    obtain ⟨L, hLL⟩ : ∃ L, L = lenB (z1 * z2).natAbs := ⟨_, rfl⟩
    rw [← hsB, ← hLL] at C
    rw [← hLL] at hL
    have HC := Lib.hid C; have HL := Lib.hid hL; have HD := Lib.hid hD; have HSB := Lib.hid hsB; have HLL := Lib.hid hLL
    clear hM hR ht C hL hD hsB hLL
    go_wp2_with fail
    refine HC.out.mono ?_
    rintro e w2 ⟨rfl, hb2⟩
    have B3 := J3.out.below hb2 J3.out.lt
    have K5 := Lib.hid B3
    have O2 := Lib.hid ((OW.out.below hb2).cut HL.out (fun i hi => (HD.out i (by have := HL.out; omega)).symm))
    have G2 := Lib.hid (KG1.out.trans (hb2.mono KG1.out.size))
    have hz2 := KG.out.size
    obtain ⟨b30, b31, b32, b33⟩ := B3.all
    clear B3 hb2 b10 b11 b12 b13 b20 b21 b22 b23
    go_wp2_with fail
    unfold ResN
    rw [← HSB.out, ← HLL.out]
    refine bodyPost_ret (results_cell rfl _ _ _ _ _ _ _ rfl (K5.out.set _ _) Tryz.underlying26 rfl (by kernel_rfl)) rfl ⟨_, rfl, ?_, (fun h => by cases h), ?_⟩
    ·exact ((O2.out.other (by dsimp only; omega) _).other (by dsimp only; omega) _).mono hz2
    ·exact (G2.out.setCell (by dsimp only; omega) _).setCell (by dsimp only; omega) _
def ShortR (w : World) (n : Nat) (X by' : Int) (e : Ending) (w' : World) : Prop :=
 ∃ p, e = .returned (.tuple #[.slice (some ⟨w.heap.size, 0, none⟩) n n, .int .u32 (X % by')]) ∧ Dig p n ∧ sumB p n = X / by' ∧ Own 110 w' w.heap.size (some ⟨w.heap.size, 0, none⟩) n n p ∧ Below w.heap.size w w'
set_option maxHeartbeats 2000000 in
theorem short_any (a : Option Addr) (n c : Nat) (o : Nat → Int) (by' : Int) (w : World) (hx : Rd w a n o) (dx : Dig o n) (hn : n ≤ 200000000) (h0 : 0 < by') (h1 : by' ≤ 999999999) :
  Calls Tryz.prog 93 #[.slice a n c, .int .u32 by'] w (ShortR w n (sumB o n) by') := by
 obtain ⟨nn, hnn⟩ : ∃ nn : Nat, nn = n := ⟨_, rfl⟩
 have hmk := run_make_row' (P := Tryz.prog) 24 110 (.int .u32 0) 4 Tryz.underlying24 info32 rfl .i64 .i64 n (by omega) (by omega)
 have HR := Lib.hid hx; have DX := Lib.hid dx
 have wb := IntWalk.u64_in by' (by omega)
 clear hx dx hnn
 go_enter Tryz.func93, Tryz.ntmps93
 go_wp2_with fail
 go_loopw [6, 7] (fun rv iv wr => ∃ i : Nat, i ≤ n ∧ iv = .int .i64 ((i : Int) - 1) ∧ (∃ p rest, rv = .int .u64 rest ∧ ShortIn o n by' i p rest ∧ wr.rowIs w.heap.size 110 n (uc p)) ∧ Below w.heap.size w wr) (fun _ iv _ => (1 + intOf iv).toNat)
 case atStart => exact ⟨n, by omega, rfl, ⟨_, _, rfl, ShortIn.start _ _ _, World.rowIs_made w (.int .u32 0) n 110⟩, by (repeat' (first | (with_reducible exact Below.refl _ _) | (with_reducible assumption) | (with_reducible refine Below.alloc ?_ ?_ _) | (with_reducible refine Below.drew ?_) | (with_reducible refine bdrewN ?_ _) | (with_reducible refine Below.setCell ?_ ?_ _) | (with_reducible refine Below.frame ?_ _) | go_size))⟩
 case round =>
  obtain ⟨i, hi, rfl, ⟨p, rest, rfl, hI, hR⟩, G⟩ := hrel
  have KM := Lib.hid hI; have KR := Lib.hid hR; have KG := Lib.hid G
  have hfz := hR.frozen
  have hbd := hI.bd h0
  clear hI hR G hmk
  by_cases hi0 : i = 0
  ·subst hi0
   obtain ⟨d1, d2⟩ := KM.out.done
   have HD := Lib.hid (And.intro d1 d2)
   have w1' := IntWalk.u32_in rest (by omega)
   rw [show (((0 : Nat) : Int) - 1) = -1 from rfl]
   clear d1 d2
   go_wp2_with fail
   go_ret2
   exact ⟨p, by rw [← HD.out.2]; rfl, KM.out.dig, HD.out.1, Own.of_rowIs KR.out (Nat.le_refl _) (fun i hi => by have := KM.out.dig i hi; omega), KG.out⟩
  ·obtain ⟨q, rfl⟩ : ∃ q, i = q + 1 := ⟨i - 1, by omega⟩
   rw [show (((q + 1 : Nat) : Int) - 1) = (q : Int) by omega]
   obtain ⟨b, off, rfl, hc⟩ := (HR.out.below KG.out).cells (by omega)
   have c1 : wr.cell? ⟨b, off + q, none⟩ = some (.int .u32 (o q)) := hc q (by omega)
   obtain ⟨vo, hco⟩ : ∃ vo, wr.cell? ⟨w.heap.size, q, none⟩ = some vo := ⟨_, KR.out.cell (i := q) (by omega)⟩
   have ho := DX.out q (by omega)
   have hpb := part_bd h0 hbd ho
   have hm1 : rest * 1000000000 ≤ 999999998 * 1000000000 := Int.mul_le_mul_of_nonneg_right (by omega) (by omega)
   have hm2 : 0 ≤ rest * 1000000000 := Int.mul_nonneg hbd.1 (by omega)
   have hmd : 0 ≤ (rest * 1000000000 + o q) % by' ∧ (rest * 1000000000 + o q) % by' < by' := ⟨Int.emod_nonneg _ (by omega), Int.emod_lt_of_pos _ h0⟩
   have ST := Lib.hid (KM.out.step h0 DX.out (by omega))
   have ec : 1000000000 * rest = rest * 1000000000 := Int.mul_comm _ _
   have w1' := IntWalk.u64_in (rest * 1000000000) (by omega)
   have w2' := IntWalk.u64_in (o q) (by omega)
   have w3' := IntWalk.u64_in (rest * 1000000000 + o q) (by omega)
   have t1 : (rest * 1000000000 + o q).tdiv by' = (rest * 1000000000 + o q) / by' := Int.tdiv_eq_ediv_of_nonneg (by omega)
   have t2 : (rest * 1000000000 + o q).tmod by' = (rest * 1000000000 + o q) % by' := Int.tmod_eq_emod_of_nonneg (by omega)
   have w4' := IntWalk.u64_in ((rest * 1000000000 + o q) / by') (by omega)
   have w5' := IntWalk.u32_in ((rest * 1000000000 + o q) / by') (by omega)
   have w6' := IntWalk.u64_in ((rest * 1000000000 + o q) % by') (by omega)
   have hne : ¬ by' = 0 := by omega
   have hlt : q < n := by omega
   clear hc ho hpb hm1 hm2 hmd hbd
   go_wp2_with fail
   go_roundw
   case rel => exact ⟨q, by omega, rfl, ⟨_, _, rfl, ST.out, rows_upd KR.out _⟩, KG.out.setCell (by dsimp only; omega) _⟩
   case measure => simp [intOf]; omega
theorem ownBlock_ge {w : World} {base T n : Nat} {v : Value} {xs : List Value} (h : w.ownsRow base T 1 v n xs) {g : Nat} (hg : v.ownBlock = some g) : base ≤ g := by
 rcases h.2 with ⟨rfl, _⟩ | ⟨g', cap, cur, rfl, hb, _⟩
 ·cases hg
 ·simp only [Value.ownBlock, Option.some.injEq] at hg; omega
theorem cf_wide (args : Array Value) (w : World) : (callFunc 144 args).run Tryz.prog w = .ok (.enter 144 args) w := by kernel_rfl
set_option maxHeartbeats 1000000 in
theorem wideFn (w : World) (b1 b2 : Nat) (p : Option Addr) (f : Nat → Int) (nx d : Nat) (by' : Int) (k : Nat) (c1 : w.cell? ⟨b1, 0, none⟩ = some (.slice p nx d)) (c2 : w.cell? ⟨b2, 0, none⟩ = some (.int .u32 by')) (hp : Rd w p nx f)
  (hx : nx ≤ 1000000000) (hk : k ≤ 1000000000) (hb : 0 ≤ by' ∧ by' ≤ 999999999) (r1 : 0 ≤ part f nx k ∧ part f nx k ≤ 999999999) :
  Calls Tryz.prog 144 #[.int .i64 k, .pointer (some ⟨b1, 0, none⟩), .pointer (some ⟨b2, 0, none⟩)] w fun e w' => e = .returned (.int .i64 (part f nx k * by')) ∧ Below w.heap.size w w' := by
 have P := Lib.hid (fun (w1 : World) (h : ∃ m, w1 = w.drewN m) => part_any p nx d f k w1 (by obtain ⟨m, rfl⟩ := h; exact hp.drewN m) hx hk)
 have m1 : part f nx k * by' ≤ 999999999 * 999999999 := Int.mul_le_mul r1.2 hb.2 hb.1 (by omega)
 have m2 : 0 ≤ part f nx k * by' := Int.mul_nonneg r1.1 hb.1
 have e1 := IntWalk.i64_in (part f nx k * by') (by omega)
 have e2 := IntWalk.i64_in by' (by omega)
 generalize part f nx k = u at *
 clear hp m1 m2
 go_enter Tryz.func144, Tryz.ntmps144
 go_wp2_with fail
 go_quiet (first | with_reducible exact quietOf (P.out _ ⟨_, rfl⟩))
 go_wp2
 go_ret
 exact ⟨rfl, bdrewN (Below.refl _ _) _⟩
set_option maxHeartbeats 1000000 in
theorem wide_any (a : Option Addr) (n c : Nat) (o : Nat → Int) (by' : Int) (w : World) (hx : Rd w a n o) (dx : Dig o n) (hn : n ≤ 200000000) (hb : 0 ≤ by' ∧ by' ≤ 999999999) :
  Calls Tryz.prog 123 #[.slice a n c, .int .u32 by'] w fun e w' => ∃ g p, e = .returned (.slice (some ⟨g, 0, none⟩) (n + 1) (n + 1)) ∧ Dig p (n + 1) ∧ sumB p (n + 1) = sumB o n * by' ∧ Own 110 w' w.heap.size (some ⟨g, 0, none⟩) (n + 1) (n + 1) p ∧ Below w.heap.size w w' := by
 have hp : ∀ k, 0 ≤ part o n k ∧ part o n k ≤ 999999999 := by
  intro k
  unfold part
  split
  ·have := dx k (by omega); omega
  ·omega
 obtain ⟨N, hN⟩ : ∃ N, N = n + 1 := ⟨_, rfl⟩
 have hs : sumB (fun k => part o n k * by') N = sumB o n * by' := by rw [sumB_times, sumB_part _ (by omega)]
 have hbd := sumB_bd dx
 have hlt : sumB o n * by' < (pw N : Int) := by
  rw [hN, pw_succ]
  have h1 : sumB o n * by' ≤ sumB o n * 999999999 := Int.mul_le_mul_of_nonneg_left hb.2 hbd.1
  omega
 have hfit := (cS_fits (f := fun k => part o n k * by') (n := N) (by rw [hs]; exact Int.mul_nonneg hbd.1 hb.1) (by rw [hs]; exact hlt)).2
 have HS := Lib.hid (hfit.trans hs)
 have HR := Lib.hid hx
 obtain ⟨W, hW⟩ : ∃ W, W = ((w.alloc (.cells #[.slice a n c] 24)).alloc (.cells #[.int .u32 by'] 110)) := ⟨_, rfl⟩
 have hbW : Below w.heap.size w W := by rw [hW]; exact ((Below.refl _ _).alloc (by go_size) _).alloc (by go_size) _
 have k1 : W.cell? ⟨w.heap.size, 0, none⟩ = some (.slice a n c) := by
  have h : W.heap[w.heap.size]? = some (.cells #[.slice a n c] 24 (0, 0)) := by
   rw [hW, Below.heap_alloc _ _ _ (by simp)]; exact heap_alloc_new w _
  rw [cell_of_row _ _ _ _ _ _ h]; rfl
 have k2 : W.cell? ⟨w.heap.size + 1, 0, none⟩ = some (.int .u32 by') := by
  have h := heap_alloc_new (w.alloc (.cells #[.slice a n c] 24)) (.cells #[.int .u32 by'] 110)
  rw [World.size_alloc, ← hW] at h
  rw [cell_of_row _ _ _ _ _ _ h]; rfl
 have hsz : w.heap.size + 1 < W.heap.size := by rw [hW]; simp
 have CA := Lib.hid (carry_any 144 #[.pointer (some ⟨w.heap.size, 0, none⟩), .pointer (some ⟨w.heap.size + 1, 0, none⟩)] N (fun k => part o n k * by') 0 by' W (by omega) cf_wide
  (fun k hk w1 hb1 => wideFn w1 w.heap.size (w.heap.size + 1) a o n c by' k ((hb1.cell (p := ⟨w.heap.size, 0, none⟩) (by dsimp only; omega)).trans k1) ((hb1.cell (p := ⟨w.heap.size + 1, 0, none⟩) (by dsimp only; omega)).trans k2)
   (HR.out.below (hbW.trans (hb1.mono hbW.size))) (by omega) (by omega) hb (hp k))
  (fun k _ => by
   have h1 := hp k
   have h2 : part o n k * by' ≤ 999999999 * by' := Int.mul_le_mul_of_nonneg_right h1.2 hb.1
   have h3 : 0 ≤ part o n k * by' := Int.mul_nonneg h1.1 hb.1
   omega) (by omega) (by omega) (by omega) (by omega))
 have HW := Lib.hid hW
 have HB := Lib.hid hbW
 have ew : IntKind.i64.wrap ((n : Int) + 1) = (N : Int) := by rw [IntWalk.i64_in _ (by omega)]; omega
 have HN := Lib.hid hN
 clear hx dx hp hs hbd hlt hfit hW hbW k1 k2 hsz hN
 go_enter Tryz.func123, Tryz.ntmps123
 go_wp2_with fail
 rw [show ((w.alloc (.cells #[.slice a n c] 24)).alloc (.cells #[.int .u32 by'] 110)) = W from HW.out.symm]
 refine CA.out.mono ?_
 rintro e w1 ⟨rfl, hO, hb1⟩
 have HO := Lib.hid hO
 have HB1 := Lib.hid (HB.out.trans (hb1.mono HB.out.size))
 clear hO hb1 CA
 go_wp2
 go_ret
 refine ⟨_, cD (fun k => part o n k * by'), by rw [← HN.out]; rfl, cD_Dig _ _, by rw [← HN.out]; exact HS.out, ?_, HB1.out⟩
 rw [← HN.out]
 exact HO.out.mono HB.out.size
theorem Own.short {T : Nat} {w : World} {base : Nat} {a : Option Addr} {n cap L : Nat} {o o' : Nat → Int} (h : Own T w base a n cap o) (hL : L ≤ n) (e : ∀ i, i < L → o i = o' i) : Own T w base a L cap o' := by
 refine ⟨Nat.le_trans hL h.le, ?_, fun i hi => by rw [← e i hi]; exact h.rng i (by omega)⟩
 rcases h.place with ⟨e0, h0, h1⟩ | ⟨g, cur, ha, hbg, hg, hcap, hc⟩
 ·exact Or.inl ⟨e0, by omega, by omega⟩
 ·exact Or.inr ⟨g, cur, ha, hbg, hg, hcap, fun i hi => by rw [hc i (by omega)]; show some (Value.int .u32 (o i)) = _; rw [e i hi]⟩
theorem own_fit {T : Nat} {w : World} {base : Nat} {a : Option Addr} {n cap N : Nat} {o : Nat → Int} (h : Own T w base a n cap o) (hd : Dig o n) (hs : sumB o n = (N : Int)) : Own T w base a (lenB N) cap (dgi N) := by
 have e : (sumB o n).toNat = N := by omega
 have h1 := lenB_le_of hd
 rw [e] at h1
 refine h.short h1 fun i hi => ?_
 have h2 := dg_sumB hd i (by omega)
 rw [e] at h2
 exact h2.symm
end Go.Proofs.YthcccdjfedbnfaaGreatDoor.Limb
namespace Go.Proofs.YthcccdjfedbnfaaGreatDoor.Book
open Go.RowKit Go.Sort Go.Fresh Go.Proofs.YthcccdjfedbnfaaGreatDoor.Limb
end Go.Proofs.YthcccdjfedbnfaaGreatDoor.Book
namespace Go.Proofs.YthcccdjfedbnfaaGreatDoor.Limb
open Go.RowKit Go.Sort Go.Fresh
theorem Own.keep {T : Nat} {w w' : World} {base : Nat} {a : Option Addr} {n cap : Nat} {o : Nat → Int} (h : Own T w base a n cap o) (hk : ∀ p, a = some p → w'.heap[p.block]? = w.heap[p.block]?) : Own T w' base a n cap o := by
 refine ⟨h.le, ?_, h.rng⟩
 rcases h.place with h0 | ⟨g, cur, ha, hbg, hg, hcap, hc⟩
 ·exact Or.inl h0
 ·exact Or.inr ⟨g, cur, ha, hbg, (hk _ ha).trans hg, hcap, hc⟩
theorem Own.blk {T : Nat} {w : World} {base : Nat} {a : Option Addr} {n cap : Nat} {o : Nat → Int} (h : Own T w base a n cap o) {p : Addr} (hp : a = some p) : p = ⟨p.block, 0, none⟩ ∧ base ≤ p.block ∧ p.block < w.heap.size := by
 rcases h.place with h0 | ⟨g, cur, ha, hbg, hg, hcap, hc⟩
 ·rw [h0.1] at hp; cases hp
 ·obtain rfl := Option.some.inj (ha.symm.trans hp)
  exact ⟨rfl, hbg, lt_of_block hg⟩
theorem Own.fz {T : Nat} {w : World} {base g n cap : Nat} {o : Nat → Int} (h : Own T w base (some ⟨g, 0, none⟩) n cap o) (i : Nat) : w.frozen? ⟨g, i, none⟩ = false := by
 rcases h.place with h0 | ⟨g', cur, ha, hbg, hg, hcap, hc⟩
 ·cases h0.1
 ·cases ha; exact frozen_of_row w _ i cur T hg
theorem Own.cell {T : Nat} {w : World} {base g n cap : Nat} {o : Nat → Int} (h : Own T w base (some ⟨g, 0, none⟩) n cap o) {i : Nat} (hi : i < n) : w.cell? ⟨g, i, none⟩ = some (.int .u32 (o i)) := by
 rcases h.place with h0 | ⟨g', cur, ha, hbg, hg, hcap, hc⟩
 ·cases h0.1
 ·cases ha
  rw [cell_of_row _ _ _ _ _ _ hg]
  exact hc i hi
theorem Own.less {T : Nat} {w : World} {base : Nat} {a : Option Addr} {n cap L : Nat} {o : Nat → Int} (h : Own T w base a n cap o) (hL : L ≤ n) : Own T w base a L cap o := by
 refine ⟨Nat.le_trans hL h.le, ?_, fun i hi => h.rng i (by omega)⟩
 rcases h.place with ⟨e0, h0, h1⟩ | ⟨g, cur, ha, hbg, hg, hcap, hc⟩
 ·exact Or.inl ⟨e0, by omega, by omega⟩
 ·exact Or.inr ⟨g, cur, ha, hbg, hg, hcap, fun i hi => hc i (by omega)⟩
theorem Own.put {T : Nat} {w : World} {base g n cap : Nat} {o : Nat → Int} (h : Own T w base (some ⟨g, 0, none⟩) n cap o) {t : Nat} (ht : t < n) {v : Int} (hv : 0 ≤ v ∧ v ≤ 4294967295) :
  Own T (w.setCell ⟨g, t, none⟩ (.int .u32 v)) base (some ⟨g, 0, none⟩) n cap (upd o t v) := by
 refine ⟨h.le, ?_, fun i hi => ?_⟩
 ·rcases h.place with h0 | ⟨g', cur, ha, hbg, hg, hcap, hc⟩
  ·cases h0.1
  ·cases ha
   refine Or.inr ⟨g, cur.setIfInBounds t (.int .u32 v), rfl, hbg, heap_setCell_same w g t cur T _ hg, by simpa using hcap, fun i hi => ?_⟩
   rw [Array.getElem?_setIfInBounds]
   by_cases e : t = i
   ·subst e
    have := h.le
    rw [if_pos rfl, if_pos (by omega)]
    show _ = some (Value.int .u32 (upd o t v t)); rw [upd_same]
   ·rw [if_neg e]
    show _ = some (Value.int .u32 (upd o t v i)); rw [upd_ne _ _ (fun h => e h.symm)]
    exact hc i hi
 ·by_cases e : i = t
  ·subst e; rw [upd_same]; exact hv
  ·rw [upd_ne _ _ e]; exact h.rng i hi
end Go.Proofs.YthcccdjfedbnfaaGreatDoor.Limb
namespace Go.Proofs.YthcccdjfedbnfaaGreatDoor.Book
open Go.RowKit Go.Sort Go.Fresh Go.Proofs.YthcccdjfedbnfaaGreatDoor.Limb
theorem ucs_upd {o : Nat → Int} {n : Nat} {v : Int} : ucs (upd o n v) n = ucs o n := by
 unfold ucs
 refine List.map_congr_left fun i hi => ?_
 rw [List.mem_range] at hi
 show Value.int .u32 (upd o n v i) = .int .u32 (o i)
 rw [upd_ne _ _ (by omega)]
theorem push_any {w : World} {base : Nat} {a : Option Addr} {n cap : Nat} {o : Nat → Int} (h : Own 110 w base a n cap o) (hn : n ≤ 1000000000) (hb : base ≤ w.heap.size) {gs : Nat} {v : Int} (hc : w.cell? ⟨gs, 0, none⟩ = some (.int .u32 v)) (hv : 0 ≤ v ∧ v ≤ 4294967295) (ty m c : Nat) (hm : m = 1) :
  ∃ a' cap' w', (Builtin.append_ #[24, 24] ty #[.slice a n cap, .slice (some ⟨gs, 0, none⟩) m c]).run Tryz.prog w = .ok (.slice a' (n + 1) cap') w' ∧ Own 110 w' base a' (n + 1) cap' (upd o n v) ∧
   ((a' = a ∧ cap' = cap ∧ w.grownBy w' (a.map (·.block))) ∨ ((∃ g, a' = some ⟨g, 0, none⟩ ∧ w.heap.size ≤ g) ∧ w.grownBy w' none ∧ cap < n + 1)) := by
 subst hm
 obtain ⟨i0, hi, hz0, hz1, hz2⟩ := info_parts info32
 have hnews : ∀ j u, [Value.int .u32 v][j]? = some u → w.cell? ((⟨gs, 0, none⟩ : Addr).add j) = some u := by
  intro j u hj
  match j, hj with
  | 0, hj =>
   simp at hj; subst hj
   rw [Addr.add_lit]; exact hc
 have h1 : ∀ u ∈ [Value.int .u32 v], u.oneCell' = true := by intro u hu; simp at hu; subst hu; rfl
 have hrng : ∀ i, i < n + 1 → 0 ≤ upd o n v i ∧ upd o n v i ≤ 4294967295 := by
  intro i hi
  by_cases e : i = n
  ·subst e; rw [upd_same]; exact hv
  ·rw [upd_ne _ _ e]; exact h.rng i (by omega)
 have grownOwn : ∀ old, old < n + 1 → (w.drew.alloc (.cells ((ucs o n).toArray ++ [Value.int .u32 v].toArray ++ Builtin.zeroCells (Value.int .u32 0).cells (grownCap w (n + 1) old 110 - (n + 1))) 110)).heap.size = w.heap.size + 1 ∧
   Own 110 (w.drew.alloc (.cells ((ucs o n).toArray ++ [Value.int .u32 v].toArray ++ Builtin.zeroCells (Value.int .u32 0).cells (grownCap w (n + 1) old 110 - (n + 1))) 110)) base (some ⟨w.heap.size, 0, none⟩) (n + 1) (grownCap w (n + 1) old 110) (upd o n v) ∧
   w.grownBy (w.drew.alloc (.cells ((ucs o n).toArray ++ [Value.int .u32 v].toArray ++ Builtin.zeroCells (Value.int .u32 0).cells (grownCap w (n + 1) old 110 - (n + 1))) 110)) none := by
  intro old ho
  have hge := grownCap_ge w (n + 1) old 110
  refine ⟨by simp, ⟨hge, Or.inr ⟨w.heap.size, _, rfl, hb, heap_alloc_new w.drew _, ?_, fun i hi => ?_⟩, hrng⟩, ⟨rfl, rfl, rfl, by simp, fun k hk _ => heap_alloc_old w.drew _ hk⟩⟩
  ·simp only [Array.size_append, List.size_toArray, size_zeroCells, ucs_len, List.length_cons, List.length_nil]
   show _ ≤ n + (0 + 1) + _ * 1
   omega
  ·rw [Array.getElem?_append_left (by simp only [Array.size_append, List.size_toArray, ucs_len, List.length_cons, List.length_nil]; omega), ← Array.getElem?_toList, Array.toList_append]
   show (ucs o n ++ [Value.int .u32 v])[i]? = some (uc (upd o n v) i)
   rw [← ucs_get (upd o n v) (n + 1) i hi, ucs_succ, ucs_upd]
   show _ = (ucs o n ++ [Value.int .u32 (upd o n v n)])[i]?
   rw [upd_same]
 rcases h.place with ⟨rfl, rfl, rfl⟩ | ⟨g, cur, rfl, hbg, hg, hcap, hcc⟩
 ·have hr := run_append_nil (P := Tryz.prog) w 24 ty 110 i0 (.int .u32 0) Tryz.underlying24 hi hz0 ⟨gs, 0, none⟩ 1 c [.int .u32 v] (by rw [hz1]; rfl) hnews (by omega) (by omega) (by rw [hz2]; omega)
  have hgr := grownOwn 0 (by omega)
  simp only [Nat.zero_add, ucs, List.range_zero, List.map_nil, Array.empty_append] at hgr
  refine ⟨_, _, _, hr, hgr.2.1, Or.inr ⟨⟨_, rfl, Nat.le_refl _⟩, hgr.2.2, by omega⟩⟩
 ·by_cases hroom : n + 1 ≤ cap
  ·have hr := run_append_room (P := Tryz.prog) w 24 ty 110 i0 Tryz.underlying24 hi g n cap cur hg ⟨gs, 0, none⟩ 1 c [.int .u32 v] (by rw [hz1]; rfl) hnews h1 hroom (by rw [hz1]; simp; omega)
   refine ⟨_, _, _, hr, ⟨hroom, Or.inr ⟨g, _, rfl, hbg, setRow_heap w g cur _ _ _ hg, ?_, fun i hi => ?_⟩, hrng⟩, Or.inl ⟨rfl, rfl, ⟨rfl, rfl, rfl, by simp, fun k _ hk => setRow_other w g k _ (fun e => hk (by simp [e]))⟩⟩⟩
   ·simp only [List.size_toArray, List.length_append, List.length_take, List.length_drop, Array.length_toList, List.length_cons, List.length_nil]
    omega
   ·rw [hz1, Nat.mul_one]
    rw [List.getElem?_toArray, List.append_assoc]
    have hlt : (cur.toList.take n).length = n := by simp; omega
    by_cases e : i < n
    ·rw [List.getElem?_append_left (by rw [hlt]; exact e), List.getElem?_take, if_pos e]
     have := hcc i e
     rw [Array.getElem?_toList, this]
     show some (Value.int .u32 (o i)) = some (Value.int .u32 (upd o n v i))
     rw [upd_ne _ _ (by omega)]
    ·obtain rfl : i = n := by omega
     rw [List.getElem?_append_right (by rw [hlt]; exact Nat.le_refl _), hlt, Nat.sub_self]
     show some (Value.int .u32 v) = some (Value.int .u32 (upd o i v i))
     rw [upd_same]
  ·have holds : ∀ j u, (ucs o n)[j]? = some u → w.cell? ((⟨g, 0, none⟩ : Addr).add j) = some u := by
    intro j u hj
    obtain ⟨hj1, rfl⟩ := ucs_get' hj
    rw [Addr.add_lit, Nat.zero_add, cell_of_row _ _ _ _ _ _ hg]
    exact hcc j hj1
   have hle := h.le
   have hr := run_append_grow (P := Tryz.prog) w 24 ty 110 i0 (.int .u32 0) Tryz.underlying24 hi hz0 ⟨g, 0, none⟩ n cap (ucs o n) (by rw [ucs_len, hz1]; omega) holds ⟨gs, 0, none⟩ 1 c [.int .u32 v] (by rw [hz1]; rfl) hnews (by omega) (by omega) (growslice_fits (by omega) (by rw [hz2]; omega))
   have hgr := grownOwn cap (by omega)
   exact ⟨_, _, _, hr, hgr.2.1, Or.inr ⟨⟨_, rfl, Nat.le_refl _⟩, hgr.2.2, by omega⟩⟩
theorem wpList_push {ops : Array Oper} {rest : List Oper} {oo : Oper} {ac : Act} {Q : Exit → Act → World → Prop} (hgd : oo.guard = none) (s x : Operand)
  (ho : oo.op = .call { callee := .builtin .append, args := #[s, x], argTypes := #[24, 24] })
  {w : World} {base : Nat} {a : Option Addr} {n cap : Nat} {o : Nat → Int} (hs : ac.eval s = .slice a n cap) (h : Own 110 w base a n cap o) (hn : n ≤ 1000000000) (hb : base ≤ w.heap.size)
  {gs : Nat} {v : Int} {m c : Nat} (hx : ac.eval x = .slice (some ⟨gs, 0, none⟩) m c) (hc : w.cell? ⟨gs, 0, none⟩ = some (.int .u32 v)) (hv : 0 ≤ v ∧ v ≤ 4294967295) (hm : m = 1)
  (hK : ∀ a' cap' w', Own 110 w' base a' (n + 1) cap' (upd o n v) → ((a' = a ∧ cap' = cap ∧ w.grownBy w' (a.map (·.block))) ∨ ((∃ g, a' = some ⟨g, 0, none⟩ ∧ w.heap.size ≤ g) ∧ w.grownBy w' none ∧ cap < n + 1)) →
   wpList Tryz.prog ops Q rest (ac.put oo.dst (.slice a' (n + 1) cap')) w') : wpList Tryz.prog ops Q (oo :: rest) ac w := by
 refine wpList_plain hgd fun K hK' => ?_
 obtain ⟨a', cap', w', hr, h2, h3⟩ := push_any h hn hb hc hv oo.type m c hm
 unfold Oper.wp execOp
 simp only [ho, resolve, invoke, builtin, Sem.run_bind, Sem.run_pure, Result.andThen_ok, List.map_toArray, List.map_cons, List.map_nil, hs, hx, hr]
 exact hK' _ _ (hK _ _ _ h2 h3)
end Go.Proofs.YthcccdjfedbnfaaGreatDoor.Book
namespace Go.Proofs.YthcccdjfedbnfaaGreatDoor.Limb
open Go.RowKit Go.Sort Go.Fresh
theorem pw_div_succ (M k : Nat) : M / pw k / 1000000000 = M / pw (k + 1) := by rw [pw_succ, Nat.div_div_eq_div_mul]
theorem pw_div_pos {M k : Nat} : 0 < M / pw k ↔ k < lenB M := by
 constructor
 ·intro h
  refine lenB_ge ?_
  rcases Nat.lt_or_ge M (pw k) with h1 | h1
  ·rw [Nat.div_eq_of_lt h1] at h; omega
  ·exact h1
 ·intro h
  exact Nat.div_pos (pw_le_of_lenB h) (pw_pos k)
theorem u64_of_neg {M : Nat} (h0 : 0 < M) (h1 : M ≤ 9223372036854775808) : ∃ U, IntKind.u64.wrap (-(M : Int)) = U ∧ IntKind.u64.wrap (-U) = (M : Int) := by
 refine ⟨18446744073709551616 - (M : Int), ?_, ?_⟩
 ·show (-(M : Int)) % 18446744073709551616 = _
  omega
 ·show (-(18446744073709551616 - (M : Int))) % 18446744073709551616 = _
  omega
theorem len3 {M : Nat} (h : M ≤ 9223372036854775808) : lenB M ≤ 3 := lenB_le (Nat.lt_of_le_of_lt h (by decide))
theorem neg_canon (M : Nat) (h0 : 0 < M) : (true && decide (0 < lenB M)) = decide (-(M : Int) < 0) := by
 have h1 : 0 < lenB M := by
  have := lenB_pos (m := M) (by omega); omega
 rw [decide_eq_true h1, decide_eq_true (show -(M : Int) < 0 by omega)]; rfl
theorem pos_canon (M : Nat) : (false && decide (0 < lenB M)) = decide ((M : Int) < 0) := by
 rw [decide_eq_false (show ¬ (M : Int) < 0 by omega)]; rfl
set_option maxRecDepth 100000 in
set_option maxHeartbeats 2000000 in
theorem of64_pos (M : Nat) (w : World) (h : M ≤ 9223372036854775807) : Calls Tryz.prog 51 #[.int .i64 (M : Int)] w (ResN w (M : Int)) := by
 obtain ⟨i0, hi, hz0, hz1, hz2⟩ := info_parts info32
 have e1 := IntWalk.u64_in (M : Int) (by omega)
 have hlt : ¬ (M : Int) < 0 := by omega
 have hge : (0 : Int) ≤ (M : Int) := by omega
 have HM := Lib.hid (show M ≤ 9223372036854775808 by omega)
 clear h
 go_enter Tryz.func51, Tryz.ntmps51
 have HLN := Lib.hid (len3 HM.out)
 go_wp2_with fail
 go_loopw [3, 4] (fun x v wr => ∃ k : Nat, k ≤ lenB M ∧ x = .int .u64 ((M / pw k : Nat) : Int) ∧ wr.ownsRow (w.heap.size + 1) 110 1 v k (ucs (dgi M) k) ∧ Below w.heap.size w wr ∧ Bx wr w.heap.size 26 (.bool false) (.slice none 0 0)) (fun x _ _ => (intOf x).toNat)
 case atStart => exact ⟨0, Nat.zero_le _, by rw [pw_zero, Nat.div_one], Own.row_nil _ _ _, by (repeat' (first | (with_reducible exact Below.refl _ _) | (with_reducible assumption) | (with_reducible refine Below.alloc ?_ ?_ _) | (with_reducible refine Below.drew ?_) | (with_reducible refine bdrewN ?_ _) | (with_reducible refine Below.setCell ?_ ?_ _) | (with_reducible refine Below.frame ?_ _) | go_size)), Bx.new _ _ _ _⟩
 case round =>
  obtain ⟨k, hk, rfl, hO, hG, hB⟩ := hrel
  obtain ⟨X, hX⟩ : ∃ X, X = M / pw k := ⟨_, rfl⟩
  have HXM := Lib.hid hX
  have HXle := Lib.hid (show X ≤ 9223372036854775808 by rw [hX]; exact Nat.le_trans (Nat.div_le_self _ _) HM.out)
  have HP := Lib.hid (pw_div_pos (M := M) (k := k))
  have HD := Lib.hid (pw_div_succ M k)
  rw [← hX] at HP HD ⊢
  have HO := Lib.hid hO; have HG := Lib.hid hG; have HB := Lib.hid hB; have HK := Lib.hid hk
  clear hO hG hB hX hk
  by_cases h0 : 0 < X
  ·have hk2 : k < lenB M := HP.out.1 h0
   have t1 : (X : Int).tmod 1000000000 = dgi M k := by
    rw [Int.tmod_eq_emod_of_nonneg (by omega)]
    have hdg : X % 1000000000 = dg M k := by rw [HXM.out]; rfl
    show _ = ((dg M k : Nat) : Int); omega
   obtain ⟨Y, hY⟩ : ∃ Y, Y = M / pw (k + 1) := ⟨_, rfl⟩
   rw [← hY] at HD
   have HY := Lib.hid hY
   clear hY
   have t2 : (X : Int).tdiv 1000000000 = (Y : Int) := by rw [Int.tdiv_eq_ediv_of_nonneg (by omega), ← HD.out]; omega
   have hdb : 0 ≤ dgi M k ∧ dgi M k ≤ 999999999 := by have := dgi_Dig M (k + 1) k (by omega); omega
   have u1 := IntWalk.u32_in (dgi M k) (by omega)
   have u2 := IntWalk.u64_in (dgi M k) (by omega)
   have u3 := IntWalk.u64_in (Y : Int) (by have h9 := HD.out; have := HXle.out; omega)
   have hx0 : 0 < (X : Int) := by omega
   have hL3 := HLN.out
   have HLE := Lib.hid (show Y < X by have h9 := HD.out; omega)
   go_wp2_with (first | (at_builtin; refine wpList_append_own _ rfl _ _ 24 rfl (w.heap.size + 1) 110 i0 (.int .u32 0) 1 4 Tryz.underlying24 hi hz0 hz1 hz2 rfl (by decide) _ _ _ rfl (HO.out.alloc _) ⟨wr.heap.size, 0, none⟩ 1 1 [.int .u32 (dgi M k)] rfl rfl ?c1 ?c2 ?c3 ?c4 ?c5 ?_))
   case c1 =>
    intro t u ht
    match t, ht with
    | 0, ht => simp at ht; subst ht; simp [Addr.add]
   case c2 => intro u hu; simp at hu; subst hu; rfl
   case c3 => unfold maxLen; omega
   case c4 => omega
   case c5 => have := HB.out.lt; simp; omega
   intro v' w1 hown' hgrow _
   have O2 := Lib.hid (show w1.ownsRow (w.heap.size + 1) 110 1 v' (k + 1) (ucs (dgi M) (k + 1)) by rw [ucs_succ]; exact hown')
   have G2 := Lib.hid ((HG.out.alloc HG.out.size _).grown hgrow (by have := HG.out.size; simp; omega) (fun g hg => Nat.le_of_succ_le (ownBlock_ge HO.out hg)))
   have B2 := Lib.hid ((HB.out.alloc (.cells #[.int .u32 (dgi M k)] 110)).of (hgrow.block w.heap.size (HB.out.alloc _).lt (fun e => by have := ownBlock_ge HO.out e.symm; omega)))
   clear hown' hgrow
   go_wp2_with fail
   go_roundw
   case rel => exact ⟨k + 1, by omega, by rw [HY.out], O2.out, G2.out, B2.out⟩
   case measure => simp [intOf]; have h9 := HLE.out; omega
  ·obtain rfl : X = 0 := by omega
   obtain rfl : k = lenB M := by have := HK.out; have := mt HP.out.2 (by omega); omega
   obtain ⟨a, cap, rfl, hOw, hcap⟩ := Own.of_row HO.out (fun i hi => by have := dgi_Dig M (lenB M) i hi; omega)
   have HOW := Lib.hid hOw
   have HCP := Lib.hid hcap
   clear h0 hOw hcap
   have hL3 := HLN.out
   have CUT := Lib.hid (cut_any false a (lenB M) cap (dgi M) wr HOW.out.rd (dgi_Dig _ _) (by omega) HOW.out.le HCP.out)
   rw [sumB_dgi, Int.toNat_natCast, pos_canon M] at CUT
   go_wp2_with fail
   refine CUT.out.mono ?_
   rintro e w2 ⟨rfl, hb2⟩
   have B3 := HB.out.below hb2 HB.out.lt
   have HB3 := Lib.hid B3
   have HO3 := Lib.hid (HOW.out.below hb2)
   have HG3 := Lib.hid (HG.out.trans (hb2.mono HG.out.size))
   obtain ⟨b30, b31, b32, b33⟩ := B3.all
   clear B3 hb2 CUT
   go_wp2_with fail
   refine bodyPost_ret (results_cell rfl _ _ _ _ _ _ _ rfl (HB3.out.set _ _) Tryz.underlying26 rfl (by kernel_rfl)) rfl ⟨a, by first | (rw [show ((M : Int)).natAbs = M by omega]; done) | (rw [show ((M : Int)).natAbs = M by omega, decide_eq_true (show -(M : Int) < 0 by omega)]), ?_, ?_, ?_⟩
   ·rw [show ((M : Int)).natAbs = M by omega]; exact (((HO3.out.cut (Nat.le_refl _) (fun i _ => rfl)).other (by dsimp only; omega) _).other (by dsimp only; omega) _).mono (by omega)
   ·rw [show ((M : Int)).natAbs = M by omega]; intro h; have h1 := HO3.out.le; have h2 := HCP.out h; omega
   ·exact (HG3.out.setCell (by dsimp only; omega) _).setCell (by dsimp only; omega) _
set_option maxRecDepth 100000 in
set_option maxHeartbeats 2000000 in
theorem of64_neg (M : Nat) (w : World) (h0 : 0 < M) (h : M ≤ 9223372036854775808) : Calls Tryz.prog 51 #[.int .i64 (-(M : Int))] w (ResN w (-(M : Int))) := by
 obtain ⟨i0, hi, hz0, hz1, hz2⟩ := info_parts info32
 obtain ⟨U, e1, e2⟩ := u64_of_neg h0 h
 have hlt : -(M : Int) < 0 := by omega
 have H0 := Lib.hid h0
 have hp0 : (0 : Int) < (M : Int) := by omega
 have HM := Lib.hid (show M ≤ 9223372036854775808 by omega)
 clear h
 go_enter Tryz.func51, Tryz.ntmps51
 have HLN := Lib.hid (len3 HM.out)
 go_wp2_with fail
 go_loopw [3, 4] (fun x v wr => ∃ k : Nat, k ≤ lenB M ∧ x = .int .u64 ((M / pw k : Nat) : Int) ∧ wr.ownsRow (w.heap.size + 1) 110 1 v k (ucs (dgi M) k) ∧ Below w.heap.size w wr ∧ Bx wr w.heap.size 26 (.bool false) (.slice none 0 0)) (fun x _ _ => (intOf x).toNat)
 case atStart => exact ⟨0, Nat.zero_le _, by rw [pw_zero, Nat.div_one], Own.row_nil _ _ _, by (repeat' (first | (with_reducible exact Below.refl _ _) | (with_reducible assumption) | (with_reducible refine Below.alloc ?_ ?_ _) | (with_reducible refine Below.drew ?_) | (with_reducible refine bdrewN ?_ _) | (with_reducible refine Below.setCell ?_ ?_ _) | (with_reducible refine Below.frame ?_ _) | go_size)), Bx.new _ _ _ _⟩
 case round =>
  obtain ⟨k, hk, rfl, hO, hG, hB⟩ := hrel
  obtain ⟨X, hX⟩ : ∃ X, X = M / pw k := ⟨_, rfl⟩
  have HXM := Lib.hid hX
  have HXle := Lib.hid (show X ≤ 9223372036854775808 by rw [hX]; exact Nat.le_trans (Nat.div_le_self _ _) HM.out)
  have HP := Lib.hid (pw_div_pos (M := M) (k := k))
  have HD := Lib.hid (pw_div_succ M k)
  rw [← hX] at HP HD ⊢
  have HO := Lib.hid hO; have HG := Lib.hid hG; have HB := Lib.hid hB; have HK := Lib.hid hk
  clear hO hG hB hX hk
  by_cases h0 : 0 < X
  ·have hk2 : k < lenB M := HP.out.1 h0
   have t1 : (X : Int).tmod 1000000000 = dgi M k := by
    rw [Int.tmod_eq_emod_of_nonneg (by omega)]
    have hdg : X % 1000000000 = dg M k := by rw [HXM.out]; rfl
    show _ = ((dg M k : Nat) : Int); omega
   obtain ⟨Y, hY⟩ : ∃ Y, Y = M / pw (k + 1) := ⟨_, rfl⟩
   rw [← hY] at HD
   have HY := Lib.hid hY
   clear hY
   have t2 : (X : Int).tdiv 1000000000 = (Y : Int) := by rw [Int.tdiv_eq_ediv_of_nonneg (by omega), ← HD.out]; omega
   have hdb : 0 ≤ dgi M k ∧ dgi M k ≤ 999999999 := by have := dgi_Dig M (k + 1) k (by omega); omega
   have u1 := IntWalk.u32_in (dgi M k) (by omega)
   have u2 := IntWalk.u64_in (dgi M k) (by omega)
   have u3 := IntWalk.u64_in (Y : Int) (by have h9 := HD.out; have := HXle.out; omega)
   have hx0 : 0 < (X : Int) := by omega
   have hL3 := HLN.out
   have HLE := Lib.hid (show Y < X by have h9 := HD.out; omega)
   go_wp2_with (first | (at_builtin; refine wpList_append_own _ rfl _ _ 24 rfl (w.heap.size + 1) 110 i0 (.int .u32 0) 1 4 Tryz.underlying24 hi hz0 hz1 hz2 rfl (by decide) _ _ _ rfl (HO.out.alloc _) ⟨wr.heap.size, 0, none⟩ 1 1 [.int .u32 (dgi M k)] rfl rfl ?c1 ?c2 ?c3 ?c4 ?c5 ?_))
   case c1 =>
    intro t u ht
    match t, ht with
    | 0, ht => simp at ht; subst ht; simp [Addr.add]
   case c2 => intro u hu; simp at hu; subst hu; rfl
   case c3 => unfold maxLen; omega
   case c4 => omega
   case c5 => have := HB.out.lt; simp; omega
   intro v' w1 hown' hgrow _
   have O2 := Lib.hid (show w1.ownsRow (w.heap.size + 1) 110 1 v' (k + 1) (ucs (dgi M) (k + 1)) by rw [ucs_succ]; exact hown')
   have G2 := Lib.hid ((HG.out.alloc HG.out.size _).grown hgrow (by have := HG.out.size; simp; omega) (fun g hg => Nat.le_of_succ_le (ownBlock_ge HO.out hg)))
   have B2 := Lib.hid ((HB.out.alloc (.cells #[.int .u32 (dgi M k)] 110)).of (hgrow.block w.heap.size (HB.out.alloc _).lt (fun e => by have := ownBlock_ge HO.out e.symm; omega)))
   clear hown' hgrow
   go_wp2_with fail
   go_roundw
   case rel => exact ⟨k + 1, by omega, by rw [HY.out], O2.out, G2.out, B2.out⟩
   case measure => simp [intOf]; have h9 := HLE.out; omega
  ·obtain rfl : X = 0 := by omega
   obtain rfl : k = lenB M := by have := HK.out; have := mt HP.out.2 (by omega); omega
   obtain ⟨a, cap, rfl, hOw, hcap⟩ := Own.of_row HO.out (fun i hi => by have := dgi_Dig M (lenB M) i hi; omega)
   have HOW := Lib.hid hOw
   have HCP := Lib.hid hcap
   clear h0 hOw hcap
   have hL3 := HLN.out
   have CUT := Lib.hid (cut_any true a (lenB M) cap (dgi M) wr HOW.out.rd (dgi_Dig _ _) (by omega) HOW.out.le HCP.out)
   rw [sumB_dgi, Int.toNat_natCast, neg_canon M H0.out] at CUT
   go_wp2_with fail
   refine CUT.out.mono ?_
   rintro e w2 ⟨rfl, hb2⟩
   have B3 := HB.out.below hb2 HB.out.lt
   have HB3 := Lib.hid B3
   have HO3 := Lib.hid (HOW.out.below hb2)
   have HG3 := Lib.hid (HG.out.trans (hb2.mono HG.out.size))
   obtain ⟨b30, b31, b32, b33⟩ := B3.all
   clear B3 hb2 CUT
   go_wp2_with fail
   refine bodyPost_ret (results_cell rfl _ _ _ _ _ _ _ rfl (HB3.out.set _ _) Tryz.underlying26 rfl (by kernel_rfl)) rfl ⟨a, by first | (rw [show (-(M : Int)).natAbs = M by omega]; done) | (rw [show (-(M : Int)).natAbs = M by omega, decide_eq_true (show -(M : Int) < 0 by omega)]), ?_, ?_, ?_⟩
   ·rw [show (-(M : Int)).natAbs = M by omega]; exact (((HO3.out.cut (Nat.le_refl _) (fun i _ => rfl)).other (by dsimp only; omega) _).other (by dsimp only; omega) _).mono (by omega)
   ·rw [show (-(M : Int)).natAbs = M by omega]; intro h; have h1 := HO3.out.le; have h2 := HCP.out h; omega
   ·exact (HG3.out.setCell (by dsimp only; omega) _).setCell (by dsimp only; omega) _
theorem of64_any (n : Int) (w : World) (h1 : -9223372036854775808 ≤ n) (h2 : n ≤ 9223372036854775807) : Calls Tryz.prog 51 #[.int .i64 n] w (ResN w n) := by
 rcases Int.lt_or_le n 0 with h | h
 ·obtain ⟨M, rfl⟩ : ∃ M : Nat, n = -(M : Int) := ⟨n.natAbs, by omega⟩
  exact of64_neg M w (by omega) (by omega)
 ·obtain ⟨M, rfl⟩ : ∃ M : Nat, n = (M : Int) := ⟨n.natAbs, by omega⟩
  exact of64_pos M w (by omega)
end Go.Proofs.YthcccdjfedbnfaaGreatDoor.Limb
namespace Go.Proofs.YthcccdjfedbnfaaGreatDoor.Book
open Go.RowKit Go.Sort Go.Fresh Go.Proofs.YthcccdjfedbnfaaGreatDoor.Limb
end Go.Proofs.YthcccdjfedbnfaaGreatDoor.Book
namespace Go.Proofs.YthcccdjfedbnfaaGreatDoor.Limb
open Go.RowKit
theorem Own.allocd {T : Nat} {w : World} {base : Nat} {a : Option Addr} {n cap : Nat} {o : Nat → Int} (h : Own T w base a n cap o) (x : Obj) : Own T (w.alloc x) base a n cap o := h.below ((Below.refl _ _).alloc (Nat.le_refl _) x)
end Go.Proofs.YthcccdjfedbnfaaGreatDoor.Limb
namespace Go.Proofs.YthcccdjfedbnfaaGreatDoor.Book
open Go.RowKit Go.Sort Go.Fresh Go.Proofs.YthcccdjfedbnfaaGreatDoor.Limb
end Go.Proofs.YthcccdjfedbnfaaGreatDoor.Book
namespace Go.Proofs.YthcccdjfedbnfaaGreatDoor.Limb
open Go.RowKit Go.Sort Go.Fresh
theorem field_num (s : Bool) (a : Option Addr) (n c : Nat) (w : World) : (Instr.field 26 (numV s a n c) 1).run Tryz.prog w = .ok (.slice a n c) w := by kernel_rfl
theorem nat_sum {o : Nat → Int} {n : Nat} (h : Dig o n) : (((sumB o n).toNat : Nat) : Int) = sumB o n := by have := (sumB_bd h).1; omega
set_option maxRecDepth 100000 in
set_option maxHeartbeats 2000000 in
theorem below_any (a b : Option Addr) (na ca nb cb : Nat) (oa ob : Nat → Int) (often : Int) (w : World) (ha : Rd w a na oa) (hb : Rd w b nb ob) (da : Dig oa na) (db : Dig ob nb) (hna : na ≤ 200000000) (hnb : nb ≤ 200000000) (ho : 0 ≤ often ∧ often ≤ 999999999) :
  Calls Tryz.prog 125 #[.slice a na ca, .slice b nb cb, .int .u64 often] w fun e w' => e = .returned (.bool (decide (sumB oa na < sumB ob nb * often))) ∧ Below w.heap.size w w' := by
 obtain ⟨X, hX⟩ : ∃ X, X = (sumB oa na).toNat := ⟨_, rfl⟩
 obtain ⟨Y, hY⟩ : ∃ Y, Y = (sumB ob nb * often).toNat := ⟨_, rfl⟩
 have eX : (X : Int) = sumB oa na := by rw [hX]; exact nat_sum da
 have eY : (Y : Int) = sumB ob nb * often := by
  have := Int.mul_nonneg (sumB_bd db).1 ho.1
  omega
 rw [← eX, ← eY]
 have u1 := IntWalk.u32_in often (by omega)
 have CL := Lib.hid (clone_any a na ca oa w ha (by omega))
 have WD := Lib.hid (fun (w' : World) (h : Below w.heap.size w w') => wide_any b nb cb ob often w' (hb.below h) db hnb ho)
 rw [← eY] at WD
 have DA := Lib.hid da
 have HE := Lib.hid eX.symm
 have lX := Lib.hid (show lenB X ≤ na by rw [hX]; exact lenB_le_of da)
 obtain ⟨LX, hLX⟩ : ∃ LX, LX = lenB X := ⟨_, rfl⟩
 have HLX := Lib.hid hLX
 clear ha hb da db hX hY eX eY hLX
 have hfld := field_num
 go_enter Tryz.func125, Tryz.ntmps125
 go_wp2_with fail
 refine CL.out.mono ?_
 rintro e w1 ⟨a1, c1, rfl, hO, hn, hb1⟩
 have HO := Lib.hid hO
 have G1 := Lib.hid hb1
 have CU := Lib.hid (cut_any false a1 na c1 oa w1 hO.rd DA.out (by omega) hO.le hn)
 rw [show (sumB oa na).toNat = X by have := HE.out; omega, Bool.false_and, ← HLX.out] at CU
 clear hO hb1 hn CL
 go_wp2_with fail
 refine CU.out.mono ?_
 rintro e w2 ⟨rfl, hb2⟩
 have RX := Lib.hid (own_fit (HO.out.below hb2) DA.out HE.out).rd
 have G2 := Lib.hid (G1.out.trans (hb2.mono G1.out.size))
 clear hb2 CU G1
 go_wp2_with fail
 refine (WD.out _ G2.out).mono ?_
 rintro e w3 ⟨g, p, rfl, hd, hs, hO, hb3⟩
 have HP := Lib.hid hO
 have HD := Lib.hid (And.intro hd hs)
 have G3 := Lib.hid (G2.out.trans (hb3.mono G2.out.size))
 have RX := Lib.hid (RX.out.below hb3)
 have CU := Lib.hid (cut_any false (some ⟨g, 0, none⟩) (nb + 1) (nb + 1) p w3 hO.rd hd (by omega) (Nat.le_refl _) (fun h => by cases h))
 obtain ⟨LY, hLY⟩ : ∃ LY, LY = lenB Y := ⟨_, rfl⟩
 rw [show (sumB p (nb + 1)).toNat = Y by omega, Bool.false_and, ← hLY] at CU
 have lY := Lib.hid (show lenB Y ≤ nb + 1 by
  have := lenB_le_of hd
  rwa [show (sumB p (nb + 1)).toNat = Y by omega] at this)
 have HLY := Lib.hid hLY
 clear hO hb3 WD G2 hd hs hLY
 go_wp2_with fail
 refine CU.out.mono ?_
 rintro e w4 ⟨rfl, hb4⟩
 have AM := Lib.hid (amounts_any X Y a1 (some ⟨g, 0, none⟩) (lenB X) (lenB Y) w4 (RX.out.below hb4) (own_fit (HP.out.below hb4) HD.out.1 HD.out.2).rd (by have := lX.out; omega) (by have := lY.out; omega))
 rw [← HLX.out, ← HLY.out] at AM
 have G4 := Lib.hid (G3.out.trans (hb4.mono G3.out.size))
 clear hb4 CU G3
 go_wp2_with fail
 refine AM.out.mono ?_
 rintro e w5 ⟨rfl, m, rfl⟩
 have E : decide (cmpZ (X : Int) (Y : Int) < 0) = decide ((X : Int) < (Y : Int)) := by
  refine decide_eq_decide.2 ?_
  rcases Int.lt_trichotomy (X : Int) (Y : Int) with h | h | h
  ·rw [cmpZ_lt h]; omega
  ·rw [cmpZ_eq h]; omega
  ·rw [cmpZ_gt h]; omega
 have HEq := Lib.hid E
 clear E AM
 go_wp2
 go_ret
 exact ⟨by rw [← HEq.out]; rfl, bdrewN G4.out m⟩
theorem infoPart1 : (Tryz.prog.info? 110).map (·.size) = some 1 := by kernel_rfl
theorem copy_own {w : World} {base gu L L' i m : Nat} {up r : Nat → Int} {a : Option Addr} (h : Own 110 w base (some ⟨gu, 0, none⟩) L L' up) (hi : i + m ≤ L) (hm : 0 < m) (hr : Rd w a m r) (ty dcap scap : Nat) :
  ∃ v w', (Builtin.copy_ #[24, 24] ty #[.slice (some ⟨gu, i, none⟩) m dcap, .slice a m scap]).run Tryz.prog w = .ok v w' ∧ Own 110 w' base (some ⟨gu, 0, none⟩) L L' (splice up i m r) ∧ w.grownBy w' (some gu) := by
 obtain ⟨b, off, rfl, hc⟩ := hr.cells hm
 rcases h.place with h0 | ⟨g, cur, ha, hbg, hg, hcap, hcc⟩
 ·cases h0.1
 cases ha
 have hle := h.le
 have hrun := run_copy_row (P := Tryz.prog) w 24 24 ty 110 gu i m dcap ⟨b, off, none⟩ m scap cur 110 (ucs r m) Tryz.underlying24 infoPart1 hg (by rw [ucs_len]; exact (Nat.min_self m).symm)
  (by
   intro j u hj
   obtain ⟨hj1, rfl⟩ := ucs_get' hj
   rw [Addr.add_lit]
   exact hc j hj1) (by rw [ucs_len]; omega) ucs_one
 refine ⟨_, _, hrun, ⟨hle, Or.inr ⟨gu, _, rfl, hbg, setRow_heap w gu cur _ _ _ hg, ?_, fun k hk => ?_⟩, fun k hk => ?_⟩, ⟨rfl, rfl, rfl, by simp, fun k _ hk => setRow_other w gu k _ (fun e => hk (by simp [e]))⟩⟩
 ·simp only [List.size_toArray, List.length_append, List.length_take, List.length_drop, Array.length_toList, ucs_len]
  omega
 ·rw [List.getElem?_toArray, ucs_len]
  have h1 : (cur.toList.take i).length = i := by simp; omega
  have h2 : (cur.toList.take i ++ ucs r m).length = i + m := by rw [List.length_append, h1, ucs_len]
  by_cases e1 : k < i
  ·rw [List.getElem?_append_left (by omega), List.getElem?_append_left (by omega), List.getElem?_take, if_pos e1, Array.getElem?_toList, hcc k hk]
   show some (Value.int .u32 (up k)) = some (Value.int .u32 (splice up i m r k))
   rw [splice_out (Or.inl e1)]
  ·by_cases e2 : k < i + m
   ·obtain ⟨j, rfl⟩ : ∃ j, k = i + j := ⟨k - i, by omega⟩
    rw [List.getElem?_append_left (by omega), List.getElem?_append_right (by omega), h1, Nat.add_sub_cancel_left, ucs_get _ _ _ (by omega)]
    show some (Value.int .u32 (r j)) = some (Value.int .u32 (splice up i m r (i + j)))
    rw [splice_in (by omega)]
   ·rw [List.getElem?_append_right (by omega), h2, List.getElem?_drop, show i + m + (k - (i + m)) = k by omega, Array.getElem?_toList, hcc k hk]
    show some (Value.int .u32 (up k)) = some (Value.int .u32 (splice up i m r k))
    rw [splice_out (Or.inr (by omega))]
 ·by_cases e : i ≤ k ∧ k < i + m
  ·obtain ⟨j, rfl⟩ : ∃ j, k = i + j := ⟨k - i, by omega⟩
   rw [splice_in (by omega)]; exact hr.rng j (by omega)
  ·rw [splice_out (by omega)]; exact h.rng k hk
theorem cf_div (args : Array Value) (w : World) : (callFunc 124 args).run Tryz.prog w = .ok (.enter 124 args) w := by kernel_rfl
set_option maxHeartbeats 1000000 in
theorem divFn (w : World) (bh bg bv gu i n cu cv : Nat) (q : Option Addr) (up vp : Nat → Int) (g : Int) (k : Nat) (c1 : w.cell? ⟨bh, 0, none⟩ = some (.slice (some ⟨gu, i, none⟩) (n + 1) cu)) (c2 : w.cell? ⟨bg, 0, none⟩ = some (.int .u64 g))
  (c3 : w.cell? ⟨bv, 0, none⟩ = some (.slice q n cv)) (c4 : w.cell? ⟨gu, i + k, none⟩ = some (.int .u32 (up (i + k)))) (hk : k < n + 1) (hp : Rd w q n vp) (hn : n ≤ 200000000) (hg : 0 ≤ g ∧ g ≤ 999999999) (hu : 0 ≤ up (i + k) ∧ up (i + k) ≤ 999999999) (r1 : 0 ≤ part vp n k ∧ part vp n k ≤ 999999999) :
  Calls Tryz.prog 124 #[.int .i64 k, .pointer (some ⟨bh, 0, none⟩), .pointer (some ⟨bg, 0, none⟩), .pointer (some ⟨bv, 0, none⟩)] w fun e w' => e = .returned (.int .i64 (up (i + k) - g * part vp n k)) ∧ Below w.heap.size w w' := by
 have P := Lib.hid (fun (w1 : World) (h : ∃ m, w1 = w.drewN m) => part_any q n cv vp k w1 (by obtain ⟨m, rfl⟩ := h; exact hp.drewN m) (by omega) (by omega))
 have m1 : g * part vp n k ≤ 999999999 * 999999999 := Int.mul_le_mul hg.2 r1.2 r1.1 (by omega)
 have m2 : 0 ≤ g * part vp n k := Int.mul_nonneg hg.1 r1.1
 have e1 := IntWalk.i64_in (up (i + k)) (by omega)
 have e2 := IntWalk.u64_in (part vp n k) (by omega)
 have e3 := IntWalk.u64_in (g * part vp n k) (by omega)
 have e4 := IntWalk.i64_in (g * part vp n k) (by omega)
 have e5 := IntWalk.i64_in (up (i + k) - g * part vp n k) (by omega)
 have x1 : (k : Int) < ((n + 1 : Nat) : Int) := by omega
 have x2 : (k : Int) < (n : Int) + 1 := by omega
 generalize part vp n k = u at *
 generalize up (i + k) = t at *
 clear hp m1 m2 hu r1
 go_enter Tryz.func124, Tryz.ntmps124
 go_wp2_with fail
 go_quiet (first | with_reducible exact quietOf (P.out _ ⟨_, rfl⟩))
 go_wp2
 go_ret
 exact ⟨rfl, bdrewN (Below.refl _ _) _⟩
def lessF (up vp : Nat → Int) (j N : Nat) (g : Int) (k : Nat) : Int := up (j + k) - g * part vp N k
theorem lessF_sum (up vp : Nat → Int) (j N : Nat) (g : Int) : sumB (lessF up vp j N g) (N + 1) = headV up N j - sumB vp N * g := by
 have e : lessF up vp j N g = fun k => (fun k => up (j + k)) k + part vp N k * (-g) := by
  funext k; unfold lessF; rw [Int.mul_neg, Int.mul_comm]; show _ = up (j + k) + _; omega
 rw [e, sumB_plus, sumB_times, sumB_part _ (by omega), Int.mul_neg]
 unfold headV
 omega
theorem Rd.at_own {w : World} {base gu L L' j m : Nat} {up : Nat → Int} (h : Own 110 w base (some ⟨gu, 0, none⟩) L L' up) (hj : j + m ≤ L) : Rd w (some ⟨gu, j, none⟩) m (fun k => up (j + k)) :=
 ⟨fun _ => ⟨gu, j, rfl, fun i hi => h.cell (by omega)⟩, fun i hi => h.rng _ (by omega)⟩
end Go.Proofs.YthcccdjfedbnfaaGreatDoor.Limb
