/-
  The walks of Add, Sub, Neg of package limbs.
-/
import Derived.Test.YtebobpbcllideaaGreatDoorLimbF
import Derived.Test.YtebobpbcllideaaGreatDoorFresh
import Derived.Deep.DeepCutAuto
import Derived.Deep.RegionHeld3
namespace Go.Proofs.YtebobpbcllideaaGreatDoor.Limb
open Go.RowKit Go.Sort Go.Fresh

theorem cf_add (args : Array Value) (w : World) : (callFunc 32 args).run Tryz.prog w = .ok (.enter 32 args) w := by kernel_rfl

theorem add_plain (zp zq sg : Int) (h : zq.natAbs ≤ zp.natAbs) (hsg : sg = if decide (zp < 0) = decide (zq < 0) then 1 else -1) :
    0 ≤ (zp.natAbs : Int) + sg * (zq.natAbs : Int) ∧ ((zp.natAbs : Int) + sg * (zq.natAbs : Int)).toNat = (zp + zq).natAbs ∧
    (decide (zp < 0) && decide (0 < lenB (zp + zq).natAbs)) = decide (zp + zq < 0) := by
  have e0 : 0 < lenB (zp + zq).natAbs ↔ zp + zq ≠ 0 := by
    constructor
    · intro h1 h2; rw [h2, show Int.natAbs 0 = 0 from rfl, lenB_zero] at h1; omega
    · intro h1
      rcases Nat.eq_zero_or_pos (lenB (zp + zq).natAbs) with h2 | h2
      · have := lenB_eq_zero.1 h2; omega
      · exact h2
  by_cases h1 : zp < 0 <;> by_cases h2 : zq < 0 <;> simp only [h1, h2, decide_true, decide_false, if_true, reduceCtorEq, if_false] at hsg <;> subst hsg <;>
    refine ⟨by omega, by omega, ?_⟩ <;> simp only [h1, decide_true, decide_false, Bool.true_and, Bool.false_and]
  · exact decide_eq_decide.2 (e0.trans (by omega))
  · exact decide_eq_decide.2 (e0.trans (by omega))
  · exact (decide_eq_false (by omega)).symm
  · exact (decide_eq_false (by omega)).symm

/-- What the closure of Add works out. -/
def addF (x nx y ny : Nat) (sg : Int) (i : Nat) : Int := part (dgi x) nx i + sg * part (dgi y) ny i
theorem part_rng (x n i : Nat) : 0 ≤ part (dgi x) n i ∧ part (dgi x) n i ≤ 999999999 := by
  unfold part
  split
  · have := dgi_Dig x (i + 1) i (by omega); omega
  · omega
theorem addF_bd (x nx y ny : Nat) (sg : Int) (hsg : sg = 1 ∨ sg = -1) (i : Nat) : -1 * 999999999 ≤ addF x nx y ny sg i ∧ addF x nx y ny sg i ≤ 2 * 999999999 := by
  have h1 := part_rng x nx i
  have h2 := part_rng y ny i
  unfold addF
  rcases hsg with rfl | rfl <;> omega
theorem addF_sum (x y : Nat) (sg : Int) (h : lenB y ≤ lenB x + 1) : sumB (addF x (lenB x) y (lenB y) sg) (lenB x + 1) = x + sg * y := by
  have e : addF x (lenB x) y (lenB y) sg = fun i => part (dgi x) (lenB x) i + part (dgi y) (lenB y) i * sg := by funext i; unfold addF; rw [Int.mul_comm]
  rw [e, sumB_plus, sumB_times, sumB_part _ (by omega), sumB_part _ h, sumB_dgi, sumB_dgi, Int.mul_comm]
theorem add_lt (x y : Nat) (sg : Int) (hsg : sg = 1 ∨ sg = -1) (h : y ≤ x) : (x : Int) + sg * y < (pw (lenB x + 1) : Int) := by
  have h1 := lt_pw_lenB x
  rw [pw_succ]
  rcases hsg with rfl | rfl <;> omega

theorem quietOf {P : Program} {f : FuncId} {args : Array Value} {w : World} {n : Nat} {v : Value}
    (h : Calls P f args (w.drewN n) fun e w' => e = .returned v ∧ w' = w.drewN n) : Calls P f args (w.drewN n) fun e w'' => e = .returned v ∧ ∃ m, w'' = w.drewN m :=
  h.mono fun _ _ ⟨he, hm⟩ => ⟨he, n, hm⟩
set_option maxHeartbeats 1000000 in
theorem addFn (w : World) (b1 b2 b3 : Nat) (s1 s2 : Value) (T : TypeId) (p q : Option Addr) (f g : Nat → Int) (nx ny d e : Nat) (sg : Int) (k : Nat)
    (B1 : Bx w b1 T s1 (.slice p nx d)) (B2 : Bx w b2 T s2 (.slice q ny e)) (h3 : w.cell? ⟨b3, 0, none⟩ = some (.int .i64 sg)) (hp : Rd w p nx f) (hq : Rd w q ny g)
    (hx : nx ≤ 1000000000) (hy : ny ≤ 1000000000) (hk : k ≤ 1000000000) (hsg : sg = 1 ∨ sg = -1) (r1 : 0 ≤ part f nx k ∧ part f nx k ≤ 999999999) (r2 : 0 ≤ part g ny k ∧ part g ny k ≤ 999999999) :
    Calls Tryz.prog 32 #[.int .i64 k, .pointer (some ⟨b1, 0, none⟩), .pointer (some ⟨b3, 0, none⟩), .pointer (some ⟨b2, 0, none⟩)] w fun e w' => e = .returned (.int .i64 (part f nx k + sg * part g ny k)) ∧ Below w.heap.size w w' := by
  have P := Lib.hid (fun (w1 : World) (h : ∃ m, w1 = w.drewN m) => part_any p nx d f k w1 (by obtain ⟨m, rfl⟩ := h; exact hp.drewN m) hx hk)
  have Q := Lib.hid (fun (w1 : World) (h : ∃ m, w1 = w.drewN m) => part_any q ny e g k w1 (by obtain ⟨m, rfl⟩ := h; exact hq.drewN m) hy hk)
  have e1 := IntWalk.i64_in (sg * part g ny k) (by rcases hsg with rfl | rfl <;> omega)
  have e2 := IntWalk.i64_in (part f nx k + sg * part g ny k) (by rcases hsg with rfl | rfl <;> omega)
  generalize part f nx k = u at *
  generalize part g ny k = v at *
  have c1 := B1.c1
  have c2 := B2.c1
  clear B1 B2 hp hq
  go_enter Tryz.func32, Tryz.ntmps32
  go_wp2_with fail
  go_quiet (first | with_reducible exact quietOf (P.out _ ⟨_, rfl⟩) | with_reducible exact quietOf (Q.out _ ⟨_, rfl⟩))
  go_wp2
  go_ret
  exact ⟨rfl, bdrewN (Below.refl _ _) _⟩

theorem Own.cut {T : Nat} {w : World} {base : Nat} {a : Option Addr} {n cap L : Nat} {o o' : Nat → Int} (h : Own T w base a n cap o) (hL : L ≤ n) (e : ∀ i, i < L → o i = o' i) : Own T w base a L L o' := by
  refine ⟨Nat.le_refl _, ?_, fun i hi => by rw [← e i hi]; exact h.rng i (by omega)⟩
  rcases h.place with ⟨e0, h0, h1⟩ | ⟨g, cur, ha, hbg, hg, hcap, hc⟩
  · exact Or.inl ⟨e0, by omega, by omega⟩
  · exact Or.inr ⟨g, cur, ha, hbg, hg, by have := h.le; omega, fun i hi => by rw [hc i (by omega)]; show some (Value.int .u32 (o i)) = _; rw [e i hi]⟩
theorem Own.other {T : Nat} {w : World} {base : Nat} {a : Option Addr} {n cap : Nat} {o : Nat → Int} (h : Own T w base a n cap o) {p : Addr} (hp : p.block < base) (v : Value) : Own T (w.setCell p v) base a n cap o := by
  refine ⟨h.le, ?_, h.rng⟩
  rcases h.place with h0 | ⟨g, cur, ha, hbg, hg, hcap, hc⟩
  · exact Or.inl h0
  · exact Or.inr ⟨g, cur, ha, hbg, (Below.heap_setCell _ _ _ _ (by omega)).trans hg, hcap, hc⟩

theorem own_of {T g N b : Nat} {o : Nat → Int} {w : World} (h : ∃ x : Nat, Value.slice (some ⟨g, 0, none⟩) N N = .slice (some ⟨x, 0, none⟩) N N ∧ Own T w b (some ⟨x, 0, none⟩) N N o) : Own T w b (some ⟨g, 0, none⟩) N N o := by
  obtain ⟨x, e, h⟩ := h
  cases e
  exact h
theorem own_num {T L b : Nat} {s : Bool} {a : Option Addr} {o : Nat → Int} {w : World} {p : Option Addr → Prop} (h : ∃ x : Option Addr, numV s a L L = numV s x L L ∧ Own T w b x L L o ∧ p x) : Own T w b a L L o ∧ p a := by
  obtain ⟨x, e, h⟩ := h
  cases e
  exact h

set_option maxHeartbeats 400000 in
theorem add_any (s1 : Bool) (a1 : Option Addr) (n1 c1 : Nat) (o1 : Nat → Int) (s2 : Bool) (a2 : Option Addr) (n2 c2 : Nat) (o2 : Nat → Int) (w : World)
    (h1 : Rd w a1 n1 o1) (hn1 : n1 ≤ 100000000) (hc1 : n1 ≤ c1) (h2 : Rd w a2 n2 o2) (hn2 : n2 ≤ 100000000) (hc2 : n2 ≤ c2) :
    Calls Tryz.prog 7 #[numV s1 a1 n1 c1, numV s2 a2 n2 c2] w fun e w' => ∃ a, e = .returned (numV (decide (valN s1 n1 o1 + valN s2 n2 o2 < 0)) a (lenB (valN s1 n1 o1 + valN s2 n2 o2).natAbs) (lenB (valN s1 n1 o1 + valN s2 n2 o2).natAbs)) ∧
      Own 57 w' w.heap.size a (lenB (valN s1 n1 o1 + valN s2 n2 o2).natAbs) (lenB (valN s1 n1 o1 + valN s2 n2 o2).natAbs) (dgi (valN s1 n1 o1 + valN s2 n2 o2).natAbs) ∧ (a = none → lenB (valN s1 n1 o1 + valN s2 n2 o2).natAbs = 0) ∧ Below w.heap.size w w' := by
  obtain ⟨x1, d1, r1, l1, m1, O1⟩ := of_any s1 a1 n1 c1 o1 w h1 (by omega) hc1
  obtain ⟨x2, d2, r2, l2, m2, O2⟩ := of_any s2 a2 n2 c2 o2 w h2 (by omega) hc2
  generalize valN s1 n1 o1 = z1 at r1 l1 m1 O1 ⊢
  have HO1 := Lib.hid O1; clear O1
  generalize valN s2 n2 o2 = z2 at r2 l2 m2 O2 ⊢
  have HO2 := Lib.hid O2; clear O2
  have B1 := (((Bx.new w 24 (.bool s1) (.slice a1 n1 c1)).alloc (.cells #[.bool s2, .slice a2 n2 c2] 24)).alloc (.cells #[.bool false, .slice none 0 0] 24))
  have B2 := ((Bx.new2 w (.cells #[.bool s1, .slice a1 n1 c1] 24) 24 (.bool s2) (.slice a2 n2 c2)).alloc (.cells #[.bool false, .slice none 0 0] 24))
  have B3 := (Bx.new3 w (.cells #[.bool s1, .slice a1 n1 c1] 24) (.cells #[.bool s2, .slice a2 n2 c2] 24) 24 (.bool false) (.slice none 0 0))
  go_enter Tryz.func7, Tryz.ntmps7
  go_upto_region 1 with (fail)
  obtain ⟨W, hW⟩ : ∃ W, W = (((w.alloc (.cells #[.bool s1, .slice a1 n1 c1] 24)).alloc (.cells #[.bool s2, .slice a2 n2 c2] 24)).alloc (.cells #[.bool false, .slice none 0 0] 24)) := ⟨_, rfl⟩
  have G1 := Lib.hid (((Below.refl _ _).alloc (by go_size) _ |>.alloc (by go_size) _ |>.alloc (by go_size) _) : Below w.heap.size w (((w.alloc (.cells #[.bool s1, .slice a1 n1 c1] 24)).alloc (.cells #[.bool s2, .slice a2 n2 c2] 24)).alloc (.cells #[.bool false, .slice none 0 0] 24)))
  rw [← hW] at B1 B2 B3 G1
  rw [show (((w.alloc (.cells #[.bool s1, .slice a1 n1 c1] 24)).alloc (.cells #[.bool s2, .slice a2 n2 c2] 24)).alloc (.cells #[.bool false, .slice none 0 0] 24)) = W from hW.symm]
  clear hW
  go_cut [] (fun wx => Bx wx w.heap.size 24 (.bool (decide (z1 < 0))) (.slice x1 (lenB z1.natAbs) d1) ∧ Bx wx (w.heap.size + 1) 24 (.bool (decide (z2 < 0))) (.slice x2 (lenB z2.natAbs) d2) ∧
    Bx wx (w.heap.size + 1 + 1) 24 (.bool false) (.slice none 0 0) ∧ Below w.heap.size w wx)
  case first =>
    have HS1 := Lib.hid (fun (w' : World) (hb : Below W.heap.size W w') => And.intro (B1.below hb B1.lt).c0 (B1.below hb B1.lt).c1)
    have HS2 := Lib.hid (fun (w' : World) (hb : Below W.heap.size W w') => And.intro (B2.below hb B2.lt).c0 (B2.below hb B2.lt).c1)
    have HB1 := Lib.hid B1; have HB2 := Lib.hid B2; have HB3 := Lib.hid B3
    clear B1 B2 B3
    refine wp_region_fresh 4 (spOf [(1, Sp.know (numV (decide (z1 < 0)) x1 (lenB z1.natAbs) d1)), (3, Sp.know (numV (decide (z2 < 0)) x2 (lenB z2.natAbs) d2))]) (fun w' => Below W.heap.size W w') (by kernel_rfl) (by kernel_rfl)
      (spOf_cons (Sp.know_keeps _) (spOf_cons (Sp.know_keeps _) spOf_nil)) (fun _ _ h hb => h.trans (hb.mono h.size)) ((Below.refl _ _).drew) ?_
    simp only [List.take_succ_cons, List.take_zero, List.drop_succ_cons, List.drop_zero]
    (refine wpF_reads rfl rfl ?_ (fun w' hw' => ?_) ?_; rotate_left; · (have hb' := Has.world hw'; (have hs := HS1.out _ hb'); clear hw'; go_simp; try rfl))
    (refine wpF_spec rfl rfl (fun w' hw' => ?_) ?_; · (have hb' := Has.world hw'; go_simp; ((refine (HO1.out w' (G1.out.trans (hb'.mono G1.out.size))).mono ?_; rintro e w'' ⟨rfl, hb⟩; exact ⟨_, rfl, rfl, hb⟩))))
    rintro _ rfl
    (refine wpF_reads rfl rfl ?_ (fun w' hw' => ?_) ?_; rotate_left; · (have hb' := Has.world hw'; (have hs := HS2.out _ hb'); clear hw'; go_simp; try rfl))
    (refine wpF_spec rfl rfl (fun w' hw' => ?_) ?_; · (have hb' := Has.world hw'; go_simp; ((refine (HO2.out w' (G1.out.trans (hb'.mono G1.out.size))).mono ?_; rintro e w'' ⟨rfl, hb⟩; exact ⟨_, rfl, rfl, hb⟩))))
    rintro _ rfl
    refine wpF_nil (fun w1 hb1 hF => ?_)
    clear hF
    have C1 := HB1.out.below hb1 HB1.out.lt
    have C2 := HB2.out.below hb1 HB2.out.lt
    have C3 := HB3.out.below hb1 HB3.out.lt
    have G2 := G1.out.trans (hb1.mono G1.out.size)
    have K1 := Lib.hid C1; have K2 := Lib.hid C2; have K3 := Lib.hid C3
    obtain ⟨b10, b11, b12, b13⟩ := C1.all
    obtain ⟨b20, b21, b22, b23⟩ := C2.all
    have KG := Lib.hid G2
    clear C1 C2 C3 hb1 HS1 HS2 G2
    go_wp2_with fail
    go_meet
    case rel =>
      exact ⟨((K1.out.set _ _).other (by dsimp only; omega) _).other (by dsimp only; omega) _, ((K2.out.other (by dsimp only; omega) _).other (by dsimp only; omega) _).set _ _, (((K3.out.other (by dsimp only; omega) _).other (by dsimp only; omega) _).other (by dsimp only; omega) _).other (by dsimp only; omega) _,
        (((KG.out.setCell (by simp) _).setCell (by simp) _).setCell (by simp) _).setCell (by simp) _⟩
  case rest =>
    obtain ⟨B1, B2, B3, G1⟩ := hcut
    obtain ⟨w1, rfl⟩ : ∃ w1, w1 = wc := ⟨_, rfl⟩
    have R1 := r1.below G1
    have R2 := r2.below G1
    have AM := Lib.hid (amounts_any z1.natAbs z2.natAbs x1 x2 d1 d2 w1 R1 R2 (by omega) (by omega))
    have K1 := Lib.hid B1; have K2 := Lib.hid B2; have K3 := Lib.hid B3
    have KG := Lib.hid G1
    have HR := Lib.hid (And.intro r1 r2)
    obtain ⟨b10, b11, b12, b13⟩ := B1.all
    obtain ⟨b20, b21, b22, b23⟩ := B2.all
    clear B1 B2 B3 G1 R1 R2 r1 r2 h1 h2 HO1 HO2
    go_upto_if 15 with (first
      | (go_at_call 29; refine AM.out.mono ?_; rintro e w2 ⟨rfl, m, rfl⟩))
    go_cut [] (fun wx => ∃ (zp zq : Int) (xp xq : Option Addr) (dp dq : Nat), zp + zq = z1 + z2 ∧ zq.natAbs ≤ zp.natAbs ∧ lenB zp.natAbs ≤ 100000000 ∧ Rd w xp (lenB zp.natAbs) (dgi zp.natAbs) ∧ Rd w xq (lenB zq.natAbs) (dgi zq.natAbs) ∧
      Bx wx w.heap.size 24 (.bool (decide (zp < 0))) (.slice xp (lenB zp.natAbs) dp) ∧ Bx wx (w.heap.size + 1) 24 (.bool (decide (zq < 0))) (.slice xq (lenB zq.natAbs) dq) ∧
      Bx wx (w.heap.size + 1 + 1) 24 (.bool false) (.slice none 0 0) ∧ Below w.heap.size w wx)
    case first =>
      by_cases hlt : z1.natAbs < z2.natAbs
      · rw [show cmpZ (z1.natAbs : Int) (z2.natAbs : Int) = -1 from cmpZ_lt (by omega)]
        go_wp2_with fail
        go_meet
        case rel =>
          exact ⟨z2, z1, x2, x1, d2, d1, by omega, by omega, by omega, HR.out.2, HR.out.1,
            ((K1.out.drewN m |>.set _ _).other (by dsimp only; omega) _).other (by dsimp only; omega) _, ((K2.out.drewN m |>.other (by dsimp only; omega) _).other (by dsimp only; omega) _).set _ _,
            (((K3.out.drewN m |>.other (by dsimp only; omega) _).other (by dsimp only; omega) _).other (by dsimp only; omega) _).other (by dsimp only; omega) _,
            ((((bdrewN KG.out m).setCell (by simp) _).setCell (by simp) _).setCell (by simp) _).setCell (by simp) _⟩
      · have hc : decide (cmpZ (z1.natAbs : Int) (z2.natAbs : Int) < 0) = false := by
          refine decide_eq_false ?_
          rcases Nat.lt_or_ge z2.natAbs z1.natAbs with h | h
          · rw [cmpZ_gt (by omega)]; omega
          · rw [cmpZ_eq (by omega)]; omega
        rw [hc]
        clear hc
        go_wp2_with fail
        go_meet
        case rel => exact ⟨z1, z2, x1, x2, d1, d2, by omega, by omega, by omega, HR.out.1, HR.out.2, K1.out.drewN m, K2.out.drewN m, K3.out.drewN m, bdrewN KG.out m⟩
    case rest =>
      obtain ⟨zp, zq, xp, xq, dp, dq, ez, hle, hlp, rp, rq, B1, B2, B3, G1⟩ := hcut
      obtain ⟨w3, rfl⟩ : ∃ w3, w3 = wc := ⟨_, rfl⟩
      have K1 := Lib.hid B1; have K2 := Lib.hid B2; have K3 := Lib.hid B3
      have KG := Lib.hid G1
      have HP := Lib.hid rp; have HQ := Lib.hid rq
      have HE := Lib.hid ez; have HL := Lib.hid hle; have HLP := Lib.hid hlp
      have hsz : w.heap.size + 1 + 1 < w3.heap.size := B3.lt
      obtain ⟨b10, b11, b12, b13⟩ := B1.all
      obtain ⟨b20, b21, b22, b23⟩ := B2.all
      obtain ⟨sg, hsg⟩ : ∃ sg : Int, sg = if decide (zp < 0) = decide (zq < 0) then 1 else -1 := ⟨_, rfl⟩
      have HS := Lib.hid hsg
      clear B1 B2 B3 G1 rp rq ez hle hlp HR AM hsg
      go_upto_if 22 with (fail)
      go_cut [] (fun wx => Bx wx w.heap.size 24 (.bool (decide (zp < 0))) (.slice xp (lenB zp.natAbs) dp) ∧ Bx wx (w.heap.size + 1) 24 (.bool (decide (zq < 0))) (.slice xq (lenB zq.natAbs) dq) ∧
        Bx wx (w.heap.size + 1 + 1) 24 (.bool false) (.slice none 0 0) ∧ wx.rowIs w3.heap.size 2 1 (fun _ => .int .i64 sg) ∧ Below w.heap.size w wx)
      case first =>
        by_cases hs : decide (zp < 0) = decide (zq < 0)
        · have e0 : (!(decide (zp < 0) == decide (zq < 0))) = false := by rw [hs]; simp
          have S := Lib.hid (HS.out.trans (if_pos hs))
          rw [e0]
          clear e0 hs
          go_wp2_with fail
          go_meet
          case rel =>
            exact ⟨K1.out.alloc _, K2.out.alloc _, K3.out.alloc _, by
              have h := World.rowIs_alloc w3 #[.int .i64 1] 2 (fun _ => .int .i64 sg) (fun i hi => by
                match i, hi with
                | 0, _ => rw [S.out]; rfl)
              exact h, KG.out.alloc KG.out.size _⟩
        · have e0 : (!(decide (zp < 0) == decide (zq < 0))) = true := by simpa using hs
          have S := Lib.hid (HS.out.trans (if_neg hs))
          rw [e0]
          clear e0 hs
          go_wp2_with fail
          go_meet
          case rel =>
            exact ⟨K1.out.alloc _, K2.out.alloc _, K3.out.alloc _, by
              have h := World.rowIs_alloc w3 #[.int .i64 (-1)] 2 (fun _ => .int .i64 sg) (fun i hi => by
                match i, hi with
                | 0, _ => rw [S.out]; rfl)
              exact h, KG.out.alloc KG.out.size _⟩
      case rest =>
        obtain ⟨B1, B2, B3, BS, G1⟩ := hcut
        obtain ⟨w4, rfl⟩ : ∃ w4, w4 = wc := ⟨_, rfl⟩
        have HB1 := Lib.hid B1; have HB2 := Lib.hid B2; have HB3 := Lib.hid B3; have HBS := Lib.hid BS; have HG := Lib.hid G1
        clear K1 K2 K3 KG b10 b11 b12 b13 b20 b21 b22 b23 B1 B2 B3 BS G1
        have hcf := Lib.hid cf_add
        obtain ⟨F, hF⟩ : ∃ F : Nat → Int, F = fun k => part (dgi zp.natAbs) (lenB zp.natAbs) k + sg * part (dgi zq.natAbs) (lenB zq.natAbs) k := ⟨_, rfl⟩
        have hs1 : sg = 1 ∨ sg = -1 := by rw [HS.out]; split <;> simp
        have hlq : lenB zq.natAbs ≤ lenB zp.natAbs := lenB_mono HL.out
        have hlp : lenB zp.natAbs ≤ 100000000 := HLP.out
        have hsum : sumB F (lenB zp.natAbs + 1) = (zp.natAbs : Int) + sg * (zq.natAbs : Int) := by rw [hF]; exact addF_sum _ _ _ (by omega)
        obtain ⟨p1, p2, p3⟩ := add_plain zp zq sg HL.out HS.out
        have hcs := cS_fits (f := F) (n := lenB zp.natAbs + 1) (by rw [hsum]; exact p1) (by rw [hsum]; exact add_lt _ _ _ hs1 HL.out)
        have hcut : sumB (cD F) (lenB zp.natAbs + 1) = (zp.natAbs : Int) + sg * (zq.natAbs : Int) := hcs.2.trans hsum
        rw [HE.out] at p2 p3
        have CARRY := Lib.hid (fun (w' : World) (hb : Below w4.heap.size w4 w') => carry_any 32 #[.pointer (some ⟨w.heap.size, 0, none⟩), .pointer (some ⟨w3.heap.size, 0, none⟩), .pointer (some ⟨w.heap.size + 1, 0, none⟩)] (lenB zp.natAbs + 1) F (-1) 2 w' (by omega) cf_add
          (fun k hk w1 hb1 => by
            have hbb : Below w4.heap.size w4 w1 := hb.trans (hb1.mono hb.size)
            have := addFn w1 w.heap.size (w.heap.size + 1) w3.heap.size _ _ _ xp xq (dgi zp.natAbs) (dgi zq.natAbs) (lenB zp.natAbs) (lenB zq.natAbs) dp dq sg k (HB1.out.below hbb HB1.out.lt) (HB2.out.below hbb HB2.out.lt)
              ((hbb.cell (p := ⟨w3.heap.size, 0, none⟩) HBS.out.lt).trans (HBS.out.cell (i := 0) (by omega)))
              (HP.out.below (HG.out.trans (hbb.mono HG.out.size))) (HQ.out.below (HG.out.trans (hbb.mono HG.out.size))) (by omega) (by omega) (by omega) hs1 (part_rng _ _ _) (part_rng _ _ _)
            rw [hF]
            exact this) (fun k _ => by rw [hF]; exact addF_bd _ _ _ _ _ hs1 k) (by omega) (by omega) (by omega) (by omega))
        have HF := Lib.hid hF; clear hF
        have HC := Lib.hid hcut; clear hcut
        have HS1 := Lib.hid (fun (w' : World) (hb : Below w4.heap.size w4 w') => And.intro (HB1.out.below hb HB1.out.lt).c0 (HB1.out.below hb HB1.out.lt).c1)
        have HP2 := Lib.hid p2; have HP3 := Lib.hid p3
        clear hsum p1 p2 p3 hcs HE HS HL
        obtain ⟨N, hN⟩ : ∃ N, N = lenB zp.natAbs + 1 := ⟨_, rfl⟩
        have HN := Lib.hid hN
        rw [← hN] at CARRY HC
        have hNb : N ≤ 100000001 := by omega
        have ew : IntKind.i64.wrap ((lenB zp.natAbs : Int) + 1) = (N : Int) := by rw [IntWalk.i64_in _ (by omega)]; omega
        have HD := Lib.hid (show lenB (z1 + z2).natAbs ≤ N ∧ ∀ i, i < lenB (z1 + z2).natAbs → cD F i = dgi (z1 + z2).natAbs i by
          have h1 := lenB_le_of (cD_Dig F N)
          rw [HC.out, HP2.out] at h1
          refine ⟨h1, fun i hi => ?_⟩
          have h2 := dg_sumB (cD_Dig F N) i (by omega)
          rw [HC.out, HP2.out] at h2
          exact h2.symm)
        have CUT := Lib.hid (fun (w' : World) (g : Nat) (ho : Own 57 w' w4.heap.size (some ⟨g, 0, none⟩) N N (cD F)) => cut_any (decide (zp < 0)) (some ⟨g, 0, none⟩) N N (cD F) w' ho.rd (cD_Dig F N) (by omega) (Nat.le_refl _) (fun h => by cases h))
        rw [HC.out, HP2.out, HP3.out] at CUT
        clear hN
        go_upto_region 7 with (fail)
        refine wp_region_fresh 9 (spOf [(7, Sp.made (fun g : Nat => .slice (some ⟨g, 0, none⟩) N N) (fun g w' => Own 57 w' w4.heap.size (some ⟨g, 0, none⟩) N N (cD F))),
            (8, Sp.made (fun a : Option Addr => numV (decide (z1 + z2 < 0)) a (lenB (z1 + z2).natAbs) (lenB (z1 + z2).natAbs)) (fun a w' => Own 57 w' w4.heap.size a (lenB (z1 + z2).natAbs) (lenB (z1 + z2).natAbs) (dgi (z1 + z2).natAbs) ∧ (a = none → lenB (z1 + z2).natAbs = 0)))])
          (fun w' => Below w4.heap.size w4 w') (by kernel_rfl) (by kernel_rfl)
          (spOf_cons (Sp.made_keeps fun x w w' h hb => h.below hb) (spOf_cons (Sp.made_keeps fun x w w' h hb => ⟨h.1.below hb, h.2⟩) spOf_nil)) (fun _ _ h hb => h.trans (hb.mono h.size)) ((Below.refl _ _).drew) ?_
        simp only [List.take_succ_cons, List.take_zero, List.drop_succ_cons, List.drop_zero]
        (refine wpF_reads rfl rfl ?_ (fun w' hw' => ?_) ?_; rotate_left; · (have hb' := Has.world hw'; (skip); clear hw'; go_simp; try rfl))
        (refine wpF_reads rfl rfl ?_ (fun w' hw' => ?_) ?_; rotate_left; · (have hb' := Has.world hw'; (have hs := HS1.out _ hb'); clear hw'; go_simp; try rfl))
        (refine wpF_reads rfl rfl ?_ (fun w' hw' => ?_) ?_; rotate_left; · (have hb' := Has.world hw'; (skip); clear hw'; go_simp; try rfl))
        (refine wpF_reads rfl rfl ?_ (fun w' hw' => ?_) ?_; rotate_left; · (have hb' := Has.world hw'; (have hs := HS1.out _ hb'); clear hw'; go_simp; try rfl))
        (refine wpF_reads rfl rfl ?_ (fun w' hw' => ?_) ?_; rotate_left; · (have hb' := Has.world hw'; (skip); clear hw'; go_simp; try rfl))
        (refine wpF_reads rfl rfl ?_ (fun w' hw' => ?_) ?_; rotate_left; · (have hb' := Has.world hw'; (skip); clear hw'; go_simp; try rfl))
        (refine wpF_reads rfl rfl ?_ (fun w' hw' => ?_) ?_; rotate_left; · (have hb' := Has.world hw'; (skip); clear hw'; go_simp; try rfl))
        (refine wpF_spec rfl rfl (fun w' hw' => ?_) ?_; · (have hb' := Has.world hw'; go_simp; ((refine (CARRY.out w' hb').mono ?_; rintro e w'' ⟨rfl, ho, hb⟩; exact ⟨_, rfl, ⟨⟨_, rfl⟩, ⟨_, rfl, ho.mono hb'.size⟩⟩, hb⟩))))
        rintro _ ⟨g, rfl⟩
        (refine wpF_spec rfl rfl (fun w' hw' => ?_) ?_; · (have hb' := Has.world hw'; go_simp; ((have h7 := own_of (g := g) (N := N) (T := 57) (o := cD F) (b := w4.heap.size) (hw'.fact 7 (by kernel_rfl)); refine (CUT.out w' g h7).mono ?_; rintro e w'' ⟨rfl, hb⟩; exact ⟨_, rfl, ⟨⟨_, rfl⟩, ⟨_, rfl, (h7.below hb).cut HD.out.1 HD.out.2, fun h => by cases h⟩⟩, hb⟩))))
        rintro _ ⟨a, rfl⟩
        refine wpF_nil (fun w5 hb5 hF5 => ?_)
        have OA := own_num (T := 57) (b := w4.heap.size) (s := decide (z1 + z2 < 0)) (L := lenB (z1 + z2).natAbs) (o := dgi (z1 + z2).natAbs) (a := a) (p := fun x => x = none → lenB (z1 + z2).natAbs = 0) (hF5 8)
        have HO := Lib.hid OA
        have B3 := HB3.out.below hb5 HB3.out.lt
        have HB5 := Lib.hid B3
        obtain ⟨b30, b31, b32, b33⟩ := B3.all
        have HG5 := Lib.hid (HG.out.trans (hb5.mono HG.out.size))
        have hz4 := HB3.out.lt
        have hz5 := HG.out.size
        clear hF5 OA B3 hb5 HS1 CARRY CUT HD
        go_wp2_with fail
        refine bodyPost_ret (results_cell rfl _ _ _ _ _ _ _ rfl (HB5.out.set _ _) Tryz.underlying24 rfl (by kernel_rfl)) rfl ⟨a, rfl, ?_, HO.out.2, ?_⟩
        · exact ((HO.out.1.other (by dsimp only; omega) _).other (by dsimp only; omega) _).mono hz5
        · exact (HG5.out.setCell (by dsimp only; omega) _).setCell (by dsimp only; omega) _
end Go.Proofs.YtebobpbcllideaaGreatDoor.Limb
