/-
  The statement of DividesSums: whatever it is handed, it returns true, and what it was handed reads behind the call as it read before.
-/
import Derived.Test.YthcccdjfedbnfaaGreatDbM
import Derived.Lay
import Derived.MakeChecks
import Derived.Stop.LaidErr
import Derived.Deep.DeepWitnessRowRef
import Derived.WalkKit
import Derived.ProofKit
import Derived.OpenShut
import Derived.Deep.DeepHandedRow
import Derived.Lib.LaidTab
set_option linter.unusedSimpArgs false
set_option linter.unusedVariables false
namespace Go.Proofs.YthcccdjfedbnfaaGreat.Limb
open Go.RowKit Go.Sort Go.Fresh
theorem lenZ_val (s : Bool) (n : Nat) (o : Nat → Int) (h : ∀ i, i < n → 0 ≤ o i ∧ o i ≤ 4294967295) : lenB (valN s n o).natAbs ≤ n := by
 by_cases hk : okN s n o
 ·obtain ⟨f1, f2, f3⟩ := of_facts s n o hk h
  omega
 ·rw [show valN s n o = 0 by unfold valN; rw [if_neg hk]]
  simp [lenB_zero]
theorem NumA.len {w : World} {s : Bool} {a : Option Addr} {n c : Nat} {z : Int} (h : NumA w s a n c z) : lenB z.natAbs ≤ n := by
 obtain ⟨o, hr, rfl⟩ := h.ex
 exact lenZ_val s n o hr.rng
end Go.Proofs.YthcccdjfedbnfaaGreat.Limb
namespace Go.Proofs.YthcccdjfedbnfaaGreat.Pol
open Go.RowKit Go.Sort Go.Proofs.YthcccdjfedbnfaaGreat.Limb
theorem box_8_48 : (boxM ⟨8, 4, 2, 1⟩ 48).length ≤ 6400 := by decide +kernel
theorem boxM_1_6 : (boxM ⟨1, 1, 1, 1⟩ 6).length ≤ 6400 := by decide +kernel
structure OneR (D : List Tm) (d : Tm) (S A : List Tm) : Prop where
 pc : PC A 6400 118026 48
 no : ∀ t ∈ A, ¬ d.1.stands t.1
 q : ∃ Q, Canon Q ∧ PB Q 6400 118026 48 ∧ ∀ f, ev A f + ev (mulP Q D) f = ev S f
def W1 (S D : List Tm) (d : Tm) : Prop := ((∀ t ∈ D, wt ⟨1, 1, 1, 1⟩ t.1 ≤ wt ⟨1, 1, 1, 1⟩ d.1) ∧ ∀ t ∈ S, wt ⟨1, 1, 1, 1⟩ t.1 ≤ 6) ∨ ((∀ t ∈ D, wt ⟨8, 4, 2, 1⟩ t.1 ≤ wt ⟨8, 4, 2, 1⟩ d.1) ∧ ∀ t ∈ S, wt ⟨8, 4, 2, 1⟩ t.1 ≤ 48)
theorem left_one {o : Int} {S D : List Tm} {d : Tm} {s y : PV} {a : Option Addr} {c : Nat} {w : World} (ho : o ≤ 2) (hS : KP w s S) (hc : CD S 2822) (hw : W1 S D d) (bD : PC D 5 4 3) (hcd : CD D 10) (hd : Lead (keyO o) D d) (hR : RS w a [y]) (hy : KP w y D) :
  Calls Tryz.prog 22 #[.int .u8 o, s.v, .slice a 1 c] w fun e w' => ∃ (r : PV) (A : List Tm), e = .returned (.tuple #[r.v, .int .i64 0]) ∧ DP w' w.heap.size r A ∧ OneR D d S A ∧ Below w.heap.size w w' := by
 have hgen : ∀ (c0 : Mo) (W : Nat), c0.pos → (∀ t ∈ D, wt c0 t.1 ≤ wt c0 d.1) → (∀ t ∈ S, wt c0 t.1 ≤ W) → W ≤ 48 → (boxM c0 W).length ≤ 6400 → Calls Tryz.prog 10 #[.int .u8 o, s.v, .slice a 1 c] w (DivD w fun s => BackR o [(d, D)] S W 118026 6400 s ∧ True) := fun c0 W hpos h1 h2 hW hN => by
  have hdv : Dvb (keyO o) [(d, D)] c0 W 3 5 4 10 := by
   refine ⟨⟨keyO_key o, fun e he => by rw [List.mem_singleton.1 he]; exact bD.c, fun e he => by rw [List.mem_singleton.1 he]; exact hd, fun e he t ht => by rw [List.mem_singleton.1 he] at ht; exact bD.b.ex t ht⟩, fun e he t ht => ?_, fun e he => by rw [List.mem_singleton.1 he]; exact hcd, fun e he t ht => by rw [List.mem_singleton.1 he] at ht; exact bD.b.lq t ht, fun e he => by rw [List.mem_singleton.1 he]; exact bD.b.len, hpos, by omega⟩
   rw [List.mem_singleton.1 he] at ht ⊢
   exact h1 t ht
  exact div_run (qs := [(y, D)]) (G := 18) (k0 := 2822) ho hS hR (fun z hz => by rw [List.mem_singleton.1 hz]; exact hy) rfl (by decide : 1 ≤ 1000) hdv h2 hc (by decide) hN (by decide) (by decide) (by decide) (by decide) (by decide) (fun _ => True) trivial (fun _ _ _ _ _ _ => trivial)
 have hfin : ∀ W : Nat, W ≤ 48 → Calls Tryz.prog 10 #[.int .u8 o, s.v, .slice a 1 c] w (DivD w fun s => BackR o [(d, D)] S W 118026 6400 s ∧ True) → Calls Tryz.prog 22 #[.int .u8 o, s.v, .slice a 1 c] w fun e w' => ∃ (r : PV) (A : List Tm), e = .returned (.tuple #[r.v, .int .i64 0]) ∧ DP w' w.heap.size r A ∧ OneR D d S A ∧ Below w.heap.size w w' := fun W hW h => by
  refine (left_d h).mono ?_
  rintro e w' ⟨r, A, rfl, h1, ⟨t, ⟨ht, _⟩, _, rfl⟩, h2⟩
  refine ⟨r, t.r, rfl, h1, ⟨⟨ht.al.cr, ht.rn, fun u hu => (ht.rq u hu).1, fun u hu => (ht.rq u hu).2.1.up hW⟩, fun u hu => (ht.rq u hu).2.2 _ (List.mem_singleton.2 rfl), ?_⟩, h2⟩
  obtain ⟨Q, hQ⟩ := List.length_eq_one_iff.1 ht.al.len
  have hg := ht.o 0 (d, D) Q rfl (by rw [hQ]; rfl)
  refine ⟨Q, ht.al.co Q (by rw [hQ]; exact List.mem_singleton.2 rfl), ⟨hg.1, fun v hv => (hg.2 v hv).1, fun v hv => (hg.2 v hv).2.1.up hW⟩, fun f => ?_⟩
  have h5 := ht.al.sum f
  rw [ht.p0, hQ, ev_nil] at h5
  have h6 : evq [(d, D)] [Q] f = ev (mulP Q D) f + 0 := rfl
  rw [h6] at h5
  grind
 rcases hw with ⟨h1, h2⟩ | ⟨h1, h2⟩
 ·exact hfin 6 (by decide) (hgen _ 6 ⟨by decide, by decide, by decide, by decide⟩ h1 h2 (by decide) boxM_1_6)
 ·exact hfin 48 (by decide) (hgen _ 48 ⟨by decide, by decide, by decide, by decide⟩ h1 h2 (by decide) box_8_48)
theorem OneR.eq {o : Int} {D P R A B : List Tm} {d : Tm} {n k : Nat} (hP : Canon P) (bP : PB P n k 48) (bD : PC D 5 4 3) (hd : Lead (keyO o) D d) (hA : OneR D d R A) (hB : OneR D d (addP (mulP P D) R) B) : A = B := by
 obtain ⟨Q1, c1, b1, e1⟩ := hA.q
 obtain ⟨Q2, c2, b2, e2⟩ := hB.q
 refine rem_uniq (Q := subP Q2 (addP P Q1)) (nq := (subP Q2 (addP P Q1)).length) (kq := 0 + (subP Q2 (addP P Q1)).foldr (fun t m => max m (max (lenB t.2.num.natAbs) (lenB (t.2.den : Int).natAbs))) 0) (keyO_key o) hA.pc.c hB.pc.c (subP_canon _ _) bD.c ?_ bD.b (by decide : 48 + 3 ≤ 65535) hd (fun f => ?_) hA.no hB.no
 ·refine ⟨Nat.le_refl _, fun t ht => ?_, fun t ht => ?_⟩
  ·have key : ∀ (l : List Tm) (t : Tm), t ∈ l → lenB t.2.num.natAbs ≤ l.foldr (fun t m => max m (max (lenB t.2.num.natAbs) (lenB (t.2.den : Int).natAbs))) 0 ∧ lenB (t.2.den : Int).natAbs ≤ l.foldr (fun t m => max m (max (lenB t.2.num.natAbs) (lenB (t.2.den : Int).natAbs))) 0 := fun l => by
    induction l with
    | nil => intro t ht; cases ht
    | cons u r ih =>
     intro t ht
     rw [List.foldr_cons]
     rcases List.mem_cons.1 ht with rfl | ht
     ·omega
     ·have := ih t ht
      omega
   have := key _ t ht
   exact ⟨by omega, by omega⟩
  ·rcases subP_mo ht with ⟨v, hv, e⟩ | ⟨v, hv, e⟩
   ·rw [← e]; exact b2.ex v hv
   ·rcases addP_mo hv with ⟨u, hu, e3⟩ | ⟨u, hu, e3⟩
    ·rw [← e, ← e3]; exact bP.ex u hu
    ·rw [← e, ← e3]; exact b1.ex u hu
 ·have h1 := e1 f
  have h2 := e2 f
  rw [ev_addP] at h2
  have h3 : ev (mulP (subP Q2 (addP P Q1)) D) f = ev (mulP Q2 D) f - (ev (mulP P D) f + ev (mulP Q1 D) f) := by rw [ev_mulP, ev_mulP, ev_mulP, ev_mulP, ev_subP, ev_addP]
  rw [h3]
  grind
theorem rawR2 {w : World} {b : Nat} {x y : PV} {L M : List TO} (h : Bxs w b 24 [x.v, y.v]) (hx : RawL w x L) (hy : RawL w y M) : RawR w (some ⟨b, 0, none⟩) 2 [(x, L), (y, M)] := ⟨rfl, by decide, RS.bxs (ps := [x, y]) h, fun e he => by
 rcases List.mem_cons.1 he with rfl | he
 ·exact hx
 ·rw [List.mem_singleton.1 he]; exact hy⟩
theorem InP.pcs {w : World} {x : PV} {ts : List TV} {P : List Tm} {m d : Nat} (h : InP w x ts m P) (ht : tallB d ts = false) : PC P m 4 d := ⟨h.k.canon, h.len, h.lq, fun t hm => by
 have := h.tall ht t hm
 unfold Mo.many at this
 exact ⟨by omega, by omega, by omega, by omega⟩⟩
theorem DGr.head {o : Int} {t d : Nat} {ts us : List TV} {r : List (List TV)} (h : DGr o t d ts (us :: r)) : DGr o t d ts [us] := by
 have hm : growsB o [us] = true → growsB o (us :: r) = true := fun h => by
  unfold growsB at h ⊢
  rw [Bool.and_eq_true] at h ⊢
  refine ⟨h.1, ?_⟩
  have h2 := h.2
  rw [List.any_cons, List.any_nil, Bool.or_false] at h2
  rw [List.any_cons, h2, Bool.true_or]
 refine ⟨by show 1 ≤ 4; decide, h.p, h.tp, fun g => ⟨by show 1 ≤ 3; decide, (h.gp (hm g)).2⟩, fun vs hv => ?_⟩
 rw [List.mem_singleton.1 hv]
 have h3 := h.l us (List.mem_cons_self ..)
 exact ⟨h3.1, h3.2.1, fun g => h3.2.2 (hm g)⟩
theorem many_mul (a b : Mo) : (a.mul b).many = a.many + b.many := by
 show (a.x + b.x) + (a.y + b.y) + (a.z + b.z) + (a.t + b.t) = (a.x + a.y + a.z + a.t) + (b.x + b.y + b.z + b.t)
 omega
theorem wt8_le (m : Mo) : wt ⟨8, 4, 2, 1⟩ m ≤ 8 * m.many := by
 show 8 * m.x + 4 * m.y + 2 * m.z + 1 * m.t ≤ 8 * (m.x + m.y + m.z + m.t)
 omega
theorem raw_in2 {w : World} {x : PV} {L : List TO} {m : Nat} (h : RawL w x L) (hg : NotGreat m (tsOf L)) : BP w x ∨ (∃ P, InP w x (tsOf L) m P ∧ P = []) ∨ ∃ P, InP w x (tsOf L) m P ∧ P ≠ [] := by
 rcases raw_in h.1 hg with ⟨P, hP⟩ | hb
 ·by_cases he : P = []
  ·exact Or.inr (Or.inl ⟨P, hP, he⟩)
  ·exact Or.inr (Or.inr ⟨P, hP, he⟩)
 ·exact Or.inl hb
theorem raw_in3 (o : Int) {w : World} {x : PV} {L : List TO} {m : Nat} (h : RawL w x L) (hg : NotGreat m (tsOf L)) : BP w x ∨ (∃ P, InP w x (tsOf L) m P ∧ 2 < o) ∨ ∃ P, InP w x (tsOf L) m P ∧ o ≤ 2 := by
 rcases raw_in h.1 hg with ⟨P, hP⟩ | hb
 ·by_cases he : 2 < o
  ·exact Or.inr (Or.inl ⟨P, hP, he⟩)
  ·exact Or.inr (Or.inr ⟨P, hP, by omega⟩)
 ·exact Or.inl hb
structure Three (o : Int) (P Q R : List Tm) (d : Tm) : Prop where
 p : PC P 5 4 3
 q : PC Q 5 4 3
 r : PC R 5 4 3
 cq : CD Q 10
 cr : CD R 2822
 cs : CD (addP (mulP P Q) R) 2822
 wr : W1 R Q d
 ws : W1 (addP (mulP P Q) R) Q d
 ld : Lead (keyO o) Q d
theorem three_in {w : World} {o : Int} {p q r : PV} {tsp tsq tsr : List TV} {P Q R : List Tm} {d : Tm} (ho0 : 0 ≤ o) (ho : o ≤ 2) (hg : DGr o 5 3 tsp [tsq, tsr]) (hp : InP w p tsp 5 P) (hq : InP w q tsq 5 Q) (hr : InP w r tsr 5 R) (hd : Lead (keyO o) Q d) : Three o P Q R d := by
 have tq := (hg.l tsq (List.mem_cons_self ..)).2.1
 have tr := (hg.l tsr (List.mem_cons_of_mem _ (List.mem_cons_self ..))).2.1
 have bp := hp.pcs hg.tp
 have bq := hq.pcs tq
 have br := hr.pcs tr
 have mP := hp.tall hg.tp
 have mQ := hq.tall tq
 have mR := hr.tall tr
 have hS : ∀ t ∈ addP (mulP P Q) R, t.1.many ≤ 6 := fun t ht => by
  rcases addP_mo ht with ⟨v, hv, e⟩ | ⟨v, hv, e⟩
  ·obtain ⟨a, ha, b, hb, e2⟩ := mulP_mo2 hv
   rw [← e, ← e2, many_mul]
   have := mP a ha
   have := mQ b hb
   omega
  ·rw [← e]
   have := mR v hv
   omega
 have bs : PC (addP (mulP P Q) R) 30 91 6 := (bp.mul bq).add br 45 6 (by decide) (by decide) (by decide) (by decide)
 have hw := wts_ex ho0 ho hg.head hp (qs := [(q, Q)]) ⟨rfl, fun i z us h1 h2 => by
  cases i with
  | zero => cases h1; cases h2; exact hq
  | succ i => simp at h1⟩ (ds := [(d, Q)]) rfl (fun e he => by rw [List.mem_singleton.1 he]; exact hd)
 have hww : W1 R Q d ∧ W1 (addP (mulP P Q) R) Q d := by
  rcases hw with hw | hw
  ·have h1 := hw.d _ (List.mem_singleton.2 rfl)
   exact ⟨Or.inl ⟨h1, fun t ht => by rw [many_wt]; have := mR t ht; omega⟩, Or.inl ⟨h1, fun t ht => by rw [many_wt]; exact hS t ht⟩⟩
  ·have h1 := hw.d _ (List.mem_singleton.2 rfl)
   exact ⟨Or.inr ⟨h1, fun t ht => by have := mR t ht; have := wt8_le t.1; omega⟩, Or.inr ⟨h1, fun t ht => by have := hS t ht; have := wt8_le t.1; omega⟩⟩
 exact ⟨bp, bq, br, hq.cd, hr.cd.up (by decide), CD.of (n := 30) (a := 91) (b := 91) bs.b.len fun t ht => (bs.b.lq t ht).ls, hww.1, hww.2, hd⟩
theorem Three.eq {o : Int} {P Q R A B : List Tm} {d : Tm} (h : Three o P Q R d) (hA : OneR Q d R A) (hB : OneR Q d (addP (mulP P Q) R) B) : A = B := OneR.eq h.p.c (h.p.b.up (Nat.le_refl _) (Nat.le_refl _) (by decide : 3 ≤ 48)) h.q h.ld hA hB
theorem three_r {o : Int} {P Q R : List Tm} {d : Tm} {s y : PV} {a : Option Addr} {c : Nat} {w : World} (h : Three o P Q R d) (ho : o ≤ 2) (hS : KP w s R) (hR : RS w a [y]) (hy : KP w y Q) :
  Calls Tryz.prog 22 #[.int .u8 o, s.v, .slice a 1 c] w fun e w' => ∃ (r : PV) (A : List Tm), e = .returned (.tuple #[r.v, .int .i64 0]) ∧ DP w' w.heap.size r A ∧ OneR Q d R A ∧ Below w.heap.size w w' := left_one ho hS h.cr h.wr h.q h.cq h.ld hR hy
theorem three_s {o : Int} {P Q R A : List Tm} {d : Tm} {s y : PV} {a : Option Addr} {c : Nat} {w : World} (h : Three o P Q R d) (hA : OneR Q d R A) (ho : o ≤ 2) (hS : KP w s (addP (mulP P Q) R)) (hR : RS w a [y]) (hy : KP w y Q) :
  Calls Tryz.prog 22 #[.int .u8 o, s.v, .slice a 1 c] w fun e w' => ∃ r : PV, e = .returned (.tuple #[r.v, .int .i64 0]) ∧ DP w' w.heap.size r A ∧ Below w.heap.size w w' := (left_one ho hS h.cs h.ws h.q h.cq h.ld hR hy).mono fun e w' ⟨r, B, h1, h2, h3, h4⟩ => by
 rw [← h.eq hA h3] at h2
 exact ⟨r, h1, h2, h4⟩
set_option maxRecDepth 100000 in
set_option maxHeartbeats 16000000 in
theorem dividesSums_law (o : Int) (x0 : PV) (L0 : List TO) (x1 : PV) (L1 : List TO) (x2 : PV) (L2 : List TO) (w : World) (ho : 0 ≤ o) (h0 : RawL w x0 L0) (h1 : RawL w x1 L1) (h2 : RawL w x2 L2) :
  Calls Tryz.prog 6 #[.int .u8 o, .agg #[.slice x0.a x0.n x0.c, .slice x1.a x1.n x1.c, .slice x2.a x2.n x2.c]] w fun e w' => e = .returned (.bool true) ∧ Below w.heap.size w w' := by
 have KG := Lib.hid (Below.refl w.heap.size w)
 have N0 := Lib.hid h0
 have N1 := Lib.hid h1
 have N2 := Lib.hid h2
 have HO := Lib.hid ho
 clear h0 h1 h2 ho
 go_enter Tryz.func6, Tryz.ntmps6
 go_upto_region 1 with (fail)
 obtain ⟨v2, hV⟩ : ∃ V, V = w.alloc (.cells #[.slice x0.a x0.n x0.c, .slice x1.a x1.n x1.c, .slice x2.a x2.n x2.c] 61) := ⟨_, rfl⟩
 have hbV : Below w.heap.size w v2 := by rw [hV]; exact ((Below.refl _ _).alloc (Nat.le_refl _) _)
 have BX1 := Lib.hid (show Bxs v2 (w.heap.size) 61 [.slice x0.a x0.n x0.c, .slice x1.a x1.n x1.c, .slice x2.a x2.n x2.c] by have h := Bxs.new (w) 61 [.slice x0.a x0.n x0.c, .slice x1.a x1.n x1.c, .slice x2.a x2.n x2.c]; rw [hV]; exact h)
 rw [show w.alloc (.cells #[.slice x0.a x0.n x0.c, .slice x1.a x1.n x1.c, .slice x2.a x2.n x2.c] 61) = v2 from hV.symm]
 have KG := Lib.hid (KG.out.trans (hbV.mono KG.out.size))
 clear hV hbV
 have cBX10 := BX1.out.cell (i := 0) rfl
 have cBX11 := BX1.out.cell (i := 1) rfl
 have cBX12 := BX1.out.cell (i := 2) rfl
 have cBX1f := BX1.out.fz
 have cBX1l := BX1.out.lt
 go_wp2_with fail
 have CT := Lib.hid (dalive v2)
 with_reducible refine CT.out.mono ?_
 rintro e w3 ⟨rfl, hb⟩
 clear CT
 clear cBX10 cBX11 cBX12 cBX1f cBX1l
 clear BX1
 have KG := Lib.hid (KG.out.trans (hb.mono KG.out.size))
 clear hb
 go_wp2_with fail
 obtain ⟨v5, hV⟩ : ∃ V, V = w3.alloc (.cells #[.slice x1.a x1.n x1.c, .slice x2.a x2.n x2.c] 24) := ⟨_, rfl⟩
 have hbV : Below w3.heap.size w3 v5 := by rw [hV]; exact ((Below.refl _ _).alloc (Nat.le_refl _) _)
 have BX4 := Lib.hid (show Bxs v5 (w3.heap.size) 24 [.slice x1.a x1.n x1.c, .slice x2.a x2.n x2.c] by have h := Bxs.new (w3) 24 [.slice x1.a x1.n x1.c, .slice x2.a x2.n x2.c]; rw [hV]; exact h)
 rw [show w3.alloc (.cells #[.slice x1.a x1.n x1.c, .slice x2.a x2.n x2.c] 24) = v5 from hV.symm]
 have KG := Lib.hid (KG.out.trans (hbV.mono KG.out.size))
 clear hV hbV
 have CT := Lib.hid (show Calls Tryz.prog 9 #[.int .u8 o, .int .i64 5, .int .i64 3, .slice x0.a x0.n x0.c, .slice (some ⟨w3.heap.size, 0, none⟩) 2 2] v5 _ from dgreat_raw 5 3 (N0.out.below KG.out) (rawR2 BX4.out (N1.out.below KG.out) (N2.out.below KG.out)) (by decide))
 with_reducible refine CT.out.mono ?_
 rintro e w6 ⟨b7, rfl, hn, hb⟩
 clear CT
 clear BX4
 have KG := Lib.hid (KG.out.trans (hb.mono KG.out.size))
 clear hb
 rcases Bool.eq_false_or_eq_true b7 with rfl | rfl
 ·clear hn
  go_wp2_with fail
  have CT := Lib.hid (dalive w6)
  with_reducible refine CT.out.mono ?_
  rintro e w8 ⟨rfl, hb⟩
  clear CT
  have KG := Lib.hid (KG.out.trans (hb.mono KG.out.size))
  clear hb
  go_wp2_with fail
  go_ret
  exact ⟨rfl, KG.out⟩
 have HG := Lib.hid (hn rfl)
 clear hn
 rcases (raw_in N0.out.1 HG.out.p).symm with hbad | ⟨P0, hk⟩
 ·have B0 := Lib.hid hbad
  clear hbad
  go_wp2_with fail
  have CT := Lib.hid (raw_bad N0.out.1 HG.out.p (by decide) B0.out _ KG.out)
  with_reducible refine CT.out.mono ?_
  rintro e w9 ⟨rfl, hb⟩
  clear CT
  have KG := Lib.hid (KG.out.trans (hb.mono KG.out.size))
  clear hb
  go_wp2_with fail
  have CT := Lib.hid (dalive w9)
  with_reducible refine CT.out.mono ?_
  rintro e w10 ⟨rfl, hb⟩
  clear CT
  have KG := Lib.hid (KG.out.trans (hb.mono KG.out.size))
  clear hb
  go_wp2_with fail
  go_ret
  exact ⟨rfl, KG.out⟩
 have I0 := Lib.hid hk
 have KX0 := Lib.hid hk.k
 clear hk
 go_wp2_with fail
 have CT := Lib.hid (I0.out.fine (by decide) _ KG.out)
 with_reducible refine CT.out.mono ?_
 rintro e w11 ⟨rfl, hb⟩
 clear CT
 have KG := Lib.hid (KG.out.trans (hb.mono KG.out.size))
 clear hb
 rcases raw_in2 N1.out (HG.out.l _ (List.mem_cons_self ..)).1 with hbad | ⟨P1, hk, hz⟩ | ⟨P1, hk, hz⟩
 ·have B1 := Lib.hid hbad
  clear hbad
  go_wp2_with fail
  have CT := Lib.hid (raw_bad N1.out.1 (HG.out.l _ (List.mem_cons_self ..)).1 (by decide) B1.out _ KG.out)
  with_reducible refine CT.out.mono ?_
  rintro e w12 ⟨rfl, hb⟩
  clear CT
  have KG := Lib.hid (KG.out.trans (hb.mono KG.out.size))
  clear hb
  go_wp2_with fail
  have CT := Lib.hid (dalive w12)
  with_reducible refine CT.out.mono ?_
  rintro e w13 ⟨rfl, hb⟩
  clear CT
  have KG := Lib.hid (KG.out.trans (hb.mono KG.out.size))
  clear hb
  go_wp2_with fail
  go_ret
  exact ⟨rfl, KG.out⟩
 ·have I1 := Lib.hid hk
  have KX1 := Lib.hid hk.k
  have Z1 : ((x1.n : Nat) : Int) = 0 := by rw [hk.k.len, hz]; rfl
  clear hk hz
  go_wp2_with fail
  have CT := Lib.hid (I1.out.fine (by decide) _ KG.out)
  with_reducible refine CT.out.mono ?_
  rintro e w14 ⟨rfl, hb⟩
  clear CT
  have KG := Lib.hid (KG.out.trans (hb.mono KG.out.size))
  clear hb
  rcases (raw_in N2.out.1 (HG.out.l _ (List.mem_cons_of_mem _ (List.mem_cons_self ..))).1).symm with hbad | ⟨P2, hk⟩
  ·have B2 := Lib.hid hbad
   clear hbad
   go_wp2_with fail
   have CT := Lib.hid (raw_bad N2.out.1 (HG.out.l _ (List.mem_cons_of_mem _ (List.mem_cons_self ..))).1 (by decide) B2.out _ KG.out)
   with_reducible refine CT.out.mono ?_
   rintro e w15 ⟨rfl, hb⟩
   clear CT
   have KG := Lib.hid (KG.out.trans (hb.mono KG.out.size))
   clear hb
   go_wp2_with fail
   have CT := Lib.hid (dalive w15)
   with_reducible refine CT.out.mono ?_
   rintro e w16 ⟨rfl, hb⟩
   clear CT
   have KG := Lib.hid (KG.out.trans (hb.mono KG.out.size))
   clear hb
   go_wp2_with fail
   go_ret
   exact ⟨rfl, KG.out⟩
  have I2 := Lib.hid hk
  have KX2 := Lib.hid hk.k
  clear hk
  go_wp2_with fail
  have CT := Lib.hid (I2.out.fine (by decide) _ KG.out)
  with_reducible refine CT.out.mono ?_
  rintro e w17 ⟨rfl, hb⟩
  clear CT
  have KG := Lib.hid (KG.out.trans (hb.mono KG.out.size))
  clear hb
  go_wp2_with fail
  have CT := Lib.hid (dalive w17)
  with_reducible refine CT.out.mono ?_
  rintro e w18 ⟨rfl, hb⟩
  clear CT
  have KG := Lib.hid (KG.out.trans (hb.mono KG.out.size))
  clear hb
  go_wp2_with fail
  go_ret
  exact ⟨rfl, KG.out⟩
 have I1 := Lib.hid hk
 have KX1 := Lib.hid hk.k
 have Y1 : ¬ (x1.n = 0) := by rw [hk.k.len]; have := List.length_pos_iff.2 hz; omega
 have Z1 : ((((x1.n : Nat) : Int)) == 0) = false := beq_eq_false_iff_ne.2 (by omega)
 have E1 := Lib.hid hz
 clear hk hz
 go_wp2_with fail
 have CT := Lib.hid (I1.out.fine (by decide) _ KG.out)
 with_reducible refine CT.out.mono ?_
 rintro e w19 ⟨rfl, hb⟩
 clear CT
 have KG := Lib.hid (KG.out.trans (hb.mono KG.out.size))
 clear hb
 rcases raw_in3 o N2.out (HG.out.l _ (List.mem_cons_of_mem _ (List.mem_cons_self ..))).1 with hbad | ⟨P2, hk, h2⟩ | ⟨P2, hk, h2⟩
 ·have B2 := Lib.hid hbad
  clear hbad
  go_wp2_with fail
  have CT := Lib.hid (raw_bad N2.out.1 (HG.out.l _ (List.mem_cons_of_mem _ (List.mem_cons_self ..))).1 (by decide) B2.out _ KG.out)
  with_reducible refine CT.out.mono ?_
  rintro e w20 ⟨rfl, hb⟩
  clear CT
  have KG := Lib.hid (KG.out.trans (hb.mono KG.out.size))
  clear hb
  go_wp2_with fail
  have CT := Lib.hid (dalive w20)
  with_reducible refine CT.out.mono ?_
  rintro e w21 ⟨rfl, hb⟩
  clear CT
  have KG := Lib.hid (KG.out.trans (hb.mono KG.out.size))
  clear hb
  go_wp2_with fail
  go_ret
  exact ⟨rfl, KG.out⟩
 ·have I2 := Lib.hid hk
  have KX2 := Lib.hid hk.k
  have h2b : 2 < o := h2
  clear hk h2
  go_wp2_with fail
  have CT := Lib.hid (I2.out.fine (by decide) _ KG.out)
  with_reducible refine CT.out.mono ?_
  rintro e w22 ⟨rfl, hb⟩
  clear CT
  have KG := Lib.hid (KG.out.trans (hb.mono KG.out.size))
  clear hb
  go_wp2_with fail
  have CT := Lib.hid (dalive w22)
  with_reducible refine CT.out.mono ?_
  rintro e w23 ⟨rfl, hb⟩
  clear CT
  have KG := Lib.hid (KG.out.trans (hb.mono KG.out.size))
  clear hb
  go_wp2_with fail
  go_ret
  exact ⟨rfl, KG.out⟩
 have I2 := Lib.hid hk
 have KX2 := Lib.hid hk.k
 have h2b : ¬ (2 < o) := Int.not_lt.2 h2
 have HO2 := Lib.hid h2
 clear hk h2
 obtain ⟨d, hd⟩ := lead_ex (keyO o) E1.out
 have H3 := Lib.hid (three_in HO.out HO2.out HG.out I0.out I1.out I2.out hd)
 clear hd
 have PCP0 := Lib.hid H3.out.p
 have PCP1 := Lib.hid H3.out.q
 have PCP2 := Lib.hid H3.out.r
 go_wp2_with fail
 have CT := Lib.hid (I2.out.fine (by decide) _ KG.out)
 with_reducible refine CT.out.mono ?_
 rintro e w24 ⟨rfl, hb⟩
 clear CT
 have KG := Lib.hid (KG.out.trans (hb.mono KG.out.size))
 clear hb
 go_wp2_with fail
 obtain ⟨v26, hV⟩ : ∃ V, V = w24.alloc (.cells #[.slice x1.a x1.n x1.c] 24) := ⟨_, rfl⟩
 have hbV : Below w24.heap.size w24 v26 := by rw [hV]; exact ((Below.refl _ _).alloc (Nat.le_refl _) _)
 have BX25 := Lib.hid (show Bxs v26 (w24.heap.size) 24 [.slice x1.a x1.n x1.c] by have h := Bxs.new (w24) 24 [.slice x1.a x1.n x1.c]; rw [hV]; exact h)
 rw [show w24.alloc (.cells #[.slice x1.a x1.n x1.c] 24) = v26 from hV.symm]
 have KG := Lib.hid (KG.out.trans (hbV.mono KG.out.size))
 clear hV hbV
 have CT := Lib.hid (show Calls Tryz.prog 22 #[.int .u8 o, .slice x2.a x2.n x2.c, .slice (some ⟨w24.heap.size, 0, none⟩) 1 1] v26 _ from three_r H3.out HO2.out (KX2.out.below KG.out) (RS.bxs (ps := [x1]) BX25.out) (KX1.out.below KG.out))
 with_reducible refine CT.out.mono ?_
 rintro e w27 ⟨r, R, rfl, hN28, hone, hb⟩
 have N28 := Lib.hid hN28
 clear hN28
 clear CT
 clear BX25
 have KG := Lib.hid (KG.out.trans (hb.mono KG.out.size))
 clear hb
 have PCR := Lib.hid hone.pc
 have HON := Lib.hid hone
 clear hone
 go_wp2_with fail
 obtain ⟨p29, hp29⟩ : ∃ z : List Tm, z = mulP P0 P1 := ⟨_, rfl⟩
 have Hp29 := Lib.hid hp29
 have PCp29 := Lib.hid (show PC p29 25 45 6 by rw [hp29]; exact PCP0.out.mul PCP1.out)
 clear hp29
 have CT := Lib.hid (pdmul (KX0.out.below KG.out) PCP0.out (KX1.out.below KG.out) PCP1.out (by decide) (by decide) (by decide) (by decide) (by decide) (by decide) (by decide))
 rw [show mulP P0 P1 = p29 from Hp29.out.symm] at CT
 with_reducible refine CT.out.mono ?_
 rintro e w30 ⟨z31, rfl, hN32, hb⟩
 have N32 := Lib.hid hN32
 clear hN32
 clear CT
 have N28 := Lib.hid (N28.out.below hb)
 have KG := Lib.hid (KG.out.trans (hb.mono KG.out.size))
 clear hb
 go_wp2_with fail
 obtain ⟨p33, hp33⟩ : ∃ z : List Tm, z = addP p29 P2 := ⟨_, rfl⟩
 have Hp33 := Lib.hid hp33
 have PCp33 := Lib.hid (show PC p33 30 91 6 by rw [hp33]; exact PCp29.out.add PCP2.out 45 6 (by decide) (by decide) (by decide) (by decide))
 clear hp33
 have CT := Lib.hid (padd N32.out.k PCp29.out (KX2.out.below KG.out) PCP2.out 45 (by decide) (by decide) (by decide) (by decide))
 rw [show addP p29 P2 = p33 from Hp33.out.symm] at CT
 with_reducible refine CT.out.mono ?_
 rintro e w34 ⟨z35, rfl, hN36, hb⟩
 have N36 := Lib.hid hN36
 clear hN36
 clear CT
 have N28 := Lib.hid (N28.out.below hb)
 clear N32
 have KG := Lib.hid (KG.out.trans (hb.mono KG.out.size))
 clear hb
 go_wp2_with fail
 obtain ⟨v38, hV⟩ : ∃ V, V = w34.alloc (.cells #[.slice x1.a x1.n x1.c] 24) := ⟨_, rfl⟩
 have hbV : Below w34.heap.size w34 v38 := by rw [hV]; exact ((Below.refl _ _).alloc (Nat.le_refl _) _)
 have BX37 := Lib.hid (show Bxs v38 (w34.heap.size) 24 [.slice x1.a x1.n x1.c] by have h := Bxs.new (w34) 24 [.slice x1.a x1.n x1.c]; rw [hV]; exact h)
 rw [show w34.alloc (.cells #[.slice x1.a x1.n x1.c] 24) = v38 from hV.symm]
 have N28 := Lib.hid (N28.out.below hbV)
 have N36 := Lib.hid (N36.out.below hbV)
 have KG := Lib.hid (KG.out.trans (hbV.mono KG.out.size))
 clear hV hbV
 have CT := Lib.hid (show Calls Tryz.prog 22 #[.int .u8 o, .slice z35.a z35.n z35.c, .slice (some ⟨w34.heap.size, 0, none⟩) 1 1] v38 _ from three_s H3.out HON.out HO2.out (by have h := N36.out.k; simp only [Hp33.out, Hp29.out] at h; exact h) (RS.bxs (ps := [x1]) BX37.out) (KX1.out.below KG.out))
 with_reducible refine CT.out.mono ?_
 rintro e w39 ⟨z40, rfl, hN41, hb⟩
 have N41 := Lib.hid hN41
 clear hN41
 clear CT
 have N28 := Lib.hid (N28.out.below hb)
 clear N36
 clear BX37
 have KG := Lib.hid (KG.out.trans (hb.mono KG.out.size))
 clear hb
 go_wp2_with fail
 have CT := Lib.hid (psame5 N28.out.k N41.out.k (rfl) PCR.out (by decide) (by decide))
 with_reducible refine CT.out.mono ?_
 rintro e w42 ⟨rfl, hb⟩
 clear CT
 clear N28
 clear N41
 have KG := Lib.hid (KG.out.trans (hb.mono KG.out.size))
 clear hb
 go_wp2_with fail
 go_ret
 exact ⟨rfl, KG.out⟩
end Go.Proofs.YthcccdjfedbnfaaGreat.Pol
namespace Go.Proofs.YthcccdjfedbnfaaGreat.Pol
open Go.RowKit Go.Sort Go.Proofs.YthcccdjfedbnfaaGreat.Limb Go.ChangeShapes Go.WideShapes Go.ChangeAt
namespace DividesSumsS
theorem own : ownKnob Tryz.prog.godebug = none := by kernel_rfl
theorem laidOut : laidOutB Tryz.prog = true := by kernel_rfl
theorem order_pos {o : Int} (h : (Lit.int .u8 o).wf = true) : 0 ≤ o := by
 have h1 : (decide (IntKind.min .u8 ≤ o) && decide (o ≤ IntKind.max .u8)) = true := h
 rw [Bool.and_eq_true] at h1
 have h2 := of_decide_eq_true h1.1
 have h3 : IntKind.min .u8 = 0 := by decide
 omega
set_option maxRecDepth 100000 in
theorem open_three {H : Type} {enc : TypeId × Value → H} {W : World} {base : Nat} {r : Reach} {sp : Nat → Bool} {hd : Bool} {v : Value} {d : DataW H} {p : List MemPlace}
  (hok : Value.okWide Tryz.prog W r base 61 v) (h : DataW.Trod enc Tryz.prog W 0 sp hd 61 v d p) :
  ∃ (x0 : PV) (L0 : List TO) (x1 : PV) (L1 : List TO) (x2 : PV) (L2 : List TO), v = .agg #[.slice x0.a x0.n x0.c, .slice x1.a x1.n x1.c, .slice x2.a x2.n x2.c] ∧ RawL W x0 L0 ∧ RawL W x1 L1 ∧ RawL W x2 L2 := by
 obtain ⟨cs, rfl, _⟩ : ∃ cs, v = .agg cs ∧ True := by
  unfold Value.okWide at hok
  rw [Tryz.underlying61] at hok
  obtain ⟨cs, h1, _⟩ := hok
  exact ⟨cs, h1, trivial⟩
 obtain ⟨fuel, hf⟩ := h
 obtain ⟨l⟩ := cs
 have hf : DataW.trod enc Tryz.prog W 0 sp hd fuel 61 l = some (d, p) := hf
 obtain ⟨hlen, m, _, h2⟩ := LawPost.trod_arr Tryz.underlying61 hf
 have hlen : l.length = 3 := hlen.trans (by kernel_rfl)
 obtain ⟨z0, z1, z2, rfl⟩ : ∃ z0 z1 z2, l = [z0, z1, z2] := by
  match l, hlen with
  | [z0, z1, z2], _ => exact ⟨_, _, _, rfl⟩
 obtain ⟨y0, e0⟩ := h2 0 (by omega)
 obtain ⟨y1, e1⟩ := h2 1 (by omega)
 obtain ⟨y2, e2⟩ := h2 2 (by omega)
 rw [cellsPoly] at e0 e1 e2
 obtain ⟨x0, L0, g0, r0⟩ := open_polyL (v := z0) e0
 obtain ⟨x1, L1, g1, r1⟩ := open_polyL (v := z1) e1
 obtain ⟨x2, L2, g2, r2⟩ := open_polyL (v := z2) e2
 exact ⟨x0, L0, x1, L1, x2, L2, by rw [g0, g1, g2], r0, r1, r2⟩
noncomputable def laidWorld (os : Os) : World := World.laidAll Tryz.prog os Rows.dividesSumsRow.laid
noncomputable def witArgs : Array Value := #[.int .u8 0, .agg #[.slice none 0 0, .slice none 0 0, .slice none 0 0]]
theorem laid_met (os : Os) : laidMet Tryz.prog Rows.dividesSumsRow.laid ((laidWorld os).forCall (fun _ _ => 0) ⟨#[], witArgs, []⟩).memory :=
 laidMet_laidAll _ (by kernel_rfl) (by kernel_rfl)
theorem reads (os : Os) {H : Type} (enc : TypeId × Value → H) : ∃ places, DataW.whole enc Tryz.prog ((laidWorld os).forCall (fun _ _ => 0) ⟨#[], witArgs, []⟩).memory Tryz.f6.params.toList Rows.dividesSumsSpec.vars false witArgs.toList 8 = some ([.lit (.int .u8 0), .agg [.nil, .nil, .nil]], [], places) :=
 ⟨[], by kernel_rfl⟩
set_option maxRecDepth 100000 in
theorem lifted (os : Os) (started : os.Started) (H : Type) (enc : TypeId × Value → H) (F : Stop.Interp) :
  ReturnsInHanded {} Tryz.checked os 6 .any ((OpenSpec.ofChange Rows.dividesSumsSpec).preRow enc Tryz.prog Tryz.f6 Rows.dividesSumsRow.domain false Rows.dividesSumsRow.laid) (((OpenSpec.ofChange Rows.dividesSumsSpec).at F).post enc Tryz.prog Tryz.f6 false true false false) := by
 obtain ⟨places, hx⟩ := reads os enc
 refine returnsInHanded_of_row (C := Tryz.checked) (s := OpenSpec.ofChange Rows.dividesSumsSpec) own started (by kernel_rfl) Tryz.func6
  (witness_row_atRef (enc := enc) (C := Tryz.checked) false (laidWorld os) witArgs (World.laidAll_os _ _ _) (by kernel_rfl) (by kernel_rfl) (by kernel_rfl)
   (OpenSpec.preRow_of_cond 8 hx (by kernel_rfl) (fun k hk => by cases hk) (by kernel_rfl) (laid_met os))) ?_
 intro W base args ds gs before hval0 hW _ _ hwt _ _ _
 have hval : ∀ (j : Nat) t v, Tryz.f6.params[j]? = some t → args[j]? = some v → Value.okWide Tryz.prog W .any base t v := hval0
 have hW' := hW
 obtain ⟨p, q, hA0, hV, rfl, hfz, hnd⟩ := hW
 have hA : DataW.TrodAll enc Tryz.prog W 0 (fun _ => true) true Tryz.f6.params.toList args.toList ds p := hA0
 rw [Tryz.params6] at hA hval
 obtain ⟨v0, v1, d0, d1, p0, p1, rfl, rfl, rfl, h0, h1⟩ := trodAll_two hA
 obtain ⟨rfl, rfl⟩ := trodVars_none hV
 obtain ⟨o, rfl, -, -, wo⟩ := open_int Tryz.underlying22 (hval 0 22 v0 rfl rfl) h0
 have ho : 0 ≤ o := order_pos wo
 obtain ⟨x0, L0, x1, L1, x2, L2, rfl, r0, r1, r2⟩ := open_three (hval 1 61 v1 rfl rfl) h1
 refine (dividesSums_law o x0 L0 x1 L1 x2 L2 W ho r0 r1 r2).mono fun e W' ⟨he, hg⟩ => ?_
 subst he
 exact ⟨_, rfl, LawPost.law_post laidOut (by kernel_rfl) (by kernel_rfl) Tryz.underlying4 hW' rfl rfl hg⟩
theorem said : Rows.DividesSumsSaid :=
 OpenClaim.holds_of_cond 6 Tryz.f6 rfl rfl rfl rfl rfl rfl rfl ⟨rfl, rfl, rfl, rfl, rfl⟩ rfl rfl rfl rfl rfl (by kernel_rfl) Tryz.func6 (by kernel_rfl)
  (of_decide_eq_true (by kernel_rfl)) (by unfold Func.isWrapper; first | (rw [if_pos (by decide +kernel)]; kernel_rfl) | (rw [if_neg (by decide +kernel)]; exact ⟨rfl, rfl⟩))
  (fun os started H enc _ F => by rw [OpenClaim.pre_eq_preRow]; exact lifted os started H enc F)
#print axioms said
end DividesSumsS
end Go.Proofs.YthcccdjfedbnfaaGreat.Pol
