/-
  The statement of DividesWhole: whatever it is handed, it returns true, and what it was handed reads behind the call as it read before.
-/
import Derived.Test.YthcccdjfedbnfaaGreatDbM
import Derived.Lay
import Derived.MakeChecks
import Derived.Stop.LaidErr
import Derived.Deep.DeepWitnessRowRef
import Derived.WalkKit
import Derived.ProofKit
import Derived.OpenShut
import Derived.Deep.DeepHandedRow
import Derived.Lib.LaidTab
set_option linter.unusedSimpArgs false
set_option linter.unusedVariables false
namespace Go.Proofs.YthcccdjfedbnfaaGreat.Limb
open Go.RowKit Go.Sort Go.Fresh
theorem lenZ_val (s : Bool) (n : Nat) (o : Nat → Int) (h : ∀ i, i < n → 0 ≤ o i ∧ o i ≤ 4294967295) : lenB (valN s n o).natAbs ≤ n := by
 by_cases hk : okN s n o
 ·obtain ⟨f1, f2, f3⟩ := of_facts s n o hk h
  omega
 ·rw [show valN s n o = 0 by unfold valN; rw [if_neg hk]]
  simp [lenB_zero]
theorem NumA.len {w : World} {s : Bool} {a : Option Addr} {n c : Nat} {z : Int} (h : NumA w s a n c z) : lenB z.natAbs ≤ n := by
 obtain ⟨o, hr, rfl⟩ := h.ex
 exact lenZ_val s n o hr.rng
end Go.Proofs.YthcccdjfedbnfaaGreat.Limb
namespace Go.Proofs.YthcccdjfedbnfaaGreat.Pol
open Go.RowKit Go.Sort Go.Proofs.YthcccdjfedbnfaaGreat.Limb
theorem whole_run {o : Int} {P D U : List Tm} {d : Tm} {r y : PV} {a : Option Addr} {c : Nat} {w : World} (ho : o ≤ 2) (bP : PC P 6 4 4) (bD : PC D 6 4 4) (hU : UOk (keyO o) 4 4 d U) (bU : PC U 1 3 4) (hd : Lead (keyO o) D d)
  (hr : KP w r (addP (mulP P D) U)) (hR : RS w a [y]) (hy : KP w y D) : Calls Tryz.prog 10 #[.int .u8 o, r.v, .slice a 1 c] w (DivD w fun s => s.os = [P] ∧ s.r = U) := by
 have hsub : ∀ X : List Tm, Canon X → (∀ t ∈ X, t ∈ P) → PC X 6 4 4 := fun X hX hs => ⟨hX, by
  have := canon_len hX (A := P.map Prod.fst) fun t ht => List.mem_map_of_mem (hs t ht)
  rw [List.length_map] at this
  exact Nat.le_trans this bP.b.len, fun t ht => bP.b.lq t (hs t ht), fun t ht => bP.b.ex t (hs t ht)⟩
 have hpc : ∀ s, WI P D U s → PC s.p 37 109 8 := fun s h => by
  obtain ⟨X, hX, hXP, hor, _⟩ := h.ex
  rcases hor with ⟨hp, _⟩ | ⟨_, hp, _⟩
  ·rw [hp]
   exact (((hsub X hX hXP).mul bD).add bU 54 8 (by decide) (by decide) (by decide) (by decide)).up (by decide) (by decide) (by decide)
  ·rw [hp]; exact PC.nil _ _ _
 have hdv : Dvs (keyO o) [(d, D)] 4 := ⟨keyO_key o, fun e he => by rw [List.mem_singleton.1 he]; exact bD.c, fun e he => by rw [List.mem_singleton.1 he]; exact hd, fun e he t ht => by rw [List.mem_singleton.1 he] at ht; exact bD.b.ex t ht⟩
 have hP : DivP o [(d, D)] (WI P D U) (fun s => leftM (keyO o) (boxM ⟨1, 1, 1, 1⟩ 40) s.p) 109 4 6 40 := by
  refine ⟨fun s hs => ⟨(hpc s hs).b.lq, fun t ht => ?_, fun q hq t ht => ?_⟩, fun s hs => ⟨Nat.le_trans (hpc s hs).b.len (by decide), ?_, fun q hq => ?_⟩, fun s s' hs _ _ _ _ hst => ⟨hs.step (keyO_key o) bD.c bP.b bD.b (by decide) hU hd hst, ?_⟩, fun e he => ?_, by decide, by decide, by decide, by decide⟩
  ·obtain ⟨X, hX, hXP, hor, _⟩ := hs.ex
   rcases hor with ⟨_, hr⟩ | ⟨_, _, hr⟩
   ·rw [hr] at ht; cases ht
   ·rw [hr] at ht; exact (bU.b.lq t ht).up (by decide)
  ·obtain ⟨X, hX, hXP, _, ho⟩ := hs.ex
   rw [ho] at hq
   rw [List.mem_singleton.1 hq] at ht
   exact (bP.b.lq t (sub_mem bP.c hX hXP t ht)).up (by decide)
  ·obtain ⟨X, hX, hXP, hor, _⟩ := hs.ex
   rcases hor with ⟨_, hr⟩ | ⟨_, _, hr⟩
   ·rw [hr]; exact Nat.zero_le _
   ·rw [hr]; exact Nat.le_trans bU.b.len (by decide)
  ·obtain ⟨X, hX, hXP, _, ho⟩ := hs.ex
   rw [ho] at hq
   rw [List.mem_singleton.1 hq]
   exact Nat.le_trans (hsub _ (subP_canon _ _) (sub_mem bP.c hX hXP)).b.len (by decide)
  ·have b := hpc s hs
   obtain ⟨t, hl, hf⟩ := hst.falls hdv b.c b.b.ex (by decide)
   refine leftM_lt hl.1 (boxM_mem ⟨by decide, by decide, by decide, by decide⟩ ?_) hf
   obtain ⟨h1, h2, h3, h4⟩ := b.b.ex t hl.1
   rw [many_wt]
   unfold Mo.many
   omega
  ·rw [List.mem_singleton.1 he]
   exact ⟨bD.b.lq, bD.b.len, hd⟩
 have h := divide_k o r (addP (mulP P D) U) a c [(y, D)] [(d, D)] (WI P D U) _ 109 4 6 40 w ho hr hR (fun q hq => by rw [List.mem_singleton.1 hq]; exact hy) rfl hP (WI.start bP.c) (show 1 ≤ 1000 by decide)
 refine h.mono fun e w' h => (h.done fun s t i e hs hl ht hov => ?_).imp fun s hs h0 => hs.done (keyO_key o) bP.c bD.c bP.b bD.b (by decide) hU hd h0
 obtain ⟨u, hu, x, hx, hno⟩ := hov
 rw [List.mem_singleton.1 hx] at hno
 have hm := List.mem_singleton.1 (List.mem_of_getElem? ht.1)
 subst hm
 obtain ⟨a1, a2, a3, a4⟩ := bD.b.ex u hu
 obtain ⟨b1, b2, b3, b4⟩ : (t.1.quo d.1).le 8 := Mo.quo_le ((hpc s hs).b.ex t hl.1)
 exact hno ⟨by show u.1.x + (t.1.quo d.1).x ≤ 65535; omega, by show u.1.y + (t.1.quo d.1).y ≤ 65535; omega, by show u.1.z + (t.1.quo d.1).z ≤ 65535; omega, by show u.1.t + (t.1.quo d.1).t ≤ 65535; omega⟩
theorem one_lex {m d : Mo} (hd : d ≠ Mo.one) : keyO 0 Mo.one < keyO 0 (m.mul d) := by
 have h0 : keyO 0 Mo.one = 0 := by decide
 have h1 : ∀ n : Mo, keyO 0 n = (n.x : Int) * 281474976710656 + (n.y : Int) * 4294967296 + (n.z : Int) * 65536 + (n.t : Int) := fun n => by
  unfold keyO Mono.KO
  rw [if_neg (by decide), if_neg (by decide), key_mo]
 rw [h0, h1]
 have h2 : d.x ≠ 0 ∨ d.y ≠ 0 ∨ d.z ≠ 0 ∨ d.t ≠ 0 := by
  refine Decidable.by_contra fun h => hd ?_
  obtain ⟨x, y, z, t⟩ := d
  simp only [not_or, Decidable.not_not] at h
  obtain ⟨rfl, rfl, rfl, rfl⟩ := h
  rfl
 show (0 : Int) < ((m.x + d.x : Nat) : Int) * 281474976710656 + ((m.y + d.y : Nat) : Int) * 4294967296 + ((m.z + d.z : Nat) : Int) * 65536 + ((m.t + d.t : Nat) : Int)
 omega
theorem one_no {d : Mo} (hd : d ≠ Mo.one) : ¬ d.stands Mo.one := fun h => hd (by
 obtain ⟨h1, h2, h3, h4⟩ := h
 obtain ⟨x, y, z, t⟩ := d
 have h1 : x ≤ 0 := h1
 have h2 : y ≤ 0 := h2
 have h3 : z ≤ 0 := h3
 have h4 : t ≤ 0 := h4
 obtain rfl : x = 0 := by omega
 obtain rfl : y = 0 := by omega
 obtain rfl : z = 0 := by omega
 obtain rfl : t = 0 := by omega
 rfl)
theorem uok_one {d : Tm} (hd : d.1 ≠ Mo.one) : UOk (keyO 0) 4 4 d [(Mo.one, ((1 : Int) : Rat))] := Or.inr ⟨_, rfl, by decide +kernel, ⟨by decide, by decide, by decide, by decide⟩, fun m _ => one_lex hd, one_no hd⟩
theorem whole_exact {P D : List Tm} {d : Tm} {r y : PV} {w : World} (bP : PC P 6 4 4) (bD : PC D 6 4 4) (hd : Lead (keyO 0) D d) (hr : KP w r (mulP P D)) (hy : KP w y D) :
  Calls Tryz.prog 18 #[r.v, y.v] w fun e w' => ∃ z : PV, e = .returned (.tuple #[z.v, .bool true]) ∧ DP w' w.heap.size z P ∧ Below w.heap.size w w' := by
 have hr' : KP w r (addP (mulP P D) []) := by rw [show addP (mulP P D) [] = mulP P D from canon_same (addP_canon _ _) (mulP_canon _ _) fun f => by rw [ev_addP, ev_nil, Rat.add_zero]]; exact hr
 refine (exact_t r y w (fun Q R => ∃ s : DS, (s.os = [P] ∧ s.r = []) ∧ s.p = [] ∧ s.os = [Q] ∧ s.r = R) (fun V a hb hR => (whole_run (by decide) bP bD (Or.inl rfl) (PC.nil _ _ _) hd (hr'.below hb) hR (hy.below hb)).mono fun e w' h => h.one fun s hs => by rw [hs.1]; rfl) (fun Q R ⟨s, hs, _, _, h3⟩ => by rw [← h3]; exact hs.2)).mono ?_
 rintro e w' ⟨z, Q, rfl, hz, ⟨s, hs, _, h2, _⟩, hb⟩
 rw [hs.1] at h2
 injection h2 with h2
 subst h2
 exact ⟨z, rfl, hz, hb⟩
theorem whole_noexact {P D : List Tm} {d : Tm} {r y : PV} {w : World} (bP : PC P 6 4 4) (bD : PC D 6 4 4) (hd : Lead (keyO 0) D d) (h1 : d.1 ≠ Mo.one) (hr : KP w r (addP (mulP P D) [(Mo.one, ((1 : Int) : Rat))])) (hy : KP w y D) (bU : PC [(Mo.one, ((1 : Int) : Rat))] 1 3 4) :
  Calls Tryz.prog 18 #[r.v, y.v] w fun e w' => e = .returned (.tuple #[.slice none 0 0, .bool false]) ∧ Below w.heap.size w w' :=
 exact_f r y w (fun Q R => ∃ s : DS, (s.os = [P] ∧ s.r = [(Mo.one, ((1 : Int) : Rat))]) ∧ s.p = [] ∧ s.os = [Q] ∧ s.r = R) (fun V a hb hR => (whole_run (by decide) bP bD (uok_one h1) bU hd (hr.below hb) hR (hy.below hb)).mono fun e w' h => h.one fun s hs => by rw [hs.1]; rfl) (fun Q R ⟨s, hs, _, _, h3⟩ => by rw [← h3, hs.2]; exact List.cons_ne_nil _ _)
theorem const_exact {S D : List Tm} {q : Rat} {s y : PV} {w : World} (hS : KP w s S) (bS : PC S 37 111 8) (hc : CD S 5000) (hD : D = [(Mo.one, q)]) (hq0 : q ≠ 0) (hq : LQ q 21) (hw : ∀ t ∈ S, t.1.many ≤ 8) (hy : KP w y D) :
  Calls Tryz.prog 18 #[s.v, y.v] w fun e w' => ∃ (z : PV) (Q : List Tm), e = .returned (.tuple #[z.v, .bool true]) ∧ DP w' w.heap.size z Q ∧ Below w.heap.size w w' := by
 subst hD
 refine (exact_t s y w (fun Q R => ∃ s : DS, (s.r = [] ∧ s.os.length = 1) ∧ s.p = [] ∧ s.os = [Q] ∧ s.r = R) (fun V a hb hR => (const_run (k0 := 5000) (W := 8) (N := 656) (k := 33229) (by decide) (hS.below hb) hR (hy.below hb) hq0 hq (fun t ht => by rw [many_wt]; exact hw t ht) hc (by decide +kernel) (by decide) (by decide) (by decide) (by decide)).mono fun e w' h => h.one fun s hs => hs.2) (fun Q R ⟨s, hs, _, _, h3⟩ => by rw [← h3]; exact hs.1)).mono ?_
 rintro e w' ⟨z, Q, rfl, hz, _, hb⟩
 exact ⟨z, Q, rfl, hz, hb⟩
theorem rawR1 {w : World} {b : Nat} {x : PV} {L : List TO} (h : Bxs w b 24 [x.v]) (hx : RawL w x L) : RawR w (some ⟨b, 0, none⟩) 1 [(x, L)] := ⟨rfl, by decide, RS.bxs (ps := [x]) h, fun e he => by rw [List.mem_singleton.1 he]; exact hx⟩
theorem InP.pcs {w : World} {x : PV} {ts : List TV} {P : List Tm} {m d : Nat} (h : InP w x ts m P) (ht : tallB d ts = false) : PC P m 4 d := ⟨h.k.canon, h.len, h.lq, fun t hm => by
 have := h.tall ht t hm
 unfold Mo.many at this
 exact ⟨by omega, by omega, by omega, by omega⟩⟩
theorem many_mul (a b : Mo) : (a.mul b).many = a.many + b.many := by
 show (a.x + b.x) + (a.y + b.y) + (a.z + b.z) + (a.t + b.t) = (a.x + a.y + a.z + a.t) + (b.x + b.y + b.z + b.t)
 omega
theorem raw_in2 {w : World} {x : PV} {L : List TO} {m : Nat} (h : RawL w x L) (hg : NotGreat m (tsOf L)) : BP w x ∨ (∃ P, InP w x (tsOf L) m P ∧ P = []) ∨ ∃ P, InP w x (tsOf L) m P ∧ P ≠ [] := by
 rcases raw_in h.1 hg with ⟨P, hP⟩ | hb
 ·by_cases he : P = []
  ·exact Or.inr (Or.inl ⟨P, hP, he⟩)
  ·exact Or.inr (Or.inr ⟨P, hP, he⟩)
 ·exact Or.inl hb
theorem addP_nilr {P : List Tm} (h : Canon P) : addP P [] = P := canon_same (addP_canon _ _) h fun f => by rw [ev_addP, ev_nil, Rat.add_zero]
theorem raw_in4 (o : Int) {w : World} {x : PV} {L : List TO} {m : Nat} (h : RawL w x L) (hg : NotGreat m (tsOf L)) : BP w x ∨ (∃ P, InP w x (tsOf L) m P ∧ P = []) ∨ (∃ P, InP w x (tsOf L) m P ∧ P ≠ [] ∧ 2 < o) ∨ ∃ P, InP w x (tsOf L) m P ∧ P ≠ [] ∧ o ≤ 2 := by
 rcases raw_in2 h hg with hb | hb | ⟨P, hP, hn⟩
 ·exact Or.inl hb
 ·exact Or.inr (Or.inl hb)
 ·by_cases he : 2 < o
  ·exact Or.inr (Or.inr (Or.inl ⟨P, hP, hn, he⟩))
  ·exact Or.inr (Or.inr (Or.inr ⟨P, hP, hn, by omega⟩))
theorem eq_one_run {m : Mo} {b : Bool} (h : b = decide (m = Mo.one)) (w : World) : (binOp BinOp.eql 39 (.agg #[.int .u16 m.x, .int .u16 m.y, .int .u16 m.z, .int .u16 m.t]) (.agg #[.int .u16 0, .int .u16 0, .int .u16 0, .int .u16 0])).run Tryz.prog w = .ok (.bool b) w := by
 have h1 := run_eqM m Mo.one w
 have e : binOp BinOp.eql 39 (Mo.v m) (Mo.v Mo.one) = (do pure (.bool (← Op.equal 39 (Mo.v m) (Mo.v Mo.one)))) := rfl
 show (binOp BinOp.eql 39 (Mo.v m) (Mo.v Mo.one)).run Tryz.prog w = _
 rw [e]
 simp only [Sem.run_bind, h1]
 rw [h]
 rfl
theorem KP.first {w : World} {x : PV} {P r : List Tm} {d : Tm} (h : KP w x P) (e : P = d :: r) : ∃ b o, x.a = some ⟨b, o, none⟩ ∧ w.cell? ⟨b, o + 4, none⟩ = some (.int .u16 d.1.x) ∧ w.cell? ⟨b, o + 5, none⟩ = some (.int .u16 d.1.y) ∧ w.cell? ⟨b, o + 6, none⟩ = some (.int .u16 d.1.z) ∧ w.cell? ⟨b, o + 7, none⟩ = some (.int .u16 d.1.t) := by
 obtain ⟨L, h1, h2, _, h4⟩ := h.ex
 rw [e] at h4
 match L, h4, h1 with
 | t :: s, h4, h1 =>
  rw [List.map_cons, List.cons.injEq] at h4
  obtain ⟨b, o, ha, hc⟩ := h1.ex (by rw [List.map_cons]; exact List.cons_ne_nil _ _)
  have h5 := hc 0 t.1 rfl
  have e1 : t.1.m = d.1 := congrArg Prod.fst h4.1
  rw [← e1]
  rw [Nat.zero_mul, Nat.add_zero] at h5
  exact ⟨b, o, ha, h5 4 _ rfl, h5 5 _ rfl, h5 6 _ rfl, h5 7 _ rfl⟩
structure Whl (o : Int) (P D : List Tm) (d d0 : Tm) : Prop where
 p : PC P 6 4 4
 q : PC D 6 4 4
 mp : ∀ t ∈ P, t.1.many ≤ 4
 mq : ∀ t ∈ D, t.1.many ≤ 4
 l : Lead (keyO o) D d
 l0 : Lead (keyO 0) D d0
theorem whole_in {w : World} {o o' : Int} {p q : PV} {tsp tsq : List TV} {P D : List Tm} (hg : DGr o' 6 4 tsp [tsq]) (hp : InP w p tsp 6 P) (hq : InP w q tsq 6 D) (hne : D ≠ []) : ∃ (d d0 : Tm) (r : List Tm), D = d0 :: r ∧ Whl o P D d d0 := by
 obtain ⟨d, hd⟩ := lead_ex (keyO o) hne
 have tq := (hg.l tsq (List.mem_cons_self ..)).2.1
 have bp := hp.pcs hg.tp
 have bq := hq.pcs tq
 have mp := hp.tall hg.tp
 have mq := hq.tall tq
 match D, hne, hq, hd, bq, mq with
 | d0 :: r, _, hq, hd, bq, mq => exact ⟨d, d0, r, rfl, bp, bq, mp, mq, hd, lex_head hq.k.canon hq.k.small⟩
theorem whole_div {o : Int} {P D : List Tm} {d d0 : Tm} {r y : PV} {a : Option Addr} {c : Nat} {w : World} (h : Whl o P D d d0) (ho : o ≤ 2) (hr : KP w r (mulP P D)) (hR : RS w a [y]) (hy : KP w y D) :
  Calls Tryz.prog 10 #[.int .u8 o, r.v, .slice a 1 c] w fun e w' => ∃ (g c : Nat) (z r : PV), e = .returned (.tuple #[.slice (some ⟨g, 0, none⟩) 1 c, r.v, .int .i64 0]) ∧ QR w' g [z] ∧ DP w' w.heap.size z P ∧ DP w' w.heap.size r [] ∧ Below w.heap.size w w' := by
 refine (whole_run ho h.p h.q (Or.inl rfl) (PC.nil _ _ _) h.l (by rw [addP_nilr (mulP_canon _ _)]; exact hr) hR hy).mono fun e w' h => ?_
 obtain ⟨g, c, z, zq, r, R, h1, h2, h3, h4, ⟨s, h5, _, h6, h7⟩, h8⟩ := h.one fun s hs => by rw [hs.1]; rfl
 rw [h5.1] at h6
 injection h6 with h6
 subst h6
 rw [← h7, h5.2] at h4
 refine ⟨g, c, z, r, h1, ⟨fun i x hi => ?_⟩, h3, h4, h8⟩
 match i, hi with
 | 0, hi => cases hi; exact h2
 | i + 1, hi => simp at hi
theorem whole_ex {o : Int} {P D : List Tm} {d d0 : Tm} {r y : PV} {w : World} (h : Whl o P D d d0) (hr : KP w r (mulP P D)) (hy : KP w y D) :
  Calls Tryz.prog 18 #[r.v, y.v] w fun e w' => ∃ z : PV, e = .returned (.tuple #[z.v, .bool true]) ∧ DP w' w.heap.size z P ∧ Below w.heap.size w w' := whole_exact h.p h.q h.l0 hr hy
theorem pc_one : PC [(Mo.one, ((1 : Int) : Rat))] 1 3 4 := ⟨canon_single (by decide +kernel), ⟨Nat.le_refl _, fun t ht => by rw [List.mem_singleton.1 ht]; exact ⟨by decide +kernel, by decide +kernel⟩, fun t ht => by rw [List.mem_singleton.1 ht]; exact ⟨by decide, by decide, by decide, by decide⟩⟩⟩
theorem nf_one1 : nf [(Mo.one, ((1 : Int) : Rat))] = [(Mo.one, ((1 : Int) : Rat))] := nf_one (by decide +kernel)
theorem whole_more_no {o : Int} {P D : List Tm} {d d0 : Tm} {r y : PV} {w : World} (h : Whl o P D d d0) (h1 : d0.1 ≠ Mo.one) (hr : KP w r (addP (mulP P D) (nf [(Mo.one, ((1 : Int) : Rat))]))) (hy : KP w y D) :
  Calls Tryz.prog 18 #[r.v, y.v] w fun e w' => e = .returned (.tuple #[.slice none 0 0, .bool false]) ∧ Below w.heap.size w w' := by
 rw [nf_one1] at hr
 exact whole_noexact h.p h.q h.l0 h1 hr hy pc_one
theorem one_head {d0 : Tm} {r : List Tm} (h : Canon (d0 :: r)) (h1 : d0.1 = Mo.one) : d0 :: r = [(Mo.one, d0.2)] := by
 have hr : r = [] := by
  match r, h with
  | [], _ => rfl
  | u :: s, h =>
   have h2 := h.head u (List.mem_cons_self ..)
   rw [h1] at h2
   unfold Mo.lt at h2
   exfalso
   have e1 : Mo.one.x = 0 := rfl
   have e2 : Mo.one.y = 0 := rfl
   have e3 : Mo.one.z = 0 := rfl
   have e4 : Mo.one.t = 0 := rfl
   omega
 rw [hr, ← h1]
theorem whole_more_yes {o : Int} {P D r0 : List Tm} {d d0 : Tm} {r y : PV} {w : World} (h : Whl o P D d d0) (he : D = d0 :: r0) (h1 : d0.1 = Mo.one) (hr : KP w r (addP (mulP P D) (nf [(Mo.one, ((1 : Int) : Rat))]))) (hy : KP w y D) :
  Calls Tryz.prog 18 #[r.v, y.v] w fun e w' => ∃ (z : PV) (Q : List Tm), e = .returned (.tuple #[z.v, .bool true]) ∧ DP w' w.heap.size z Q ∧ Below w.heap.size w w' := by
 rw [nf_one1] at hr
 have bs : PC (addP (mulP P D) [(Mo.one, ((1 : Int) : Rat))]) 37 109 8 := ((h.p.mul h.q).add pc_one 54 8 (by decide) (by decide) (by decide) (by decide))
 have hD : D = [(Mo.one, d0.2)] := he.trans (one_head (he ▸ h.q.c) h1)
 have hm : d0 ∈ D := by rw [he]; exact List.mem_cons_self ..
 refine const_exact hr (bs.up (Nat.le_refl _) (by decide) (Nat.le_refl _)) ((CD.of (n := 37) (a := 109) (b := 109) bs.b.len fun t ht => (bs.b.lq t ht).ls).up (by decide)) hD (h.q.c.non d0 hm) ((h.q.b.lq d0 hm).up (by decide)) (fun t ht => ?_) hy
 rcases addP_mo ht with ⟨v, hv, e⟩ | ⟨v, hv, e⟩
 ·obtain ⟨a, ha, b, hb, e2⟩ := mulP_mo2 hv
  rw [← e, ← e2, many_mul]
  have := h.mp a ha
  have := h.mq b hb
  omega
 ·rw [← e, List.mem_singleton.1 hv]
  decide
set_option maxRecDepth 100000 in
set_option maxHeartbeats 16000000 in
theorem dividesWhole_law (x0 : PV) (L0 : List TO) (x1 : PV) (L1 : List TO) (o : Int) (w : World) (h0 : RawL w x0 L0) (h1 : RawL w x1 L1) (ho : 0 ≤ o) :
  Calls Tryz.prog 4 #[.slice x0.a x0.n x0.c, .slice x1.a x1.n x1.c, .int .u8 o] w fun e w' => e = .returned (.bool true) ∧ Below w.heap.size w w' := by
 have KG := Lib.hid (Below.refl w.heap.size w)
 have N0 := Lib.hid h0
 have N1 := Lib.hid h1
 have HO := Lib.hid ho
 clear h0 h1 ho
 go_enter Tryz.func4, Tryz.ntmps4
 go_wp2_with fail
 have CT := Lib.hid (dalive w)
 with_reducible refine CT.out.mono ?_
 rintro e w1 ⟨rfl, hb⟩
 clear CT
 have KG := Lib.hid (KG.out.trans (hb.mono KG.out.size))
 clear hb
 go_wp2_with fail
 obtain ⟨v3, hV⟩ : ∃ V, V = w1.alloc (.cells #[.slice x1.a x1.n x1.c] 24) := ⟨_, rfl⟩
 have hbV : Below w1.heap.size w1 v3 := by rw [hV]; exact ((Below.refl _ _).alloc (Nat.le_refl _) _)
 have BX2 := Lib.hid (show Bxs v3 (w1.heap.size) 24 [.slice x1.a x1.n x1.c] by have h := Bxs.new (w1) 24 [.slice x1.a x1.n x1.c]; rw [hV]; exact h)
 rw [show w1.alloc (.cells #[.slice x1.a x1.n x1.c] 24) = v3 from hV.symm]
 have KG := Lib.hid (KG.out.trans (hbV.mono KG.out.size))
 clear hV hbV
 have CT := Lib.hid (show Calls Tryz.prog 9 #[.int .u8 1, .int .i64 6, .int .i64 4, .slice x0.a x0.n x0.c, .slice (some ⟨w1.heap.size, 0, none⟩) 1 1] v3 _ from dgreat_raw 6 4 (N0.out.below KG.out) (rawR1 BX2.out (N1.out.below KG.out)) (by decide))
 with_reducible refine CT.out.mono ?_
 rintro e w4 ⟨b5, rfl, hn, hb⟩
 clear CT
 clear BX2
 have KG := Lib.hid (KG.out.trans (hb.mono KG.out.size))
 clear hb
 rcases Bool.eq_false_or_eq_true b5 with rfl | rfl
 ·clear hn
  go_wp2_with fail
  have CT := Lib.hid (dalive w4)
  with_reducible refine CT.out.mono ?_
  rintro e w6 ⟨rfl, hb⟩
  clear CT
  have KG := Lib.hid (KG.out.trans (hb.mono KG.out.size))
  clear hb
  go_wp2_with fail
  go_ret
  exact ⟨rfl, KG.out⟩
 have HG := Lib.hid (hn rfl)
 clear hn
 rcases (raw_in N0.out.1 HG.out.p).symm with hbad | ⟨P0, hk⟩
 ·have B0 := Lib.hid hbad
  clear hbad
  go_wp2_with fail
  have CT := Lib.hid (raw_bad N0.out.1 HG.out.p (by decide) B0.out _ KG.out)
  with_reducible refine CT.out.mono ?_
  rintro e w7 ⟨rfl, hb⟩
  clear CT
  have KG := Lib.hid (KG.out.trans (hb.mono KG.out.size))
  clear hb
  go_wp2_with fail
  have CT := Lib.hid (dalive w7)
  with_reducible refine CT.out.mono ?_
  rintro e w8 ⟨rfl, hb⟩
  clear CT
  have KG := Lib.hid (KG.out.trans (hb.mono KG.out.size))
  clear hb
  go_wp2_with fail
  go_ret
  exact ⟨rfl, KG.out⟩
 have I0 := Lib.hid hk
 have KX0 := Lib.hid hk.k
 clear hk
 go_wp2_with fail
 have CT := Lib.hid (I0.out.fine (by decide) _ KG.out)
 with_reducible refine CT.out.mono ?_
 rintro e w9 ⟨rfl, hb⟩
 clear CT
 have KG := Lib.hid (KG.out.trans (hb.mono KG.out.size))
 clear hb
 rcases raw_in4 o N1.out (HG.out.l _ (List.mem_cons_self ..)).1 with hbad | ⟨P1, hk, hz⟩ | ⟨P1, hk, hz, h2⟩ | ⟨P1, hk, hz, h2⟩
 ·have B1 := Lib.hid hbad
  clear hbad
  go_wp2_with fail
  have CT := Lib.hid (raw_bad N1.out.1 (HG.out.l _ (List.mem_cons_self ..)).1 (by decide) B1.out _ KG.out)
  with_reducible refine CT.out.mono ?_
  rintro e w10 ⟨rfl, hb⟩
  clear CT
  have KG := Lib.hid (KG.out.trans (hb.mono KG.out.size))
  clear hb
  go_wp2_with fail
  have CT := Lib.hid (dalive w10)
  with_reducible refine CT.out.mono ?_
  rintro e w11 ⟨rfl, hb⟩
  clear CT
  have KG := Lib.hid (KG.out.trans (hb.mono KG.out.size))
  clear hb
  go_wp2_with fail
  go_ret
  exact ⟨rfl, KG.out⟩
 ·have I1 := Lib.hid hk
  have KX1 := Lib.hid hk.k
  have Z1 : ((x1.n : Nat) : Int) = 0 := by rw [hk.k.len, hz]; rfl
  clear hk hz
  go_wp2_with fail
  have CT := Lib.hid (I1.out.fine (by decide) _ KG.out)
  with_reducible refine CT.out.mono ?_
  rintro e w12 ⟨rfl, hb⟩
  clear CT
  have KG := Lib.hid (KG.out.trans (hb.mono KG.out.size))
  clear hb
  go_wp2_with fail
  have CT := Lib.hid (dalive w12)
  with_reducible refine CT.out.mono ?_
  rintro e w13 ⟨rfl, hb⟩
  clear CT
  have KG := Lib.hid (KG.out.trans (hb.mono KG.out.size))
  clear hb
  go_wp2_with fail
  go_ret
  exact ⟨rfl, KG.out⟩
 ·have I1 := Lib.hid hk
  have KX1 := Lib.hid hk.k
  have Y1 : ¬ (x1.n = 0) := by rw [hk.k.len]; have := List.length_pos_iff.2 hz; omega
  have Z1 : ((((x1.n : Nat) : Int)) == 0) = false := beq_eq_false_iff_ne.2 (by omega)
  have h2b : 2 < o := h2
  clear hk hz h2
  go_wp2_with fail
  have CT := Lib.hid (I1.out.fine (by decide) _ KG.out)
  with_reducible refine CT.out.mono ?_
  rintro e w14 ⟨rfl, hb⟩
  clear CT
  have KG := Lib.hid (KG.out.trans (hb.mono KG.out.size))
  clear hb
  go_wp2_with fail
  have CT := Lib.hid (dalive w14)
  with_reducible refine CT.out.mono ?_
  rintro e w15 ⟨rfl, hb⟩
  clear CT
  have KG := Lib.hid (KG.out.trans (hb.mono KG.out.size))
  clear hb
  go_wp2_with fail
  go_ret
  exact ⟨rfl, KG.out⟩
 have I1 := Lib.hid hk
 have KX1 := Lib.hid hk.k
 have Y1 : ¬ (x1.n = 0) := by rw [hk.k.len]; have := List.length_pos_iff.2 hz; omega
 have Z1 : ((((x1.n : Nat) : Int)) == 0) = false := beq_eq_false_iff_ne.2 (by omega)
 have h2b : ¬ (2 < o) := Int.not_lt.2 h2
 have HO2 := Lib.hid h2
 obtain ⟨d, d0, r0, hd, hw⟩ := whole_in (o := o) HG.out I0.out hk hz
 have HQ := Lib.hid hd
 have HW := Lib.hid hw
 have PCP0 := Lib.hid hw.p
 have PCP1 := Lib.hid hw.q
 clear hk hz h2 hd hw
 go_wp2_with fail
 have CT := Lib.hid (I1.out.fine (by decide) _ KG.out)
 with_reducible refine CT.out.mono ?_
 rintro e w16 ⟨rfl, hb⟩
 clear CT
 have KG := Lib.hid (KG.out.trans (hb.mono KG.out.size))
 clear hb
 go_wp2_with fail
 obtain ⟨p17, hp17⟩ : ∃ z : List Tm, z = mulP P0 P1 := ⟨_, rfl⟩
 have Hp17 := Lib.hid hp17
 have PCp17 := Lib.hid (show PC p17 36 54 8 by rw [hp17]; exact PCP0.out.mul PCP1.out)
 clear hp17
 have CT := Lib.hid (pdmul (KX0.out.below KG.out) PCP0.out (KX1.out.below KG.out) PCP1.out (by decide) (by decide) (by decide) (by decide) (by decide) (by decide) (by decide))
 rw [show mulP P0 P1 = p17 from Hp17.out.symm] at CT
 with_reducible refine CT.out.mono ?_
 rintro e w18 ⟨z19, rfl, hN20, hb⟩
 have N20 := Lib.hid hN20
 clear hN20
 clear CT
 have KG := Lib.hid (KG.out.trans (hb.mono KG.out.size))
 clear hb
 go_wp2_with fail
 have CT := Lib.hid (show Calls Tryz.prog 18 #[.slice z19.a z19.n z19.c, .slice x1.a x1.n x1.c] w18 _ from whole_ex HW.out (by have h := N20.out.k; simp only [Hp17.out] at h; exact h) (KX1.out.below KG.out))
 with_reducible refine CT.out.mono ?_
 rintro e w21 ⟨z22, rfl, hN23, hb⟩
 have N23 := Lib.hid hN23
 clear hN23
 clear CT
 have N20 := Lib.hid (N20.out.below hb)
 have KG := Lib.hid (KG.out.trans (hb.mono KG.out.size))
 clear hb
 go_wp2_with fail
 obtain ⟨v25, hV⟩ : ∃ V, V = w21.alloc (.cells #[.slice x1.a x1.n x1.c] 24) := ⟨_, rfl⟩
 have hbV : Below w21.heap.size w21 v25 := by rw [hV]; exact ((Below.refl _ _).alloc (Nat.le_refl _) _)
 have BX24 := Lib.hid (show Bxs v25 (w21.heap.size) 24 [.slice x1.a x1.n x1.c] by have h := Bxs.new (w21) 24 [.slice x1.a x1.n x1.c]; rw [hV]; exact h)
 rw [show w21.alloc (.cells #[.slice x1.a x1.n x1.c] 24) = v25 from hV.symm]
 have N20 := Lib.hid (N20.out.below hbV)
 have N23 := Lib.hid (N23.out.below hbV)
 have KG := Lib.hid (KG.out.trans (hbV.mono KG.out.size))
 clear hV hbV
 have CT := Lib.hid (show Calls Tryz.prog 10 #[.int .u8 o, .slice z19.a z19.n z19.c, .slice (some ⟨w21.heap.size, 0, none⟩) 1 1] v25 _ from whole_div HW.out HO2.out (by have h := N20.out.k; simp only [Hp17.out] at h; exact h) (RS.bxs (ps := [x1]) BX24.out) (KX1.out.below KG.out))
 with_reducible refine CT.out.mono ?_
 rintro e w26 ⟨g27, c28, z29, z30, rfl, hN31, hN32, hN33, hb⟩
 have N31 := Lib.hid hN31
 clear hN31
 have N32 := Lib.hid hN32
 clear hN32
 have N33 := Lib.hid hN33
 clear hN33
 clear CT
 have N20 := Lib.hid (N20.out.below hb)
 have N23 := Lib.hid (N23.out.below hb)
 clear BX24
 have KG := Lib.hid (KG.out.trans (hb.mono KG.out.size))
 clear hb
 have hn0 : ((z30.n : Nat) : Int) = 0 := by rw [N33.out.k.len]; rfl
 go_wp2_with fail
 have CT := Lib.hid (psame5 N23.out.k (KX0.out.below KG.out) (rfl) PCP0.out (by decide) (by decide))
 with_reducible refine CT.out.mono ?_
 rintro e w34 ⟨rfl, hb⟩
 clear CT
 have N20 := Lib.hid (N20.out.below hb)
 clear N23
 have N31 := Lib.hid (N31.out.below hb)
 have N32 := Lib.hid (N32.out.below hb)
 clear N33
 have KG := Lib.hid (KG.out.trans (hb.mono KG.out.size))
 clear hb
 have hq0 := N31.out.c 0 _ rfl
 go_wp2_with fail
 have CT := Lib.hid (psame5 N32.out.k (KX0.out.below KG.out) (rfl) PCP0.out (by decide) (by decide))
 with_reducible refine CT.out.mono ?_
 rintro e w35 ⟨rfl, hb⟩
 clear CT
 have N20 := Lib.hid (N20.out.below hb)
 clear N31
 clear N32
 have KG := Lib.hid (KG.out.trans (hb.mono KG.out.size))
 clear hb
 go_wp2_with fail
 obtain ⟨q36, hq36⟩ : ∃ z : Rat, z = ((1 : Int) : Rat) := ⟨_, rfl⟩
 have Hq36 := Lib.hid hq36
 have LQq36 := Lib.hid (show LQ q36 3 by rw [hq36]; exact LQ.int (by decide) (by decide))
 clear hq36
 have CT := Lib.hid (qof 1 w35 (by decide) (by decide))
 rw [show ((1 : Int) : Rat) = q36 from Hq36.out.symm] at CT
 with_reducible refine CT.out.mono ?_
 rintro e w37 ⟨x38, rfl, hN39, hb⟩
 have N39 := Lib.hid hN39
 clear hN39
 clear CT
 have N20 := Lib.hid (N20.out.below hb)
 have KG := Lib.hid (KG.out.trans (hb.mono KG.out.size))
 clear hb
 go_wp2_with fail
 obtain ⟨p40, hp40⟩ : ∃ z : List Tm, z = nf [(Mo.one, q36)] := ⟨_, rfl⟩
 have Hp40 := Lib.hid hp40
 have PCp40 := Lib.hid (show PC p40 1 4 0 by rw [hp40]; exact PC.of LQq36.out)
 clear hp40
 have CT := Lib.hid (pof (N39.out).k.any (((N39.out).k).len LQq36.out (by decide : _ ≤ 900000)) LQq36.out (by decide))
 rw [show nf [(Mo.one, q36)] = p40 from Hp40.out.symm] at CT
 with_reducible refine CT.out.mono ?_
 rintro e w41 ⟨z42, rfl, hN43, hb⟩
 have N43 := Lib.hid hN43
 clear hN43
 clear CT
 have N20 := Lib.hid (N20.out.below hb)
 clear N39
 have KG := Lib.hid (KG.out.trans (hb.mono KG.out.size))
 clear hb
 go_wp2_with fail
 obtain ⟨p44, hp44⟩ : ∃ z : List Tm, z = addP p17 p40 := ⟨_, rfl⟩
 have Hp44 := Lib.hid hp44
 have PCp44 := Lib.hid (show PC p44 37 109 8 by rw [hp44]; exact PCp17.out.add PCp40.out 54 8 (by decide) (by decide) (by decide) (by decide))
 clear hp44
 have CT := Lib.hid (padd N20.out.k PCp17.out N43.out.k PCp40.out 54 (by decide) (by decide) (by decide) (by decide))
 rw [show addP p17 p40 = p44 from Hp44.out.symm] at CT
 with_reducible refine CT.out.mono ?_
 rintro e w45 ⟨z46, rfl, hN47, hb⟩
 have N47 := Lib.hid hN47
 clear hN47
 clear CT
 clear N20
 clear N43
 have KG := Lib.hid (KG.out.trans (hb.mono KG.out.size))
 clear hb
 by_cases hc1 : d0.1 = Mo.one
 ·have HC1 := Lib.hid hc1
  have hqe := eq_one_run (m := d0.1) (b := true) (by rw [hc1]; rfl)
  clear hc1
  go_wp2_with fail
  have CT := Lib.hid (show Calls Tryz.prog 18 #[.slice z46.a z46.n z46.c, .slice x1.a x1.n x1.c] w45 _ from whole_more_yes HW.out HQ.out HC1.out (by have h := N47.out.k; simp only [Hp44.out, Hp40.out, Hq36.out, Hp17.out] at h; exact h) (KX1.out.below KG.out))
  with_reducible refine CT.out.mono ?_
  rintro e w48 ⟨z49, QQ, rfl, hN50, hb⟩
  have N50 := Lib.hid hN50
  clear hN50
  clear CT
  clear N47
  have KG := Lib.hid (KG.out.trans (hb.mono KG.out.size))
  clear hb
  clear N50
  obtain ⟨qb, qo, hqa, q4, q5, q6, q7⟩ := ((KX1.out.below KG.out)).first HQ.out
  have hq1 : (0 : Int) < (x1.n : Int) := by omega
  go_wp2_with fail
  go_ret
  exact ⟨rfl, KG.out⟩
 have HC1 := Lib.hid hc1
 have hqe := eq_one_run (m := d0.1) (b := false) (decide_eq_false hc1).symm
 clear hc1
 go_wp2_with fail
 have CT := Lib.hid (show Calls Tryz.prog 18 #[.slice z46.a z46.n z46.c, .slice x1.a x1.n x1.c] w45 _ from whole_more_no HW.out HC1.out (by have h := N47.out.k; simp only [Hp44.out, Hp40.out, Hq36.out, Hp17.out] at h; exact h) (KX1.out.below KG.out))
 with_reducible refine CT.out.mono ?_
 rintro e w51 ⟨rfl, hb⟩
 clear CT
 clear N47
 have KG := Lib.hid (KG.out.trans (hb.mono KG.out.size))
 clear hb
 obtain ⟨qb, qo, hqa, q4, q5, q6, q7⟩ := ((KX1.out.below KG.out)).first HQ.out
 have hq1 : (0 : Int) < (x1.n : Int) := by omega
 go_wp2_with fail
 go_ret
 exact ⟨rfl, KG.out⟩
end Go.Proofs.YthcccdjfedbnfaaGreat.Pol
namespace Go.Proofs.YthcccdjfedbnfaaGreat.Pol
open Go.RowKit Go.Sort Go.Proofs.YthcccdjfedbnfaaGreat.Limb Go.ChangeShapes Go.WideShapes Go.ChangeAt
namespace DividesWholeS
theorem own : ownKnob Tryz.prog.godebug = none := by kernel_rfl
theorem laidOut : laidOutB Tryz.prog = true := by kernel_rfl
theorem order_pos {o : Int} (h : (Lit.int .u8 o).wf = true) : 0 ≤ o := by
 have h1 : (decide (IntKind.min .u8 ≤ o) && decide (o ≤ IntKind.max .u8)) = true := h
 rw [Bool.and_eq_true] at h1
 have h2 := of_decide_eq_true h1.1
 have h3 : IntKind.min .u8 = 0 := by decide
 omega
noncomputable def laidWorld (os : Os) : World := World.laidAll Tryz.prog os Rows.dividesWholeRow.laid
noncomputable def witArgs : Array Value := #[.slice none 0 0, .slice none 0 0, .int .u8 0]
theorem laid_met (os : Os) : laidMet Tryz.prog Rows.dividesWholeRow.laid ((laidWorld os).forCall (fun _ _ => 0) ⟨#[], witArgs, []⟩).memory :=
 laidMet_laidAll _ (by kernel_rfl) (by kernel_rfl)
theorem reads (os : Os) {H : Type} (enc : TypeId × Value → H) : ∃ places, DataW.whole enc Tryz.prog ((laidWorld os).forCall (fun _ _ => 0) ⟨#[], witArgs, []⟩).memory Tryz.f4.params.toList Rows.dividesWholeSpec.vars false witArgs.toList 8 = some ([.nil, .nil, .lit (.int .u8 0)], [], places) :=
 ⟨[], by kernel_rfl⟩
set_option maxRecDepth 100000 in
theorem lifted (os : Os) (started : os.Started) (H : Type) (enc : TypeId × Value → H) (F : Stop.Interp) :
  ReturnsInHanded {} Tryz.checked os 4 .any ((OpenSpec.ofChange Rows.dividesWholeSpec).preRow enc Tryz.prog Tryz.f4 Rows.dividesWholeRow.domain false Rows.dividesWholeRow.laid) (((OpenSpec.ofChange Rows.dividesWholeSpec).at F).post enc Tryz.prog Tryz.f4 false true false false) := by
 obtain ⟨places, hx⟩ := reads os enc
 refine returnsInHanded_of_row (C := Tryz.checked) (s := OpenSpec.ofChange Rows.dividesWholeSpec) own started (by kernel_rfl) Tryz.func4
  (witness_row_atRef (enc := enc) (C := Tryz.checked) false (laidWorld os) witArgs (World.laidAll_os _ _ _) (by kernel_rfl) (by kernel_rfl) (by kernel_rfl)
   (OpenSpec.preRow_of_cond 8 hx (by kernel_rfl) (fun k hk => by cases hk) (by kernel_rfl) (laid_met os))) ?_
 intro W base args ds gs before hval0 hW _ _ hwt _ _ _
 have hval : ∀ (j : Nat) t v, Tryz.f4.params[j]? = some t → args[j]? = some v → Value.okWide Tryz.prog W .any base t v := hval0
 have hW' := hW
 obtain ⟨p, q, hA0, hV, rfl, hfz, hnd⟩ := hW
 have hA : DataW.TrodAll enc Tryz.prog W 0 (fun _ => true) true Tryz.f4.params.toList args.toList ds p := hA0
 rw [Tryz.params4] at hA hval
 obtain ⟨v0, v1, v2, d0, d1, d2, p0, p1, p2, rfl, rfl, rfl, h0, h1, h2⟩ := trodAll_three hA
 obtain ⟨rfl, rfl⟩ := trodVars_none hV
 obtain ⟨x0, L0, rfl, r0⟩ := open_polyV (hval 0 24 v0 rfl rfl) h0
 obtain ⟨x1, L1, rfl, r1⟩ := open_polyV (hval 1 24 v1 rfl rfl) h1
 obtain ⟨o, rfl, -, -, wo⟩ := open_int Tryz.underlying22 (hval 2 22 v2 rfl rfl) h2
 have ho : 0 ≤ o := order_pos wo
 refine (dividesWhole_law x0 L0 x1 L1 o W r0 r1 ho).mono fun e W' ⟨he, hg⟩ => ?_
 subst he
 exact ⟨_, rfl, LawPost.law_post laidOut (by kernel_rfl) (by kernel_rfl) Tryz.underlying4 hW' rfl rfl hg⟩
theorem said : Rows.DividesWholeSaid :=
 OpenClaim.holds_of_cond 4 Tryz.f4 rfl rfl rfl rfl rfl rfl rfl ⟨rfl, rfl, rfl, rfl, rfl⟩ rfl rfl rfl rfl rfl (by kernel_rfl) Tryz.func4 (by kernel_rfl)
  (of_decide_eq_true (by kernel_rfl)) (by unfold Func.isWrapper; first | (rw [if_pos (by decide +kernel)]; kernel_rfl) | (rw [if_neg (by decide +kernel)]; exact ⟨rfl, rfl⟩))
  (fun os started H enc _ F => by rw [OpenClaim.pre_eq_preRow]; exact lifted os started H enc F)
#print axioms said
end DividesWholeS
end Go.Proofs.YthcccdjfedbnfaaGreat.Pol
