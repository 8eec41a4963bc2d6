/-
  The law PolysPlaces: whatever it is handed, it returns true, and what it was handed reads behind the call as it read before; the card ties the listed tables to the program's text.
-/
import Derived.Test.YthcccdjfedbnfaaGreatDoorPpM
import Derived.Test.YthcccdjfedbnfaaGreatDoorCards
import Derived.Test.YthcccdjfedbnfaaGreatDoorTie
import Derived.Lay
import Derived.MakeChecks
import Derived.Stop.LaidErr
import Derived.Deep.DeepWitnessRowRef
import Derived.WalkKit
import Derived.ProofKit
import Derived.OpenShut
import Derived.Deep.DeepHandedRow
import Derived.Lib.LaidTab
set_option linter.unusedSimpArgs false
set_option linter.unusedVariables false
namespace Go.Proofs.YthcccdjfedbnfaaGreatDoor.Pol
open Go.RowKit Go.Sort Go.Proofs.YthcccdjfedbnfaaGreatDoor.Limb
structure Bw (W w : World) : Prop where
 b : Below W.heap.size W w
theorem Bw.below {W w w' : World} (h : Bw W w) (hb : Below w.heap.size w w') : Bw W w' := ⟨h.b.trans (hb.mono h.b.size)⟩
theorem run_load {o : Oper} {a : Act} {w : World} {T : TypeId} {x : Operand} {p v : Value} (hop : o.op = .load T x) (hx : a.eval x = p) (h : (Instr.loadAt T p).run Tryz.prog w = .ok v w) : (execOp a.eval o).run Tryz.prog w = .ok (.value v) w := by
 unfold execOp
 rw [hop]
 simp only [hx]
 show Sem.run _ (Instr.loadAt T p >>= fun x => pure (Next.value x)) _ = _
 rw [Sem.run_bind, h]
 rfl
theorem reads_load {o : Oper} {a : Act} {w : World} {T : TypeId} {x : Operand} {p v : Value} (hop : o.op = .load T x) (hx : a.eval x = p) (h : (Instr.loadAt T p).run Tryz.prog w = .ok v w) : Go.FS.readsUpon w v ((execOp a.eval o).run Tryz.prog w) := by
 rw [run_load hop hx h]
 exact ⟨rfl, rfl⟩
theorem wpList_load {ops : Array Oper} {Q : Exit → Act → World → Prop} {rest : List Oper} {o : Oper} {a : Act} {w : World} {T : TypeId} {x : Operand} {p v : Value} (hg : o.guard = none) (hop : o.op = .load T x) (hx : a.eval x = p) (h : (Instr.loadAt T p).run Tryz.prog w = .ok v w) (hK : wpList Tryz.prog ops Q rest (a.put o.dst v) w) : wpList Tryz.prog ops Q (o :: rest) a w :=
 wpList_plain hg fun K hn => by
  unfold Oper.wp
  rw [run_load hop hx h]
  exact hn _ _ hK
set_option maxRecDepth 20000 in
theorem load16 {w : World} {b : Nat} {v0 v1 v2 v3 v4 v5 v6 v7 v8 v9 v10 v11 v12 v13 v14 v15 : Value} (h : Bxs w b 56 [v0, v1, v2, v3, v4, v5, v6, v7, v8, v9, v10, v11, v12, v13, v14, v15]) :
  (Instr.loadAt 56 (.pointer (some ⟨b, 0, none⟩))).run Tryz.prog w = .ok (.agg #[v0, v1, v2, v3, v4, v5, v6, v7, v8, v9, v10, v11, v12, v13, v14, v15]) w := by
 have h0 := h.cell (i := 0) rfl
 have h1 := h.cell (i := 1) rfl
 have h2 := h.cell (i := 2) rfl
 have h3 := h.cell (i := 3) rfl
 have h4 := h.cell (i := 4) rfl
 have h5 := h.cell (i := 5) rfl
 have h6 := h.cell (i := 6) rfl
 have h7 := h.cell (i := 7) rfl
 have h8 := h.cell (i := 8) rfl
 have h9 := h.cell (i := 9) rfl
 have h10 := h.cell (i := 10) rfl
 have h11 := h.cell (i := 11) rfl
 have h12 := h.cell (i := 12) rfl
 have h13 := h.cell (i := 13) rfl
 have h14 := h.cell (i := 14) rfl
 have h15 := h.cell (i := 15) rfl
 have hf := h.fz
 have hl := h.lt
 clear h
 go_simp
def LowL (L : List TO) (E : Nat) : Prop := ∀ e ∈ L, e.1.m.le E
theorem fz_le {x : FV} {z : Int} (h : FZ x z) (hz : z ≤ 30) : LF x 30 := by
 obtain ⟨g1, g2⟩ := h.is (by omega)
 have := h.lo
 exact ⟨by omega, by omega⟩
theorem sa_k {w : World} {x : PV} {P : List Tm} {n k e : Nat} (h : SA w x P true n k e) : KP w x P := h.h.elim (fun h => h.2) (fun h => by cases h.1)
theorem la_k {w : World} {x0 x1 x2 x3 : FV} {l : Nat → Rat} {kl : Nat} (h : LA w x0 x1 x2 x3 l true kl) : K4 w x0 x1 x2 x3 l ∧ ∀ i, LQ (l i) kl := h.elim (fun h => h.2) (fun h => by cases h.1)
theorem bxs_rows {w w' : World} {b : Nat} {T : TypeId} {l : List Value} {row : TypeId → Bool} (h : Bxs w b T l) (hs : ∀ (b : Nat) (c : Array Value) (T : TypeId), w.heap[b]? = some (.cells c T (0, 0)) → row T = true → w'.heap[b]? = w.heap[b]?) (ht : row T = true) : Bxs w' b T l := (hs b _ T h ht).trans h
theorem FVI.inj : ∀ x y : FV × Int, Value.tuple #[x.1.v, .int .i64 x.2] = Value.tuple #[y.1.v, .int .i64 y.2] → x = y := fun x y h => by
 have h := Value.tuple.inj h
 have h1 := congrArg (fun a : Array Value => a[0]?) h
 have h2 := congrArg (fun a : Array Value => a[1]?) h
 have e1 : x.1 = y.1 := FV.inj (Option.some.inj h1)
 have e2 : Value.int .i64 x.2 = Value.int .i64 y.2 := Option.some.inj h2
 injection e2 with _ e3
 exact Prod.ext e1 e3
def sel4 (y0 y1 y2 y3 : FV) (j : Nat) : FV := if j = 0 then y0 else if j = 1 then y1 else if j = 2 then y2 else y3
theorem sel4_k {w : World} {y0 y1 y2 y3 : FV} {l : Nat → Rat} (h : K4 w y0 y1 y2 y3 l) {j : Nat} (hj : j < 4) : KF w (sel4 y0 y1 y2 y3 j) (l j) := by
 match j, hj with
 | 0, _ => exact h.k0
 | 1, _ => exact h.k1
 | 2, _ => exact h.k2
 | 3, _ => exact h.k3
theorem sel4_c (pl0 pl1 pl2 pl3 : FV) {j : Nat} (hj : j < 4) {k : Nat} {v : Value} (hk : [.bool (sel4 pl0 pl1 pl2 pl3 j).t.s, .slice (sel4 pl0 pl1 pl2 pl3 j).t.a (sel4 pl0 pl1 pl2 pl3 j).t.n (sel4 pl0 pl1 pl2 pl3 j).t.c, .bool (sel4 pl0 pl1 pl2 pl3 j).l.s, .slice (sel4 pl0 pl1 pl2 pl3 j).l.a (sel4 pl0 pl1 pl2 pl3 j).l.n (sel4 pl0 pl1 pl2 pl3 j).l.c][k]? = some v) :
  ([.bool pl0.t.s, .slice pl0.t.a pl0.t.n pl0.t.c, .bool pl0.l.s, .slice pl0.l.a pl0.l.n pl0.l.c, .bool pl1.t.s, .slice pl1.t.a pl1.t.n pl1.t.c, .bool pl1.l.s, .slice pl1.l.a pl1.l.n pl1.l.c, .bool pl2.t.s, .slice pl2.t.a pl2.t.n pl2.t.c, .bool pl2.l.s, .slice pl2.l.a pl2.l.n pl2.l.c, .bool pl3.t.s, .slice pl3.t.a pl3.t.n pl3.t.c, .bool pl3.l.s, .slice pl3.l.a pl3.l.n pl3.l.c] : List Value)[j * 4 + k]? = some v := by
 match j, hj, k, hk with
 | 0, _, 0, hk => exact hk
 | 0, _, 1, hk => exact hk
 | 0, _, 2, hk => exact hk
 | 0, _, 3, hk => exact hk
 | 1, _, 0, hk => exact hk
 | 1, _, 1, hk => exact hk
 | 1, _, 2, hk => exact hk
 | 1, _, 3, hk => exact hk
 | 2, _, 0, hk => exact hk
 | 2, _, 1, hk => exact hk
 | 2, _, 2, hk => exact hk
 | 2, _, 3, hk => exact hk
 | 3, _, 0, hk => exact hk
 | 3, _, 1, hk => exact hk
 | 3, _, 2, hk => exact hk
 | 3, _, 3, hk => exact hk
set_option maxRecDepth 100000 in
set_option maxHeartbeats 16000000 in
theorem polysPlaces_law (x1 : PV) (L1 : List TO) (x2 : PV) (L2 : List TO) (pl0 pl1 pl2 pl3 : FV) (w : World) (htab : Tab w) (h1 : RawQ w x1 L1) (h2 : RawQ w x2 L2) (hq : AQ w pl0 ∧ AQ w pl1 ∧ AQ w pl2 ∧ AQ w pl3) :
  Calls Tryz.prog 7 #[.slice x1.a x1.n x1.c, .slice x2.a x2.n x2.c, .agg #[.bool pl0.t.s, .slice pl0.t.a pl0.t.n pl0.t.c, .bool pl0.l.s, .slice pl0.l.a pl0.l.n pl0.l.c, .bool pl1.t.s, .slice pl1.t.a pl1.t.n pl1.t.c, .bool pl1.l.s, .slice pl1.l.a pl1.l.n pl1.l.c, .bool pl2.t.s, .slice pl2.t.a pl2.t.n pl2.t.c, .bool pl2.l.s, .slice pl2.l.a pl2.l.n pl2.l.c, .bool pl3.t.s, .slice pl3.t.a pl3.t.n pl3.t.c, .bool pl3.l.s, .slice pl3.l.a pl3.l.n pl3.l.c]] w fun e w' => e = .returned (.bool true) ∧ Below w.heap.size w w' := by
 have HT := Lib.hid htab
 have KG := Lib.hid (Below.refl w.heap.size w)
 have N1 := Lib.hid h1
 have N2 := Lib.hid h2
 obtain ⟨ha0, ha1, ha2, ha3⟩ := hq
 have HA0 := Lib.hid ha0
 have HA1 := Lib.hid ha1
 have HA2 := Lib.hid ha2
 have HA3 := Lib.hid ha3
 clear ha0 ha1 ha2 ha3
 clear htab h1 h2
 go_enter Tryz.func7, Tryz.ntmps7
 go_upto_region 1 with (fail)
 obtain ⟨v2, hV⟩ : ∃ V, V = w.alloc (.cells #[.bool pl0.t.s, .slice pl0.t.a pl0.t.n pl0.t.c, .bool pl0.l.s, .slice pl0.l.a pl0.l.n pl0.l.c, .bool pl1.t.s, .slice pl1.t.a pl1.t.n pl1.t.c, .bool pl1.l.s, .slice pl1.l.a pl1.l.n pl1.l.c, .bool pl2.t.s, .slice pl2.t.a pl2.t.n pl2.t.c, .bool pl2.l.s, .slice pl2.l.a pl2.l.n pl2.l.c, .bool pl3.t.s, .slice pl3.t.a pl3.t.n pl3.t.c, .bool pl3.l.s, .slice pl3.l.a pl3.l.n pl3.l.c] 56) := ⟨_, rfl⟩
 have hbV : Below w.heap.size w v2 := by rw [hV]; exact ((Below.refl _ _).alloc (Nat.le_refl _) _)
 have BX1 := Lib.hid (show Bxs v2 (w.heap.size) 56 [.bool pl0.t.s, .slice pl0.t.a pl0.t.n pl0.t.c, .bool pl0.l.s, .slice pl0.l.a pl0.l.n pl0.l.c, .bool pl1.t.s, .slice pl1.t.a pl1.t.n pl1.t.c, .bool pl1.l.s, .slice pl1.l.a pl1.l.n pl1.l.c, .bool pl2.t.s, .slice pl2.t.a pl2.t.n pl2.t.c, .bool pl2.l.s, .slice pl2.l.a pl2.l.n pl2.l.c, .bool pl3.t.s, .slice pl3.t.a pl3.t.n pl3.t.c, .bool pl3.l.s, .slice pl3.l.a pl3.l.n pl3.l.c] by have h := Bxs.new (w) 56 [.bool pl0.t.s, .slice pl0.t.a pl0.t.n pl0.t.c, .bool pl0.l.s, .slice pl0.l.a pl0.l.n pl0.l.c, .bool pl1.t.s, .slice pl1.t.a pl1.t.n pl1.t.c, .bool pl1.l.s, .slice pl1.l.a pl1.l.n pl1.l.c, .bool pl2.t.s, .slice pl2.t.a pl2.t.n pl2.t.c, .bool pl2.l.s, .slice pl2.l.a pl2.l.n pl2.l.c, .bool pl3.t.s, .slice pl3.t.a pl3.t.n pl3.t.c, .bool pl3.l.s, .slice pl3.l.a pl3.l.n pl3.l.c]; rw [hV]; exact h)
 rw [show w.alloc (.cells #[.bool pl0.t.s, .slice pl0.t.a pl0.t.n pl0.t.c, .bool pl0.l.s, .slice pl0.l.a pl0.l.n pl0.l.c, .bool pl1.t.s, .slice pl1.t.a pl1.t.n pl1.t.c, .bool pl1.l.s, .slice pl1.l.a pl1.l.n pl1.l.c, .bool pl2.t.s, .slice pl2.t.a pl2.t.n pl2.t.c, .bool pl2.l.s, .slice pl2.l.a pl2.l.n pl2.l.c, .bool pl3.t.s, .slice pl3.t.a pl3.t.n pl3.t.c, .bool pl3.l.s, .slice pl3.l.a pl3.l.n pl3.l.c] 56) = v2 from hV.symm]
 have KG := Lib.hid (KG.out.trans (hbV.mono KG.out.size))
 clear hV hbV
 go_upto_region 1 with (fail)
 refine Go.FS.wp_region_fresh 33 [] (Go.FS.spOf [(0, Go.FS.Sp.know (.bool true)), (5, Go.FS.Sp.made (fun b : Nat => Value.slice (some ⟨b, 0, none⟩) 2 2) (fun b w' => Bxs w' b 23 [.slice x1.a x1.n x1.c, .slice x2.a x2.n x2.c]) (fun _ _ => False)), (6, Go.FS.Sp.made (fun b : Bool => .bool b) (fun b _ => b = false → (NotGreat 8 (L1.map Prod.fst) ∧ NotGreat 8 (L2.map Prod.fst))) (fun _ _ => False)), (10, Go.FS.Sp.made (fun b : Bool => .bool b) (fun b _ => b = false → (LowL L1 12)) (fun _ _ => False)), (14, Go.FS.Sp.made (fun b : Bool => .bool b) (fun b _ => b = false → (LowL L2 12)) (fun _ _ => False)), (19, Go.FS.Sp.made (fun z : Int => .int .i64 z) (fun z _ => FZ pl0 z) (fun _ _ => False)), (22, Go.FS.Sp.made (fun z : Int => .int .i64 z) (fun z _ => FZ pl1 z) (fun _ _ => False)), (26, Go.FS.Sp.made (fun z : Int => .int .i64 z) (fun z _ => FZ pl2 z) (fun _ _ => False)), (30, Go.FS.Sp.made (fun z : Int => .int .i64 z) (fun z _ => FZ pl3 z) (fun _ _ => False))])
  (fun w' => Below v2.heap.size v2 w') (by kernel_rfl) (by kernel_rfl) (by kernel_rfl)
  (Go.FS.spOf_cons (Go.FS.Sp.know_keeps _ _) (Go.FS.spOf_cons (Go.FS.Sp.made_keepsR _ (fun T => T == 23) (fun _ _ _ h hs => bxs_rows h hs rfl) (by kernel_rfl) (Go.FS.notTaken (by kernel_rfl))) (Go.FS.spOf_cons (Go.FS.Sp.made_keepsR _ (fun _ => false) (fun _ _ _ h _ => h) (by kernel_rfl) (Go.FS.notTaken (by kernel_rfl))) (Go.FS.spOf_cons (Go.FS.Sp.made_keepsR _ (fun _ => false) (fun _ _ _ h _ => h) (by kernel_rfl) (Go.FS.notTaken (by kernel_rfl))) (Go.FS.spOf_cons (Go.FS.Sp.made_keepsR _ (fun _ => false) (fun _ _ _ h _ => h) (by kernel_rfl) (Go.FS.notTaken (by kernel_rfl))) (Go.FS.spOf_cons (Go.FS.Sp.made_keepsR _ (fun _ => false) (fun _ _ _ h _ => h) (by kernel_rfl) (Go.FS.notTaken (by kernel_rfl))) (Go.FS.spOf_cons (Go.FS.Sp.made_keepsR _ (fun _ => false) (fun _ _ _ h _ => h) (by kernel_rfl) (Go.FS.notTaken (by kernel_rfl))) (Go.FS.spOf_cons (Go.FS.Sp.made_keepsR _ (fun _ => false) (fun _ _ _ h _ => h) (by kernel_rfl) (Go.FS.notTaken (by kernel_rfl))) (Go.FS.spOf_cons (Go.FS.Sp.made_keepsR _ (fun _ => false) (fun _ _ _ h _ => h) (by kernel_rfl) (Go.FS.notTaken (by kernel_rfl))) (Go.FS.spOf_nil)))))))))) (fun _ _ h hb => h.trans (hb.mono h.size)) ((Below.refl _ _).drew) ?_
 simp only [List.append_eq, List.cons_append, List.nil_append, List.take_succ_cons, List.take_zero, List.drop_succ_cons, List.drop_zero]
 refine Go.FS.wpF_spec rfl rfl rfl (fun w' hw' => ?_) ?_
 ·have hb' := hw'.world
  refine Go.FS.gives_of (Go.FS.PK (.bool true)) ?_ (fun _ _ h => h.post)
  go_simp
  have CT := palive w' (HT.out.on (KG.out.trans (hb'.mono KG.out.size)))
  refine CT.mono ?_
  rintro e w'' ⟨rfl, hb⟩
  exact ⟨_, rfl, rfl, hb⟩
 rintro _ rfl
 conv => arg 10; simp only [Act.put, Go.q0, Go.q1, Go.q2]
 iterate 2
  refine Go.FS.wpF_reads rfl rfl rfl ?_ (fun w' hw' => ?_) ?_
  rotate_left
  ·have hb' := hw'.world
   skip
   clear hw'
   go_simp
   try rfl
  conv => arg 10; simp only [Act.put, Go.q0, Go.q1, Go.q2]
 iterate 2
  refine Go.FS.wpF_readsG (by rfl) rfl rfl ?_ (fun w' hw' => ?_) ?_
  rotate_left
  ·have hb' := hw'.world
   skip
   clear hw'
   go_simp
   try rfl
  conv => arg 10; simp only [Act.put, Go.q0, Go.q1, Go.q2]
 refine Go.FS.wpF_gspec (by rfl) rfl rfl (fun w' hw' => ?_) ?_
 ·have hb' := hw'.world
  refine Go.FS.gives_of (Go.FS.PM (fun b : Nat => Value.slice (some ⟨b, 0, none⟩) 2 2) (fun b w' => Bxs w' b 23 [.slice x1.a x1.n x1.c, .slice x2.a x2.n x2.c]) (fun _ _ => False) w'.heap.size) ?_ (fun _ _ h => h.post (fun _ _ h => by cases h; rfl))
  go_simp
  exact ⟨⟨w'.heap.size, rfl, Bxs.new w' _ _, fun _ h => False.elim h⟩, (Below.refl _ _).alloc (Nat.le_refl _) _⟩
 rintro _ ⟨y5, rfl⟩
 conv => arg 10; simp only [Act.put, Go.q0, Go.q1, Go.q2]
 refine Go.FS.wpF_gspec (by rfl) rfl rfl (fun w' hw' => ?_) ?_
 ·have hb' := hw'.world
  refine Go.FS.gives_of (Go.FS.PM (fun b : Bool => .bool b) (fun b _ => b = false → (NotGreat 8 (L1.map Prod.fst) ∧ NotGreat 8 (L2.map Prod.fst))) (fun _ _ => False) w'.heap.size) ?_ (fun _ _ h => h.post (fun _ _ h => by cases h; rfl))
  go_simp
  have f5 := Go.FS.made_of (val := (fun b : Nat => Value.slice (some ⟨b, 0, none⟩) 2 2)) (Φ := fun b w' => Bxs w' b 23 [.slice x1.a x1.n x1.c, .slice x2.a x2.n x2.c]) (fun _ _ h => by cases h; rfl) (hw'.fact 5 (by kernel_rfl))
  have CT := show Calls Tryz.prog 9 #[.int .i64 8, .slice (some ⟨y5, 0, none⟩) 2 2] w' _ from great2P (m := 8) f5 (N1.out.below (KG.out.trans (hb'.mono KG.out.size))) (N2.out.below (KG.out.trans (hb'.mono KG.out.size))) (by decide)
  refine CT.mono ?_
  rintro e w'' ⟨b, rfl, hn, hb⟩
  exact ⟨_, rfl, ⟨b, rfl, hn, fun _ h => False.elim h⟩, hb⟩
 rintro _ ⟨y6, rfl⟩
 conv => arg 10; simp only [Act.put, Go.q0, Go.q1, Go.q2]
 iterate 2
  refine Go.FS.wpF_reads rfl rfl rfl ?_ (fun w' hw' => ?_) ?_
  rotate_left
  ·have hb' := hw'.world
   skip
   clear hw'
   go_simp
   try rfl
  conv => arg 10; simp only [Act.put, Go.q0, Go.q1, Go.q2]
 rcases Bool.eq_false_or_eq_true y6 with rfl | rfl
 ·refine Go.FS.wpF_skip (by rfl) rfl ?_
  conv => arg 10; simp only [Act.put, Go.q0, Go.q1, Go.q2]
  refine Go.FS.wpF_skip (by rfl) rfl ?_
  conv => arg 10; simp only [Act.put, Go.q0, Go.q1, Go.q2]
  iterate 2
   refine Go.FS.wpF_reads rfl rfl rfl ?_ (fun w' hw' => ?_) ?_
   rotate_left
   ·have hb' := hw'.world
    skip
    clear hw'
    go_simp
    try rfl
   conv => arg 10; simp only [Act.put, Go.q0, Go.q1, Go.q2]
  iterate 2
   refine Go.FS.wpF_skip (by rfl) rfl ?_
   conv => arg 10; simp only [Act.put, Go.q0, Go.q1, Go.q2]
  iterate 2
   refine Go.FS.wpF_reads rfl rfl rfl ?_ (fun w' hw' => ?_) ?_
   rotate_left
   ·have hb' := hw'.world
    skip
    clear hw'
    go_simp
    try rfl
   conv => arg 10; simp only [Act.put, Go.q0, Go.q1, Go.q2]
  iterate 16
   refine Go.FS.wpF_skip (by rfl) rfl ?_
   conv => arg 10; simp only [Act.put, Go.q0, Go.q1, Go.q2]
  refine Go.FS.wpF_nil (fun w3 hb hF => ?_)
  clear hF
  have BX1 := Lib.hid (BX1.out.below hb BX1.out.lt)
  have KG := Lib.hid (KG.out.trans (hb.mono KG.out.size))
  clear hb
  go_wp2_with fail
  have CT := Lib.hid (palive w3 (HT.out.on KG.out))
  with_reducible refine CT.out.mono ?_
  rintro e w4 ⟨rfl, hb⟩
  clear CT
  have BX1 := Lib.hid (BX1.out.below hb BX1.out.lt)
  have KG := Lib.hid (KG.out.trans (hb.mono KG.out.size))
  clear hb
  go_wp2_with fail
  go_ret
  exact ⟨rfl, KG.out⟩
 ·refine Go.FS.wpF_readsG (by rfl) rfl rfl ?_ (fun w' hw' => ?_) ?_
  rotate_left
  ·have hb' := hw'.world
   skip
   clear hw'
   go_simp
   try rfl
  conv => arg 10; simp only [Act.put, Go.q0, Go.q1, Go.q2]
  refine Go.FS.wpF_gspec (by rfl) rfl rfl (fun w' hw' => ?_) ?_
  ·have hb' := hw'.world
   refine Go.FS.gives_of (Go.FS.PM (fun b : Bool => .bool b) (fun b _ => b = false → (LowL L1 12)) (fun _ _ => False) w'.heap.size) ?_ (fun _ _ h => h.post (fun _ _ h => by cases h; rfl))
   go_simp
   have CT := ptall (N1.out.below (KG.out.trans (hb'.mono KG.out.size))) (Go.FS.made_of (w := w) (val := fun b : Bool => .bool b) (Φ := fun b _ => b = false → (NotGreat 8 (L1.map Prod.fst) ∧ NotGreat 8 (L2.map Prod.fst))) (fun _ _ h => by cases h; rfl) (hw'.2 6 (.more (j := 8) (by kernel_rfl) (.more (j := 7) (by kernel_rfl) (.one (by kernel_rfl))))) rfl).1 (by decide)
   refine CT.mono ?_
   rintro e w'' ⟨b, rfl, hn, hb⟩
   exact ⟨_, rfl, ⟨b, rfl, hn, fun _ h => False.elim h⟩, hb⟩
  rintro _ ⟨y10, rfl⟩
  conv => arg 10; simp only [Act.put, Go.q0, Go.q1, Go.q2]
  iterate 2
   refine Go.FS.wpF_reads rfl rfl rfl ?_ (fun w' hw' => ?_) ?_
   rotate_left
   ·have hb' := hw'.world
    skip
    clear hw'
    go_simp
    try rfl
   conv => arg 10; simp only [Act.put, Go.q0, Go.q1, Go.q2]
  rcases Bool.eq_false_or_eq_true y10 with rfl | rfl
  ·refine Go.FS.wpF_skip (by rfl) rfl ?_
   conv => arg 10; simp only [Act.put, Go.q0, Go.q1, Go.q2]
   refine Go.FS.wpF_skip (by rfl) rfl ?_
   conv => arg 10; simp only [Act.put, Go.q0, Go.q1, Go.q2]
   iterate 2
    refine Go.FS.wpF_reads rfl rfl rfl ?_ (fun w' hw' => ?_) ?_
    rotate_left
    ·have hb' := hw'.world
     skip
     clear hw'
     go_simp
     try rfl
    conv => arg 10; simp only [Act.put, Go.q0, Go.q1, Go.q2]
   iterate 16
    refine Go.FS.wpF_skip (by rfl) rfl ?_
    conv => arg 10; simp only [Act.put, Go.q0, Go.q1, Go.q2]
   refine Go.FS.wpF_nil (fun w5 hb hF => ?_)
   clear hF
   have BX1 := Lib.hid (BX1.out.below hb BX1.out.lt)
   have KG := Lib.hid (KG.out.trans (hb.mono KG.out.size))
   clear hb
   go_wp2_with fail
   have CT := Lib.hid (palive w5 (HT.out.on KG.out))
   with_reducible refine CT.out.mono ?_
   rintro e w6 ⟨rfl, hb⟩
   clear CT
   have BX1 := Lib.hid (BX1.out.below hb BX1.out.lt)
   have KG := Lib.hid (KG.out.trans (hb.mono KG.out.size))
   clear hb
   go_wp2_with fail
   go_ret
   exact ⟨rfl, KG.out⟩
  ·refine Go.FS.wpF_readsG (by rfl) rfl rfl ?_ (fun w' hw' => ?_) ?_
   rotate_left
   ·have hb' := hw'.world
    skip
    clear hw'
    go_simp
    try rfl
   conv => arg 10; simp only [Act.put, Go.q0, Go.q1, Go.q2]
   refine Go.FS.wpF_gspec (by rfl) rfl rfl (fun w' hw' => ?_) ?_
   ·have hb' := hw'.world
    refine Go.FS.gives_of (Go.FS.PM (fun b : Bool => .bool b) (fun b _ => b = false → (LowL L2 12)) (fun _ _ => False) w'.heap.size) ?_ (fun _ _ h => h.post (fun _ _ h => by cases h; rfl))
    go_simp
    have CT := ptall (N2.out.below (KG.out.trans (hb'.mono KG.out.size))) (Go.FS.made_of (w := w) (val := fun b : Bool => .bool b) (Φ := fun b _ => b = false → (NotGreat 8 (L1.map Prod.fst) ∧ NotGreat 8 (L2.map Prod.fst))) (fun _ _ h => by cases h; rfl) (hw'.2 6 (.more (j := 12) (by kernel_rfl) (.more (j := 11) (by kernel_rfl) (.more (j := 8) (by kernel_rfl) (.more (j := 7) (by kernel_rfl) (.one (by kernel_rfl))))))) rfl).2 (by decide)
    refine CT.mono ?_
    rintro e w'' ⟨b, rfl, hn, hb⟩
    exact ⟨_, rfl, ⟨b, rfl, hn, fun _ h => False.elim h⟩, hb⟩
   rintro _ ⟨y14, rfl⟩
   conv => arg 10; simp only [Act.put, Go.q0, Go.q1, Go.q2]
   iterate 2
    refine Go.FS.wpF_reads rfl rfl rfl ?_ (fun w' hw' => ?_) ?_
    rotate_left
    ·have hb' := hw'.world
     skip
     clear hw'
     go_simp
     try rfl
    conv => arg 10; simp only [Act.put, Go.q0, Go.q1, Go.q2]
   rcases Bool.eq_false_or_eq_true y14 with rfl | rfl
   ·refine Go.FS.wpF_skip (by rfl) rfl ?_
    conv => arg 10; simp only [Act.put, Go.q0, Go.q1, Go.q2]
    iterate 15
     refine Go.FS.wpF_skip (by rfl) rfl ?_
     conv => arg 10; simp only [Act.put, Go.q0, Go.q1, Go.q2]
    refine Go.FS.wpF_nil (fun w7 hb hF => ?_)
    clear hF
    have BX1 := Lib.hid (BX1.out.below hb BX1.out.lt)
    have KG := Lib.hid (KG.out.trans (hb.mono KG.out.size))
    clear hb
    go_wp2_with fail
    have CT := Lib.hid (palive w7 (HT.out.on KG.out))
    with_reducible refine CT.out.mono ?_
    rintro e w8 ⟨rfl, hb⟩
    clear CT
    have BX1 := Lib.hid (BX1.out.below hb BX1.out.lt)
    have KG := Lib.hid (KG.out.trans (hb.mono KG.out.size))
    clear hb
    go_wp2_with fail
    go_ret
    exact ⟨rfl, KG.out⟩
   ·refine Go.FS.wpF_readsG (by rfl) rfl rfl ?_ (fun w' hw' => ?_) ?_
    rotate_left
    ·have hb' := hw'.world
     skip
     clear hw'
     go_simp
     try rfl
    conv => arg 10; simp only [Act.put, Go.q0, Go.q1, Go.q2]
    refine Go.FS.wpF_readsG (by rfl) rfl rfl ?_ (fun w' hw' => ?_) ?_
    rotate_left
    ·have hb' := hw'.world
     have hs0 := (BX1.out.below hb' BX1.out.lt).cell (i := 0) rfl
     have hs1 := (BX1.out.below hb' BX1.out.lt).cell (i := 1) rfl
     have hs2 := (BX1.out.below hb' BX1.out.lt).cell (i := 2) rfl
     have hs3 := (BX1.out.below hb' BX1.out.lt).cell (i := 3) rfl
     have hs4 := (BX1.out.below hb' BX1.out.lt).cell (i := 4) rfl
     have hs5 := (BX1.out.below hb' BX1.out.lt).cell (i := 5) rfl
     have hs6 := (BX1.out.below hb' BX1.out.lt).cell (i := 6) rfl
     have hs7 := (BX1.out.below hb' BX1.out.lt).cell (i := 7) rfl
     have hs8 := (BX1.out.below hb' BX1.out.lt).cell (i := 8) rfl
     have hs9 := (BX1.out.below hb' BX1.out.lt).cell (i := 9) rfl
     have hs10 := (BX1.out.below hb' BX1.out.lt).cell (i := 10) rfl
     have hs11 := (BX1.out.below hb' BX1.out.lt).cell (i := 11) rfl
     have hs12 := (BX1.out.below hb' BX1.out.lt).cell (i := 12) rfl
     have hs13 := (BX1.out.below hb' BX1.out.lt).cell (i := 13) rfl
     have hs14 := (BX1.out.below hb' BX1.out.lt).cell (i := 14) rfl
     have hs15 := (BX1.out.below hb' BX1.out.lt).cell (i := 15) rfl
     have hsf := (BX1.out.below hb' BX1.out.lt).fz
     have hsl := (BX1.out.below hb' BX1.out.lt).lt
     clear hw'
     go_simp
     try rfl
    conv => arg 10; simp only [Act.put, Go.q0, Go.q1, Go.q2]
    refine Go.FS.wpF_gspec (by rfl) rfl rfl (fun w' hw' => ?_) ?_
    ·have hb' := hw'.world
     refine Go.FS.gives_of (Go.FS.PM (fun z : Int => .int .i64 z) (fun z _ => FZ pl0 z) (fun _ _ => False) w'.heap.size) ?_ (fun _ _ h => h.post (fun _ _ h => by cases h; rfl))
     go_simp
     have CT := frac_sizeX pl0 w' HA0.out.t HA0.out.l
     refine CT.mono ?_
     rintro e w'' ⟨z, rfl, hz, hb⟩
     exact ⟨_, rfl, ⟨z, rfl, hz, fun _ h => False.elim h⟩, hb⟩
    rintro _ ⟨y19, rfl⟩
    conv => arg 10; simp only [Act.put, Go.q0, Go.q1, Go.q2]
    refine Go.FS.wpF_readsG (by rfl) rfl rfl ?_ (fun w' hw' => ?_) ?_
    rotate_left
    ·have hb' := hw'.world
     skip
     clear hw'
     go_simp
     try rfl
    conv => arg 10; simp only [Act.put, Go.q0, Go.q1, Go.q2]
    refine Go.FS.wpF_readsG (by rfl) rfl rfl ?_ (fun w' hw' => ?_) ?_
    rotate_left
    ·have hb' := hw'.world
     have hs0 := (BX1.out.below hb' BX1.out.lt).cell (i := 0) rfl
     have hs1 := (BX1.out.below hb' BX1.out.lt).cell (i := 1) rfl
     have hs2 := (BX1.out.below hb' BX1.out.lt).cell (i := 2) rfl
     have hs3 := (BX1.out.below hb' BX1.out.lt).cell (i := 3) rfl
     have hs4 := (BX1.out.below hb' BX1.out.lt).cell (i := 4) rfl
     have hs5 := (BX1.out.below hb' BX1.out.lt).cell (i := 5) rfl
     have hs6 := (BX1.out.below hb' BX1.out.lt).cell (i := 6) rfl
     have hs7 := (BX1.out.below hb' BX1.out.lt).cell (i := 7) rfl
     have hs8 := (BX1.out.below hb' BX1.out.lt).cell (i := 8) rfl
     have hs9 := (BX1.out.below hb' BX1.out.lt).cell (i := 9) rfl
     have hs10 := (BX1.out.below hb' BX1.out.lt).cell (i := 10) rfl
     have hs11 := (BX1.out.below hb' BX1.out.lt).cell (i := 11) rfl
     have hs12 := (BX1.out.below hb' BX1.out.lt).cell (i := 12) rfl
     have hs13 := (BX1.out.below hb' BX1.out.lt).cell (i := 13) rfl
     have hs14 := (BX1.out.below hb' BX1.out.lt).cell (i := 14) rfl
     have hs15 := (BX1.out.below hb' BX1.out.lt).cell (i := 15) rfl
     have hsf := (BX1.out.below hb' BX1.out.lt).fz
     have hsl := (BX1.out.below hb' BX1.out.lt).lt
     clear hw'
     go_simp
     try rfl
    conv => arg 10; simp only [Act.put, Go.q0, Go.q1, Go.q2]
    refine Go.FS.wpF_gspec (by rfl) rfl rfl (fun w' hw' => ?_) ?_
    ·have hb' := hw'.world
     refine Go.FS.gives_of (Go.FS.PM (fun z : Int => .int .i64 z) (fun z _ => FZ pl1 z) (fun _ _ => False) w'.heap.size) ?_ (fun _ _ h => h.post (fun _ _ h => by cases h; rfl))
     go_simp
     have CT := frac_sizeX pl1 w' HA1.out.t HA1.out.l
     refine CT.mono ?_
     rintro e w'' ⟨z, rfl, hz, hb⟩
     exact ⟨_, rfl, ⟨z, rfl, hz, fun _ h => False.elim h⟩, hb⟩
    rintro _ ⟨y22, rfl⟩
    conv => arg 10; simp only [Act.put, Go.q0, Go.q1, Go.q2]
    refine Go.FS.wpF_readsG (by rfl) rfl rfl ?_ (fun w' hw' => ?_) ?_
    rotate_left
    ·have hb' := hw'.world
     have z0 := (Go.FS.made_of (w := w) (val := fun z : Int => .int .i64 z) (Φ := fun z _ => FZ pl0 z) (fun _ _ h => by cases h; rfl) (hw'.2 19 (.one (by kernel_rfl))))
     have z1 := (Go.FS.made_of (w := w) (val := fun z : Int => .int .i64 z) (Φ := fun z _ => FZ pl1 z) (fun _ _ h => by cases h; rfl) (hw'.2 22 (.one (by kernel_rfl))))
     have ew : IntKind.i64.wrap (y19 + y22) = y19 + y22 := IntWalk.i64_in _ (by have a0 := z0.lo; have b0 := z0.hi; have a1 := z1.lo; have b1 := z1.hi; omega)
     clear hw'
     go_simp
     try rfl
    conv => arg 10; simp only [Act.put, Go.q0, Go.q1, Go.q2]
    refine Go.FS.wpF_readsG (by rfl) rfl rfl ?_ (fun w' hw' => ?_) ?_
    rotate_left
    ·have hb' := hw'.world
     skip
     clear hw'
     go_simp
     try rfl
    conv => arg 10; simp only [Act.put, Go.q0, Go.q1, Go.q2]
    refine Go.FS.wpF_readsG (by rfl) rfl rfl ?_ (fun w' hw' => ?_) ?_
    rotate_left
    ·have hb' := hw'.world
     have hs0 := (BX1.out.below hb' BX1.out.lt).cell (i := 0) rfl
     have hs1 := (BX1.out.below hb' BX1.out.lt).cell (i := 1) rfl
     have hs2 := (BX1.out.below hb' BX1.out.lt).cell (i := 2) rfl
     have hs3 := (BX1.out.below hb' BX1.out.lt).cell (i := 3) rfl
     have hs4 := (BX1.out.below hb' BX1.out.lt).cell (i := 4) rfl
     have hs5 := (BX1.out.below hb' BX1.out.lt).cell (i := 5) rfl
     have hs6 := (BX1.out.below hb' BX1.out.lt).cell (i := 6) rfl
     have hs7 := (BX1.out.below hb' BX1.out.lt).cell (i := 7) rfl
     have hs8 := (BX1.out.below hb' BX1.out.lt).cell (i := 8) rfl
     have hs9 := (BX1.out.below hb' BX1.out.lt).cell (i := 9) rfl
     have hs10 := (BX1.out.below hb' BX1.out.lt).cell (i := 10) rfl
     have hs11 := (BX1.out.below hb' BX1.out.lt).cell (i := 11) rfl
     have hs12 := (BX1.out.below hb' BX1.out.lt).cell (i := 12) rfl
     have hs13 := (BX1.out.below hb' BX1.out.lt).cell (i := 13) rfl
     have hs14 := (BX1.out.below hb' BX1.out.lt).cell (i := 14) rfl
     have hs15 := (BX1.out.below hb' BX1.out.lt).cell (i := 15) rfl
     have hsf := (BX1.out.below hb' BX1.out.lt).fz
     have hsl := (BX1.out.below hb' BX1.out.lt).lt
     clear hw'
     go_simp
     try rfl
    conv => arg 10; simp only [Act.put, Go.q0, Go.q1, Go.q2]
    refine Go.FS.wpF_gspec (by rfl) rfl rfl (fun w' hw' => ?_) ?_
    ·have hb' := hw'.world
     refine Go.FS.gives_of (Go.FS.PM (fun z : Int => .int .i64 z) (fun z _ => FZ pl2 z) (fun _ _ => False) w'.heap.size) ?_ (fun _ _ h => h.post (fun _ _ h => by cases h; rfl))
     go_simp
     have CT := frac_sizeX pl2 w' HA2.out.t HA2.out.l
     refine CT.mono ?_
     rintro e w'' ⟨z, rfl, hz, hb⟩
     exact ⟨_, rfl, ⟨z, rfl, hz, fun _ h => False.elim h⟩, hb⟩
    rintro _ ⟨y26, rfl⟩
    conv => arg 10; simp only [Act.put, Go.q0, Go.q1, Go.q2]
    refine Go.FS.wpF_readsG (by rfl) rfl rfl ?_ (fun w' hw' => ?_) ?_
    rotate_left
    ·have hb' := hw'.world
     have z0 := (Go.FS.made_of (w := w) (val := fun z : Int => .int .i64 z) (Φ := fun z _ => FZ pl0 z) (fun _ _ h => by cases h; rfl) (hw'.2 19 (.more (j := 23) (by kernel_rfl) (.one (by kernel_rfl)))))
     have z1 := (Go.FS.made_of (w := w) (val := fun z : Int => .int .i64 z) (Φ := fun z _ => FZ pl1 z) (fun _ _ h => by cases h; rfl) (hw'.2 22 (.more (j := 23) (by kernel_rfl) (.one (by kernel_rfl)))))
     have z2 := (Go.FS.made_of (w := w) (val := fun z : Int => .int .i64 z) (Φ := fun z _ => FZ pl2 z) (fun _ _ h => by cases h; rfl) (hw'.2 26 (.one (by kernel_rfl))))
     have ew : IntKind.i64.wrap (y19 + y22 + y26) = y19 + y22 + y26 := IntWalk.i64_in _ (by have a0 := z0.lo; have b0 := z0.hi; have a1 := z1.lo; have b1 := z1.hi; have a2 := z2.lo; have b2 := z2.hi; omega)
     clear hw'
     go_simp
     try rfl
    conv => arg 10; simp only [Act.put, Go.q0, Go.q1, Go.q2]
    refine Go.FS.wpF_readsG (by rfl) rfl rfl ?_ (fun w' hw' => ?_) ?_
    rotate_left
    ·have hb' := hw'.world
     skip
     clear hw'
     go_simp
     try rfl
    conv => arg 10; simp only [Act.put, Go.q0, Go.q1, Go.q2]
    refine Go.FS.wpF_readsG (by rfl) rfl rfl ?_ (fun w' hw' => ?_) ?_
    rotate_left
    ·have hb' := hw'.world
     have hs0 := (BX1.out.below hb' BX1.out.lt).cell (i := 0) rfl
     have hs1 := (BX1.out.below hb' BX1.out.lt).cell (i := 1) rfl
     have hs2 := (BX1.out.below hb' BX1.out.lt).cell (i := 2) rfl
     have hs3 := (BX1.out.below hb' BX1.out.lt).cell (i := 3) rfl
     have hs4 := (BX1.out.below hb' BX1.out.lt).cell (i := 4) rfl
     have hs5 := (BX1.out.below hb' BX1.out.lt).cell (i := 5) rfl
     have hs6 := (BX1.out.below hb' BX1.out.lt).cell (i := 6) rfl
     have hs7 := (BX1.out.below hb' BX1.out.lt).cell (i := 7) rfl
     have hs8 := (BX1.out.below hb' BX1.out.lt).cell (i := 8) rfl
     have hs9 := (BX1.out.below hb' BX1.out.lt).cell (i := 9) rfl
     have hs10 := (BX1.out.below hb' BX1.out.lt).cell (i := 10) rfl
     have hs11 := (BX1.out.below hb' BX1.out.lt).cell (i := 11) rfl
     have hs12 := (BX1.out.below hb' BX1.out.lt).cell (i := 12) rfl
     have hs13 := (BX1.out.below hb' BX1.out.lt).cell (i := 13) rfl
     have hs14 := (BX1.out.below hb' BX1.out.lt).cell (i := 14) rfl
     have hs15 := (BX1.out.below hb' BX1.out.lt).cell (i := 15) rfl
     have hsf := (BX1.out.below hb' BX1.out.lt).fz
     have hsl := (BX1.out.below hb' BX1.out.lt).lt
     clear hw'
     go_simp
     try rfl
    conv => arg 10; simp only [Act.put, Go.q0, Go.q1, Go.q2]
    refine Go.FS.wpF_gspec (by rfl) rfl rfl (fun w' hw' => ?_) ?_
    ·have hb' := hw'.world
     refine Go.FS.gives_of (Go.FS.PM (fun z : Int => .int .i64 z) (fun z _ => FZ pl3 z) (fun _ _ => False) w'.heap.size) ?_ (fun _ _ h => h.post (fun _ _ h => by cases h; rfl))
     go_simp
     have CT := frac_sizeX pl3 w' HA3.out.t HA3.out.l
     refine CT.mono ?_
     rintro e w'' ⟨z, rfl, hz, hb⟩
     exact ⟨_, rfl, ⟨z, rfl, hz, fun _ h => False.elim h⟩, hb⟩
    rintro _ ⟨y30, rfl⟩
    conv => arg 10; simp only [Act.put, Go.q0, Go.q1, Go.q2]
    refine Go.FS.wpF_readsG (by rfl) rfl rfl ?_ (fun w' hw' => ?_) ?_
    rotate_left
    ·have hb' := hw'.world
     have z0 := (Go.FS.made_of (w := w) (val := fun z : Int => .int .i64 z) (Φ := fun z _ => FZ pl0 z) (fun _ _ h => by cases h; rfl) (hw'.2 19 (.more (j := 27) (by kernel_rfl) (.more (j := 23) (by kernel_rfl) (.one (by kernel_rfl))))))
     have z1 := (Go.FS.made_of (w := w) (val := fun z : Int => .int .i64 z) (Φ := fun z _ => FZ pl1 z) (fun _ _ h => by cases h; rfl) (hw'.2 22 (.more (j := 27) (by kernel_rfl) (.more (j := 23) (by kernel_rfl) (.one (by kernel_rfl))))))
     have z2 := (Go.FS.made_of (w := w) (val := fun z : Int => .int .i64 z) (Φ := fun z _ => FZ pl2 z) (fun _ _ h => by cases h; rfl) (hw'.2 26 (.more (j := 27) (by kernel_rfl) (.one (by kernel_rfl)))))
     have z3 := (Go.FS.made_of (w := w) (val := fun z : Int => .int .i64 z) (Φ := fun z _ => FZ pl3 z) (fun _ _ h => by cases h; rfl) (hw'.2 30 (.one (by kernel_rfl))))
     have ew : IntKind.i64.wrap (y19 + y22 + y26 + y30) = y19 + y22 + y26 + y30 := IntWalk.i64_in _ (by have a0 := z0.lo; have b0 := z0.hi; have a1 := z1.lo; have b1 := z1.hi; have a2 := z2.lo; have b2 := z2.hi; have a3 := z3.lo; have b3 := z3.hi; omega)
     clear hw'
     go_simp
     try rfl
    conv => arg 10; simp only [Act.put, Go.q0, Go.q1, Go.q2]
    refine Go.FS.wpF_readsG (by rfl) rfl rfl ?_ (fun w' hw' => ?_) ?_
    rotate_left
    ·have hb' := hw'.world
     skip
     clear hw'
     go_simp
     try rfl
    conv => arg 10; simp only [Act.put, Go.q0, Go.q1, Go.q2]
    refine Go.FS.wpF_nil (fun w9 hb hF => ?_)
    have g6 := (Go.FS.made_of (w := w) (val := fun b : Bool => .bool b) (Φ := fun b _ => b = false → (NotGreat 8 (L1.map Prod.fst) ∧ NotGreat 8 (L2.map Prod.fst))) (fun _ _ h => by cases h; rfl) (hF.all 6) rfl)
    have Gx1 := Lib.hid g6.1
    have Gx2 := Lib.hid g6.2
    have Wx1 := Lib.hid (Go.FS.made_of (w := w) (val := fun b : Bool => .bool b) (Φ := fun b _ => b = false → (LowL L1 12)) (fun _ _ h => by cases h; rfl) (hF.all 10) rfl)
    have Wx2 := Lib.hid (Go.FS.made_of (w := w) (val := fun b : Bool => .bool b) (Φ := fun b _ => b = false → (LowL L2 12)) (fun _ _ h => by cases h; rfl) (hF.all 14) rfl)
    have Z0 := Lib.hid (Go.FS.made_of (w := w) (val := fun z : Int => .int .i64 z) (Φ := fun z _ => FZ pl0 z) (fun _ _ h => by cases h; rfl) (hF.all 19))
    have Z1 := Lib.hid (Go.FS.made_of (w := w) (val := fun z : Int => .int .i64 z) (Φ := fun z _ => FZ pl1 z) (fun _ _ h => by cases h; rfl) (hF.all 22))
    have Z2 := Lib.hid (Go.FS.made_of (w := w) (val := fun z : Int => .int .i64 z) (Φ := fun z _ => FZ pl2 z) (fun _ _ h => by cases h; rfl) (hF.all 26))
    have Z3 := Lib.hid (Go.FS.made_of (w := w) (val := fun z : Int => .int .i64 z) (Φ := fun z _ => FZ pl3 z) (fun _ _ h => by cases h; rfl) (hF.all 30))
    clear g6
    clear hF
    have BX1 := Lib.hid (BX1.out.below hb BX1.out.lt)
    have KG := Lib.hid (KG.out.trans (hb.mono KG.out.size))
    clear hb
    by_cases h30 : y19 + y22 + y26 + y30 > 30
    ·have h30b : 30 < y19 + y22 + y26 + y30 := h30
     go_wp2_with fail
     have CT := Lib.hid (palive w9 (HT.out.on KG.out))
     with_reducible refine CT.out.mono ?_
     rintro e w10 ⟨rfl, hb⟩
     clear CT
     have BX1 := Lib.hid (BX1.out.below hb BX1.out.lt)
     have KG := Lib.hid (KG.out.trans (hb.mono KG.out.size))
     clear hb
     go_wp2_with fail
     go_ret
     exact ⟨rfl, KG.out⟩
    have h30b : ¬ (30 < y19 + y22 + y26 + y30) := h30
    go_upto_region 3 with (fail)
    have LF0 := Lib.hid (show LF pl0 30 from fz_le Z0.out (by have a0 := Z0.out.lo; have a1 := Z1.out.lo; have a2 := Z2.out.lo; have a3 := Z3.out.lo; omega))
    have LF1 := Lib.hid (show LF pl1 30 from fz_le Z1.out (by have a0 := Z0.out.lo; have a1 := Z1.out.lo; have a2 := Z2.out.lo; have a3 := Z3.out.lo; omega))
    have LF2 := Lib.hid (show LF pl2 30 from fz_le Z2.out (by have a0 := Z0.out.lo; have a1 := Z1.out.lo; have a2 := Z2.out.lo; have a3 := Z3.out.lo; omega))
    have LF3 := Lib.hid (show LF pl3 30 from fz_le Z3.out (by have a0 := Z0.out.lo; have a1 := Z1.out.lo; have a2 := Z2.out.lo; have a3 := Z3.out.lo; omega))
    obtain ⟨P1, o1, hs1⟩ := sa_of N1.out Gx1.out Wx1.out (by decide)
    have S1 := Lib.hid hs1
    have PCP1 := Lib.hid hs1.b
    clear hs1
    obtain ⟨P2, o2, hs2⟩ := sa_of N2.out Gx2.out Wx2.out (by decide)
    have S2 := Lib.hid hs2
    have PCP2 := Lib.hid hs2.b
    clear hs2
    obtain ⟨l, ol, hl⟩ := la_of HA0.out HA1.out HA2.out HA3.out LF0.out LF1.out LF2.out LF3.out
    have LL := Lib.hid hl
    clear hl h30 h30b
    by_cases hbad : ¬ (o1 = true ∧ o2 = true ∧ ol = true)
    ·have HBAD := Lib.hid hbad
     clear hbad
     obtain ⟨R, hRb, hR⟩ := pmul_any S1.out S2.out (by decide) (by decide) (by decide) (by decide) (by decide) (by decide) (by decide)
     have PCR := Lib.hid hRb
     have HR := Lib.hid hR
     clear hRb hR
     have cBX1L := load16 BX1.out
     go_wp2_with (refine wpList_load rfl rfl rfl cBX1L ?_)
     have CT := Lib.hid (pat_any (S1.out.below KG.out) (LL.out.below KG.out) (by decide) (by decide) (by decide) (by decide) (by decide))
     with_reducible refine CT.out.mono ?_
     rintro e w11 ⟨x12, c13, rfl, hc, hb⟩
     clear CT
     clear cBX1L
     have BX1 := Lib.hid (BX1.out.below hb BX1.out.lt)
     have KG := Lib.hid (KG.out.trans (hb.mono KG.out.size))
     clear hb
     have Hc13 := Lib.hid hc
     clear hc
     go_upto_region 4 with (fail)
     obtain ⟨v15, hV⟩ : ∃ V, V = w11.alloc (.cells #[.bool x12.t.s, .slice x12.t.a x12.t.n x12.t.c, .bool x12.l.s, .slice x12.l.a x12.l.n x12.l.c] 28) := ⟨_, rfl⟩
     have hbV : Below w11.heap.size w11 v15 := by rw [hV]; exact ((Below.refl _ _).alloc (Nat.le_refl _) _)
     have BX14 := Lib.hid (show Bxs v15 (w11.heap.size) 28 [.bool x12.t.s, .slice x12.t.a x12.t.n x12.t.c, .bool x12.l.s, .slice x12.l.a x12.l.n x12.l.c] by have h := Bxs.new (w11) 28 [.bool x12.t.s, .slice x12.t.a x12.t.n x12.t.c, .bool x12.l.s, .slice x12.l.a x12.l.n x12.l.c]; rw [hV]; exact h)
     rw [show w11.alloc (.cells #[.bool x12.t.s, .slice x12.t.a x12.t.n x12.t.c, .bool x12.l.s, .slice x12.l.a x12.l.n x12.l.c] 28) = v15 from hV.symm]
     have BX1 := Lib.hid (BX1.out.below hbV BX1.out.lt)
     have KG := Lib.hid (KG.out.trans (hbV.mono KG.out.size))
     clear hV hbV
     clear BX14
     have cBX1L := load16 BX1.out
     go_wp2_with (refine wpList_load rfl rfl rfl cBX1L ?_)
     have CT := Lib.hid (pat_any (S2.out.below KG.out) (LL.out.below KG.out) (by decide) (by decide) (by decide) (by decide) (by decide))
     with_reducible refine CT.out.mono ?_
     rintro e w16 ⟨x17, c18, rfl, hc, hb⟩
     clear CT
     clear cBX1L
     have BX1 := Lib.hid (BX1.out.below hb BX1.out.lt)
     have KG := Lib.hid (KG.out.trans (hb.mono KG.out.size))
     clear hb
     have Hc18 := Lib.hid hc
     clear hc
     go_upto_region 5 with (fail)
     obtain ⟨v20, hV⟩ : ∃ V, V = w16.alloc (.cells #[.bool x17.t.s, .slice x17.t.a x17.t.n x17.t.c, .bool x17.l.s, .slice x17.l.a x17.l.n x17.l.c] 28) := ⟨_, rfl⟩
     have hbV : Below w16.heap.size w16 v20 := by rw [hV]; exact ((Below.refl _ _).alloc (Nat.le_refl _) _)
     have BX19 := Lib.hid (show Bxs v20 (w16.heap.size) 28 [.bool x17.t.s, .slice x17.t.a x17.t.n x17.t.c, .bool x17.l.s, .slice x17.l.a x17.l.n x17.l.c] by have h := Bxs.new (w16) 28 [.bool x17.t.s, .slice x17.t.a x17.t.n x17.t.c, .bool x17.l.s, .slice x17.l.a x17.l.n x17.l.c]; rw [hV]; exact h)
     rw [show w16.alloc (.cells #[.bool x17.t.s, .slice x17.t.a x17.t.n x17.t.c, .bool x17.l.s, .slice x17.l.a x17.l.n x17.l.c] 28) = v20 from hV.symm]
     have BX1 := Lib.hid (BX1.out.below hbV BX1.out.lt)
     have KG := Lib.hid (KG.out.trans (hbV.mono KG.out.size))
     clear hV hbV
     clear BX19
     obtain ⟨p21, hp21⟩ : ∃ z : List Tm, z = addP P1 P2 := ⟨_, rfl⟩
     have Hp21 := Lib.hid hp21
     have PCp21 := Lib.hid (show PC p21 16 9 12 by rw [hp21]; exact PCP1.out.add PCP2.out 4 12 (by decide) (by decide) (by decide) (by decide))
     clear hp21
     go_upto_region 5 with (fail)
     refine Go.FS.wp_region_fresh 10 [(9, 8)] (Go.FS.spOf [(2, Go.FS.Sp.made (fun x : PV => x.v) (fun x w' => DP w' v20.heap.size x p21) (fun _ _ => False)), (4, Go.FS.Sp.made (fun x : FV × Int => .tuple #[x.1.v, .int .i64 x.2]) (fun _ _ => True) (fun _ _ => False)), (8, Go.FS.Sp.box 28 4 v20.heap.size)])
      (fun w' => Below v20.heap.size v20 w') (by kernel_rfl) (by kernel_rfl) (by kernel_rfl)
      (Go.FS.spOf_cons (Go.FS.Sp.made_keepsR _ rowT (fun _ _ _ h hs => h.rows hs) (by kernel_rfl) (Go.FS.notTaken (by kernel_rfl))) (Go.FS.spOf_cons (Go.FS.Sp.made_keepsR _ (fun _ => false) (fun _ _ _ h _ => h) (by kernel_rfl) (Go.FS.notTaken (by kernel_rfl))) (Go.FS.spOf_cons (Go.FS.Sp.box_keeps _ _ _ _) (Go.FS.spOf_nil)))) (fun _ _ h hb => h.trans (hb.mono h.size)) ((Below.refl _ _).drew) ?_
     simp only [List.append_eq, List.cons_append, List.nil_append, List.take_succ_cons, List.take_zero, List.drop_succ_cons, List.drop_zero]
     iterate 2
      refine Go.FS.wpF_reads rfl rfl rfl ?_ (fun w' hw' => ?_) ?_
      rotate_left
      ·have hb' := hw'.world
       skip
       clear hw'
       go_simp
       try rfl
      conv => arg 10; simp only [Act.put, Go.q0, Go.q1, Go.q2]
     refine Go.FS.wpF_spec rfl rfl rfl (fun w' hw' => ?_) ?_
     ·have hb' := hw'.world
      refine Go.FS.gives_of (Go.FS.PM (fun x : PV => x.v) (fun x w' => DP w' v20.heap.size x p21) (fun _ _ => False) w'.heap.size) ?_ (fun _ _ h => h.post (fun _ _ => PV.inj))
      go_simp
      have CT := padd_any (S1.out.below (KG.out.trans (hb'.mono KG.out.size))) (S2.out.below (KG.out.trans (hb'.mono KG.out.size))) 4 (by decide) (by decide) (by decide) (by decide)
      rw [show addP P1 P2 = p21 from Hp21.out.symm] at CT
      refine CT.mono ?_
      rintro e w'' ⟨za, rfl, ho, hb⟩
      exact ⟨_, rfl, ⟨za, rfl, ho.mono hb'.size, fun _ h => False.elim h⟩, hb⟩
     rintro _ ⟨y2, rfl⟩
     conv => arg 10; simp only [Act.put, Go.q0, Go.q1, Go.q2]
     refine Go.FS.wpF_reads rfl rfl rfl (.agg #[.bool pl0.t.s, .slice pl0.t.a pl0.t.n pl0.t.c, .bool pl0.l.s, .slice pl0.l.a pl0.l.n pl0.l.c, .bool pl1.t.s, .slice pl1.t.a pl1.t.n pl1.t.c, .bool pl1.l.s, .slice pl1.l.a pl1.l.n pl1.l.c, .bool pl2.t.s, .slice pl2.t.a pl2.t.n pl2.t.c, .bool pl2.l.s, .slice pl2.l.a pl2.l.n pl2.l.c, .bool pl3.t.s, .slice pl3.t.a pl3.t.n pl3.t.c, .bool pl3.l.s, .slice pl3.l.a pl3.l.n pl3.l.c]) (fun w' hw' => ?_) ?_
     ·have hb' := hw'.world
      exact reads_load (p := .pointer (some ⟨w.heap.size, 0, none⟩)) rfl rfl (load16 (BX1.out.below hb' BX1.out.lt))
     conv => arg 10; simp only [Act.put, Go.q0, Go.q1, Go.q2]
     refine Go.FS.wpF_spec rfl rfl rfl (fun w' hw' => ?_) ?_
     ·have hb' := hw'.world
      refine Go.FS.gives_of (Go.FS.PM (fun x : FV × Int => .tuple #[x.1.v, .int .i64 x.2]) (fun _ _ => True) (fun _ _ => False) w'.heap.size) ?_ (fun _ _ h => h.post FVI.inj)
      go_simp
      have f2 := Go.FS.made_of (val := (fun x : PV => x.v)) (Φ := fun x w' => DP w' v20.heap.size x p21) (fun _ _ => PV.inj) (hw'.fact 2 (by kernel_rfl))
      have CT := pat_any (KP.sa (f2.k) PCp21.out (by decide)) (LL.out.below (KG.out.trans (hb'.mono KG.out.size))) (by decide) (by decide) (by decide) (by decide) (by decide)
      refine CT.mono ?_
      rintro e w'' ⟨za, zc, rfl, _, hb⟩
      exact ⟨_, rfl, ⟨(za, zc), rfl, trivial, fun _ h => False.elim h⟩, hb⟩
     rintro _ ⟨y4, rfl⟩
     conv => arg 10; simp only [Act.put, Go.q0, Go.q1, Go.q2]
     iterate 3
      refine Go.FS.wpF_reads rfl rfl rfl ?_ (fun w' hw' => ?_) ?_
      rotate_left
      ·have hb' := hw'.world
       skip
       clear hw'
       go_simp
       try rfl
      conv => arg 10; simp only [Act.put, Go.q0, Go.q1, Go.q2]
     refine Go.FS.wpF_spec rfl rfl rfl (fun w' hw' => ?_) ?_
     ·have hb' := hw'.world
      refine Go.FS.gives_of (Go.FS.PB 28 4 v20.heap.size w'.heap.size) ?_ (fun _ _ h => h.post)
      go_simp
      exact ⟨Go.FS.PB.new _ rfl hb'.size, (Below.refl _ _).alloc (Nat.le_refl _) _⟩
     rintro _ ⟨y8, rfl⟩
     conv => arg 10; simp only [Act.put, Go.q0, Go.q1, Go.q2]
     refine Go.FS.wpF_store rfl rfl 8 rfl rfl rfl rfl (fun _ => Iff.rfl) (fun w' hw' => ?_) ?_
     ·have hb' := hw'.world
      have hX := Go.FS.box_of (hw'.fact 8 (by kernel_rfl))
      obtain ⟨c0, c1, c2, c3, hB⟩ := shp4 hX.1
      have m0 := hB.cell (i := 0) rfl
      have m1 := hB.cell (i := 1) rfl
      have m2 := hB.cell (i := 2) rfl
      have m3 := hB.cell (i := 3) rfl
      have mf := hB.fz
      have ml := hB.lt
      refine Go.FS.stores_of ?_ (store4 hb' hX.2 hB (.bool y4.1.t.s) (.slice y4.1.t.a y4.1.t.n y4.1.t.c) (.bool y4.1.l.s) (.slice y4.1.l.a y4.1.l.n y4.1.l.c))
      clear hw'
      go_simp
      try rfl
     conv => arg 10; simp only [Act.put, Go.q0, Go.q1, Go.q2]
     refine Go.FS.wpF_nil (fun w23 hb hF => ?_)
     have BX22 := Lib.hid (show Bxs w23 y8 28 [.bool y4.1.t.s, .slice y4.1.t.a y4.1.t.n y4.1.t.c, .bool y4.1.l.s, .slice y4.1.l.a y4.1.l.n y4.1.l.c] from stored_bxs (hF.all 9))
     clear hF
     have BX1 := Lib.hid (BX1.out.below hb BX1.out.lt)
     have KG := Lib.hid (KG.out.trans (hb.mono KG.out.size))
     clear hb
     clear BX22
     go_upto_region 6 with (fail)
     refine Go.FS.wp_region_fresh 10 [(9, 8)] (Go.FS.spOf [(2, Go.FS.Sp.made (fun x : PV => x.v) (fun x w' => DP w' w23.heap.size x R) (fun _ _ => False)), (4, Go.FS.Sp.made (fun x : FV × Int => .tuple #[x.1.v, .int .i64 x.2]) (fun _ _ => True) (fun _ _ => False)), (8, Go.FS.Sp.box 28 4 w23.heap.size)])
      (fun w' => Below w23.heap.size w23 w') (by kernel_rfl) (by kernel_rfl) (by kernel_rfl)
      (Go.FS.spOf_cons (Go.FS.Sp.made_keepsR _ rowT (fun _ _ _ h hs => h.rows hs) (by kernel_rfl) (Go.FS.notTaken (by kernel_rfl))) (Go.FS.spOf_cons (Go.FS.Sp.made_keepsR _ (fun _ => false) (fun _ _ _ h _ => h) (by kernel_rfl) (Go.FS.notTaken (by kernel_rfl))) (Go.FS.spOf_cons (Go.FS.Sp.box_keeps _ _ _ _) (Go.FS.spOf_nil)))) (fun _ _ h hb => h.trans (hb.mono h.size)) ((Below.refl _ _).drew) ?_
     simp only [List.append_eq, List.cons_append, List.nil_append, List.take_succ_cons, List.take_zero, List.drop_succ_cons, List.drop_zero]
     iterate 2
      refine Go.FS.wpF_reads rfl rfl rfl ?_ (fun w' hw' => ?_) ?_
      rotate_left
      ·have hb' := hw'.world
       skip
       clear hw'
       go_simp
       try rfl
      conv => arg 10; simp only [Act.put, Go.q0, Go.q1, Go.q2]
     refine Go.FS.wpF_spec rfl rfl rfl (fun w' hw' => ?_) ?_
     ·have hb' := hw'.world
      refine Go.FS.gives_of (Go.FS.PM (fun x : PV => x.v) (fun x w' => DP w' w23.heap.size x R) (fun _ _ => False) w'.heap.size) ?_ (fun _ _ h => h.post (fun _ _ => PV.inj))
      go_simp
      have CT := HR.out w' (KG.out.trans (hb'.mono KG.out.size))
      refine CT.mono ?_
      rintro e w'' ⟨za, rfl, ho, hb⟩
      exact ⟨_, rfl, ⟨za, rfl, ho.mono hb'.size, fun _ h => False.elim h⟩, hb⟩
     rintro _ ⟨y2, rfl⟩
     conv => arg 10; simp only [Act.put, Go.q0, Go.q1, Go.q2]
     refine Go.FS.wpF_reads rfl rfl rfl (.agg #[.bool pl0.t.s, .slice pl0.t.a pl0.t.n pl0.t.c, .bool pl0.l.s, .slice pl0.l.a pl0.l.n pl0.l.c, .bool pl1.t.s, .slice pl1.t.a pl1.t.n pl1.t.c, .bool pl1.l.s, .slice pl1.l.a pl1.l.n pl1.l.c, .bool pl2.t.s, .slice pl2.t.a pl2.t.n pl2.t.c, .bool pl2.l.s, .slice pl2.l.a pl2.l.n pl2.l.c, .bool pl3.t.s, .slice pl3.t.a pl3.t.n pl3.t.c, .bool pl3.l.s, .slice pl3.l.a pl3.l.n pl3.l.c]) (fun w' hw' => ?_) ?_
     ·have hb' := hw'.world
      exact reads_load (p := .pointer (some ⟨w.heap.size, 0, none⟩)) rfl rfl (load16 (BX1.out.below hb' BX1.out.lt))
     conv => arg 10; simp only [Act.put, Go.q0, Go.q1, Go.q2]
     refine Go.FS.wpF_spec rfl rfl rfl (fun w' hw' => ?_) ?_
     ·have hb' := hw'.world
      refine Go.FS.gives_of (Go.FS.PM (fun x : FV × Int => .tuple #[x.1.v, .int .i64 x.2]) (fun _ _ => True) (fun _ _ => False) w'.heap.size) ?_ (fun _ _ h => h.post FVI.inj)
      go_simp
      have f2 := Go.FS.made_of (val := (fun x : PV => x.v)) (Φ := fun x w' => DP w' w23.heap.size x R) (fun _ _ => PV.inj) (hw'.fact 2 (by kernel_rfl))
      have CT := pat_any (KP.sa (f2.k) PCR.out (by decide)) (LL.out.below (KG.out.trans (hb'.mono KG.out.size))) (by decide) (by decide) (by decide) (by decide) (by decide)
      refine CT.mono ?_
      rintro e w'' ⟨za, zc, rfl, _, hb⟩
      exact ⟨_, rfl, ⟨(za, zc), rfl, trivial, fun _ h => False.elim h⟩, hb⟩
     rintro _ ⟨y4, rfl⟩
     conv => arg 10; simp only [Act.put, Go.q0, Go.q1, Go.q2]
     iterate 3
      refine Go.FS.wpF_reads rfl rfl rfl ?_ (fun w' hw' => ?_) ?_
      rotate_left
      ·have hb' := hw'.world
       skip
       clear hw'
       go_simp
       try rfl
      conv => arg 10; simp only [Act.put, Go.q0, Go.q1, Go.q2]
     refine Go.FS.wpF_spec rfl rfl rfl (fun w' hw' => ?_) ?_
     ·have hb' := hw'.world
      refine Go.FS.gives_of (Go.FS.PB 28 4 w23.heap.size w'.heap.size) ?_ (fun _ _ h => h.post)
      go_simp
      exact ⟨Go.FS.PB.new _ rfl hb'.size, (Below.refl _ _).alloc (Nat.le_refl _) _⟩
     rintro _ ⟨y8, rfl⟩
     conv => arg 10; simp only [Act.put, Go.q0, Go.q1, Go.q2]
     refine Go.FS.wpF_store rfl rfl 8 rfl rfl rfl rfl (fun _ => Iff.rfl) (fun w' hw' => ?_) ?_
     ·have hb' := hw'.world
      have hX := Go.FS.box_of (hw'.fact 8 (by kernel_rfl))
      obtain ⟨c0, c1, c2, c3, hB⟩ := shp4 hX.1
      have m0 := hB.cell (i := 0) rfl
      have m1 := hB.cell (i := 1) rfl
      have m2 := hB.cell (i := 2) rfl
      have m3 := hB.cell (i := 3) rfl
      have mf := hB.fz
      have ml := hB.lt
      refine Go.FS.stores_of ?_ (store4 hb' hX.2 hB (.bool y4.1.t.s) (.slice y4.1.t.a y4.1.t.n y4.1.t.c) (.bool y4.1.l.s) (.slice y4.1.l.a y4.1.l.n y4.1.l.c))
      clear hw'
      go_simp
      try rfl
     conv => arg 10; simp only [Act.put, Go.q0, Go.q1, Go.q2]
     refine Go.FS.wpF_nil (fun w25 hb hF => ?_)
     have BX24 := Lib.hid (show Bxs w25 y8 28 [.bool y4.1.t.s, .slice y4.1.t.a y4.1.t.n y4.1.t.c, .bool y4.1.l.s, .slice y4.1.l.a y4.1.l.n y4.1.l.c] from stored_bxs (hF.all 9))
     clear hF
     have BX1 := Lib.hid (BX1.out.below hb BX1.out.lt)
     have KG := Lib.hid (KG.out.trans (hb.mono KG.out.size))
     clear hb
     clear BX24
     have hex : ¬ (c13 = 0 ∧ c18 = 0) := fun h => HBAD.out ⟨(Hc13.out h.1).1, (Hc18.out h.2).1, (Hc13.out h.1).2⟩
     by_cases hc0 : c13 = 0
     ·have hn1 : (c13 != 0) = false := by simp [hc0]
      have hn2 : (c18 != 0) = true := by
       have : ¬ c18 = 0 := fun h => hex ⟨hc0, h⟩
       simpa using this
      go_wp2_with fail
      go_ret
      exact ⟨rfl, KG.out⟩
     ·have hn1 : (c13 != 0) = true := by simpa using hc0
      go_wp2_with fail
      go_ret
      exact ⟨rfl, KG.out⟩
    obtain ⟨rfl, rfl, rfl⟩ := Decidable.of_not_not hbad
    have K1 := Lib.hid (sa_k S1.out)
    have K2 := Lib.hid (sa_k S2.out)
    obtain ⟨h4, hlq⟩ := la_k LL.out
    have H4 := Lib.hid h4
    have HLl := Lib.hid hlq
    clear hbad h4 hlq
    obtain ⟨q0, hq0⟩ : ∃ q, q = l 0 := ⟨_, rfl⟩
    have Hq0 := Lib.hid hq0
    have KY0 := Lib.hid (show KF w pl0 q0 by rw [hq0]; exact H4.out.k0)
    have LQq0 := Lib.hid (show LQ q0 30 by rw [hq0]; exact HLl.out 0)
    clear hq0
    obtain ⟨q1, hq1⟩ : ∃ q, q = l 1 := ⟨_, rfl⟩
    have Hq1 := Lib.hid hq1
    have KY1 := Lib.hid (show KF w pl1 q1 by rw [hq1]; exact H4.out.k1)
    have LQq1 := Lib.hid (show LQ q1 30 by rw [hq1]; exact HLl.out 1)
    clear hq1
    obtain ⟨q2, hq2⟩ : ∃ q, q = l 2 := ⟨_, rfl⟩
    have Hq2 := Lib.hid hq2
    have KY2 := Lib.hid (show KF w pl2 q2 by rw [hq2]; exact H4.out.k2)
    have LQq2 := Lib.hid (show LQ q2 30 by rw [hq2]; exact HLl.out 2)
    clear hq2
    obtain ⟨q3, hq3⟩ : ∃ q, q = l 3 := ⟨_, rfl⟩
    have Hq3 := Lib.hid hq3
    have KY3 := Lib.hid (show KF w pl3 q3 by rw [hq3]; exact H4.out.k3)
    have LQq3 := Lib.hid (show LQ q3 30 by rw [hq3]; exact HLl.out 3)
    clear hq3
    have cBX1L := load16 BX1.out
    go_wp2_with (refine wpList_load rfl rfl rfl cBX1L ?_)
    obtain ⟨q26, hq26⟩ : ∃ z : Rat, z = ev P1 (atM l) := ⟨_, rfl⟩
    have Hq26 := Lib.hid hq26
    have LQq26 := Lib.hid (show LQ q26 13041 by rw [hq26]; exact PCP1.out.at HLl.out)
    clear hq26
    have CT := Lib.hid (pat (K1.out.below KG.out) PCP1.out (H4.out.below KG.out) HLl.out (by decide) (by decide) (by decide) (by decide))
    rw [show ev P1 (atM l) = q26 from Hq26.out.symm] at CT
    with_reducible refine CT.out.mono ?_
    rintro e w27 ⟨x28, rfl, hN29, hb⟩
    have N29 := Lib.hid hN29
    clear hN29
    clear CT
    clear cBX1L
    have BX1 := Lib.hid (BX1.out.below hb BX1.out.lt)
    have KG := Lib.hid (KG.out.trans (hb.mono KG.out.size))
    clear hb
    go_upto_region 4 with (fail)
    obtain ⟨v31, hV⟩ : ∃ V, V = w27.alloc (.cells #[.bool x28.t.s, .slice x28.t.a x28.t.n x28.t.c, .bool x28.l.s, .slice x28.l.a x28.l.n x28.l.c] 28) := ⟨_, rfl⟩
    have hbV : Below w27.heap.size w27 v31 := by rw [hV]; exact ((Below.refl _ _).alloc (Nat.le_refl _) _)
    have BX30 := Lib.hid (show Bxs v31 (w27.heap.size) 28 [.bool x28.t.s, .slice x28.t.a x28.t.n x28.t.c, .bool x28.l.s, .slice x28.l.a x28.l.n x28.l.c] by have h := Bxs.new (w27) 28 [.bool x28.t.s, .slice x28.t.a x28.t.n x28.t.c, .bool x28.l.s, .slice x28.l.a x28.l.n x28.l.c]; rw [hV]; exact h)
    rw [show w27.alloc (.cells #[.bool x28.t.s, .slice x28.t.a x28.t.n x28.t.c, .bool x28.l.s, .slice x28.l.a x28.l.n x28.l.c] 28) = v31 from hV.symm]
    have N29 := Lib.hid (N29.out.below hbV)
    have BX1 := Lib.hid (BX1.out.below hbV BX1.out.lt)
    have KG := Lib.hid (KG.out.trans (hbV.mono KG.out.size))
    clear hV hbV
    have cBX1L := load16 BX1.out
    go_wp2_with (refine wpList_load rfl rfl rfl cBX1L ?_)
    obtain ⟨q32, hq32⟩ : ∃ z : Rat, z = ev P2 (atM l) := ⟨_, rfl⟩
    have Hq32 := Lib.hid hq32
    have LQq32 := Lib.hid (show LQ q32 13041 by rw [hq32]; exact PCP2.out.at HLl.out)
    clear hq32
    have CT := Lib.hid (pat (K2.out.below KG.out) PCP2.out (H4.out.below KG.out) HLl.out (by decide) (by decide) (by decide) (by decide))
    rw [show ev P2 (atM l) = q32 from Hq32.out.symm] at CT
    with_reducible refine CT.out.mono ?_
    rintro e w33 ⟨x34, rfl, hN35, hb⟩
    have N35 := Lib.hid hN35
    clear hN35
    clear CT
    clear cBX1L
    have N29 := Lib.hid (N29.out.below hb)
    have BX1 := Lib.hid (BX1.out.below hb BX1.out.lt)
    have BX30 := Lib.hid (BX30.out.below hb BX30.out.lt)
    have KG := Lib.hid (KG.out.trans (hb.mono KG.out.size))
    clear hb
    go_upto_region 5 with (fail)
    obtain ⟨v37, hV⟩ : ∃ V, V = w33.alloc (.cells #[.bool x34.t.s, .slice x34.t.a x34.t.n x34.t.c, .bool x34.l.s, .slice x34.l.a x34.l.n x34.l.c] 28) := ⟨_, rfl⟩
    have hbV : Below w33.heap.size w33 v37 := by rw [hV]; exact ((Below.refl _ _).alloc (Nat.le_refl _) _)
    have BX36 := Lib.hid (show Bxs v37 (w33.heap.size) 28 [.bool x34.t.s, .slice x34.t.a x34.t.n x34.t.c, .bool x34.l.s, .slice x34.l.a x34.l.n x34.l.c] by have h := Bxs.new (w33) 28 [.bool x34.t.s, .slice x34.t.a x34.t.n x34.t.c, .bool x34.l.s, .slice x34.l.a x34.l.n x34.l.c]; rw [hV]; exact h)
    rw [show w33.alloc (.cells #[.bool x34.t.s, .slice x34.t.a x34.t.n x34.t.c, .bool x34.l.s, .slice x34.l.a x34.l.n x34.l.c] 28) = v37 from hV.symm]
    have N29 := Lib.hid (N29.out.below hbV)
    have N35 := Lib.hid (N35.out.below hbV)
    have BX1 := Lib.hid (BX1.out.below hbV BX1.out.lt)
    have BX30 := Lib.hid (BX30.out.below hbV BX30.out.lt)
    have KG := Lib.hid (KG.out.trans (hbV.mono KG.out.size))
    clear hV hbV
    obtain ⟨p38, hp38⟩ : ∃ z : List Tm, z = addP P1 P2 := ⟨_, rfl⟩
    have Hp38 := Lib.hid hp38
    have PCp38 := Lib.hid (show PC p38 16 9 12 by rw [hp38]; exact PCP1.out.add PCP2.out 4 12 (by decide) (by decide) (by decide) (by decide))
    clear hp38
    obtain ⟨q39, hq39⟩ : ∃ z : Rat, z = ev p38 (atM l) := ⟨_, rfl⟩
    have Hq39 := Lib.hid hq39
    have LQq39 := Lib.hid (show LQ q39 24718 by rw [hq39]; exact PCp38.out.at HLl.out)
    clear hq39
    go_upto_region 5 with (fail)
    refine Go.FS.wp_region_fresh 10 [(9, 8)] (Go.FS.spOf [(2, Go.FS.Sp.made (fun x : PV => x.v) (fun x w' => DP w' v37.heap.size x p38) (fun _ _ => False)), (4, Go.FS.Sp.made (fun x : FV => .tuple #[x.v, .int .i64 0]) (fun x w' => DF w' v37.heap.size x q39) FV.blk), (8, Go.FS.Sp.box 28 4 v37.heap.size)])
     (fun w' => Below v37.heap.size v37 w') (by kernel_rfl) (by kernel_rfl) (by kernel_rfl)
     (Go.FS.spOf_cons (Go.FS.Sp.made_keepsR _ rowT (fun _ _ _ h hs => h.rows hs) (by kernel_rfl) (Go.FS.notTaken (by kernel_rfl))) (Go.FS.spOf_cons (Go.FS.Sp.made_keeps _ (fun _ _ _ h _ hk => h.kept hk) (Go.FS.notTaken (by kernel_rfl))) (Go.FS.spOf_cons (Go.FS.Sp.box_keeps _ _ _ _) (Go.FS.spOf_nil)))) (fun _ _ h hb => h.trans (hb.mono h.size)) ((Below.refl _ _).drew) ?_
    simp only [List.append_eq, List.cons_append, List.nil_append, List.take_succ_cons, List.take_zero, List.drop_succ_cons, List.drop_zero]
    iterate 2
     refine Go.FS.wpF_reads rfl rfl rfl ?_ (fun w' hw' => ?_) ?_
     rotate_left
     ·have hb' := hw'.world
      skip
      clear hw'
      go_simp
      try rfl
     conv => arg 10; simp only [Act.put, Go.q0, Go.q1, Go.q2]
    refine Go.FS.wpF_spec rfl rfl rfl (fun w' hw' => ?_) ?_
    ·have hb' := hw'.world
     refine Go.FS.gives_of (Go.FS.PM (fun x : PV => x.v) (fun x w' => DP w' v37.heap.size x p38) (fun _ _ => False) w'.heap.size) ?_ (fun _ _ h => h.post (fun _ _ => PV.inj))
     go_simp
     have CT := padd (K1.out.below (KG.out.trans (hb'.mono KG.out.size))) PCP1.out (K2.out.below (KG.out.trans (hb'.mono KG.out.size))) PCP2.out 4 (by decide) (by decide) (by decide) (by decide)
     rw [show addP P1 P2 = p38 from Hp38.out.symm] at CT
     refine CT.mono ?_
     rintro e w'' ⟨za, rfl, ho, hb⟩
     exact ⟨_, rfl, ⟨za, rfl, ho.mono hb'.size, fun _ h => False.elim h⟩, hb⟩
    rintro _ ⟨y2, rfl⟩
    conv => arg 10; simp only [Act.put, Go.q0, Go.q1, Go.q2]
    refine Go.FS.wpF_reads rfl rfl rfl (.agg #[.bool pl0.t.s, .slice pl0.t.a pl0.t.n pl0.t.c, .bool pl0.l.s, .slice pl0.l.a pl0.l.n pl0.l.c, .bool pl1.t.s, .slice pl1.t.a pl1.t.n pl1.t.c, .bool pl1.l.s, .slice pl1.l.a pl1.l.n pl1.l.c, .bool pl2.t.s, .slice pl2.t.a pl2.t.n pl2.t.c, .bool pl2.l.s, .slice pl2.l.a pl2.l.n pl2.l.c, .bool pl3.t.s, .slice pl3.t.a pl3.t.n pl3.t.c, .bool pl3.l.s, .slice pl3.l.a pl3.l.n pl3.l.c]) (fun w' hw' => ?_) ?_
    ·have hb' := hw'.world
     exact reads_load (p := .pointer (some ⟨w.heap.size, 0, none⟩)) rfl rfl (load16 (BX1.out.below hb' BX1.out.lt))
    conv => arg 10; simp only [Act.put, Go.q0, Go.q1, Go.q2]
    refine Go.FS.wpF_spec rfl rfl rfl (fun w' hw' => ?_) ?_
    ·have hb' := hw'.world
     refine Go.FS.gives_of (Go.FS.PM (fun x : FV => .tuple #[x.v, .int .i64 0]) (fun x w' => DF w' v37.heap.size x q39) FV.blk w'.heap.size) ?_ (fun _ _ h => h.post (FV.injE 0))
     go_simp
     have f2 := Go.FS.made_of (val := (fun x : PV => x.v)) (Φ := fun x w' => DP w' v37.heap.size x p38) (fun _ _ => PV.inj) (hw'.fact 2 (by kernel_rfl))
     have CT := pat f2.k PCp38.out (H4.out.below (KG.out.trans (hb'.mono KG.out.size))) HLl.out (by decide) (by decide) (by decide) (by decide)
     rw [show ev p38 (atM l) = q39 from Hq39.out.symm] at CT
     refine CT.mono ?_
     rintro e w'' ⟨za, rfl, ho, hb⟩
     exact ⟨_, rfl, ⟨za, rfl, ho.mono hb'.size, ho.blks⟩, hb⟩
    rintro _ ⟨y4, rfl⟩
    conv => arg 10; simp only [Act.put, Go.q0, Go.q1, Go.q2]
    iterate 3
     refine Go.FS.wpF_reads rfl rfl rfl ?_ (fun w' hw' => ?_) ?_
     rotate_left
     ·have hb' := hw'.world
      skip
      clear hw'
      go_simp
      try rfl
     conv => arg 10; simp only [Act.put, Go.q0, Go.q1, Go.q2]
    refine Go.FS.wpF_spec rfl rfl rfl (fun w' hw' => ?_) ?_
    ·have hb' := hw'.world
     refine Go.FS.gives_of (Go.FS.PB 28 4 v37.heap.size w'.heap.size) ?_ (fun _ _ h => h.post)
     go_simp
     exact ⟨Go.FS.PB.new _ rfl hb'.size, (Below.refl _ _).alloc (Nat.le_refl _) _⟩
    rintro _ ⟨y8, rfl⟩
    conv => arg 10; simp only [Act.put, Go.q0, Go.q1, Go.q2]
    refine Go.FS.wpF_store rfl rfl 8 rfl rfl rfl rfl (fun _ => Iff.rfl) (fun w' hw' => ?_) ?_
    ·have hb' := hw'.world
     have hX := Go.FS.box_of (hw'.fact 8 (by kernel_rfl))
     obtain ⟨c0, c1, c2, c3, hB⟩ := shp4 hX.1
     have m0 := hB.cell (i := 0) rfl
     have m1 := hB.cell (i := 1) rfl
     have m2 := hB.cell (i := 2) rfl
     have m3 := hB.cell (i := 3) rfl
     have mf := hB.fz
     have ml := hB.lt
     refine Go.FS.stores_of ?_ (store4 hb' hX.2 hB (.bool y4.t.s) (.slice y4.t.a y4.t.n y4.t.c) (.bool y4.l.s) (.slice y4.l.a y4.l.n y4.l.c))
     clear hw'
     go_simp
     try rfl
    conv => arg 10; simp only [Act.put, Go.q0, Go.q1, Go.q2]
    refine Go.FS.wpF_nil (fun w41 hb hF => ?_)
    have BX40 := Lib.hid (show Bxs w41 y8 28 [.bool y4.t.s, .slice y4.t.a y4.t.n y4.t.c, .bool y4.l.s, .slice y4.l.a y4.l.n y4.l.c] from stored_bxs (hF.all 9))
    have N42 := Lib.hid (show DF w41 v37.heap.size y4 q39 from (Go.FS.made_of (val := (fun x : FV => .tuple #[x.v, .int .i64 0])) (Φ := fun x w' => DF w' v37.heap.size x q39) (FV.injE 0) (hF.all 4)))
    clear hF
    have N29 := Lib.hid (N29.out.below hb)
    have N35 := Lib.hid (N35.out.below hb)
    have BX1 := Lib.hid (BX1.out.below hb BX1.out.lt)
    have BX30 := Lib.hid (BX30.out.below hb BX30.out.lt)
    have BX36 := Lib.hid (BX36.out.below hb BX36.out.lt)
    have KG := Lib.hid (KG.out.trans (hb.mono KG.out.size))
    clear hb
    obtain ⟨p43, hp43⟩ : ∃ z : List Tm, z = mulP P1 P2 := ⟨_, rfl⟩
    have Hp43 := Lib.hid hp43
    have PCp43 := Lib.hid (show PC p43 64 72 24 by rw [hp43]; exact PCP1.out.mul PCP2.out)
    clear hp43
    obtain ⟨q44, hq44⟩ : ∃ z : Rat, z = ev p43 (atM l) := ⟨_, rfl⟩
    have Hq44 := Lib.hid hq44
    have LQq44 := Lib.hid (show LQ q44 192205 by rw [hq44]; exact PCp43.out.at HLl.out)
    clear hq44
    go_upto_region 6 with (fail)
    refine Go.FS.wp_region_fresh 10 [(9, 8)] (Go.FS.spOf [(2, Go.FS.Sp.made (fun x : PV => x.v) (fun x w' => DP w' w41.heap.size x p43) (fun _ _ => False)), (4, Go.FS.Sp.made (fun x : FV => .tuple #[x.v, .int .i64 0]) (fun x w' => DF w' w41.heap.size x q44) FV.blk), (8, Go.FS.Sp.box 28 4 w41.heap.size)])
     (fun w' => Below w41.heap.size w41 w') (by kernel_rfl) (by kernel_rfl) (by kernel_rfl)
     (Go.FS.spOf_cons (Go.FS.Sp.made_keepsR _ rowT (fun _ _ _ h hs => h.rows hs) (by kernel_rfl) (Go.FS.notTaken (by kernel_rfl))) (Go.FS.spOf_cons (Go.FS.Sp.made_keeps _ (fun _ _ _ h _ hk => h.kept hk) (Go.FS.notTaken (by kernel_rfl))) (Go.FS.spOf_cons (Go.FS.Sp.box_keeps _ _ _ _) (Go.FS.spOf_nil)))) (fun _ _ h hb => h.trans (hb.mono h.size)) ((Below.refl _ _).drew) ?_
    simp only [List.append_eq, List.cons_append, List.nil_append, List.take_succ_cons, List.take_zero, List.drop_succ_cons, List.drop_zero]
    iterate 2
     refine Go.FS.wpF_reads rfl rfl rfl ?_ (fun w' hw' => ?_) ?_
     rotate_left
     ·have hb' := hw'.world
      skip
      clear hw'
      go_simp
      try rfl
     conv => arg 10; simp only [Act.put, Go.q0, Go.q1, Go.q2]
    refine Go.FS.wpF_spec rfl rfl rfl (fun w' hw' => ?_) ?_
    ·have hb' := hw'.world
     refine Go.FS.gives_of (Go.FS.PM (fun x : PV => x.v) (fun x w' => DP w' w41.heap.size x p43) (fun _ _ => False) w'.heap.size) ?_ (fun _ _ h => h.post (fun _ _ => PV.inj))
     go_simp
     have CT := plmul (K1.out.below (KG.out.trans (hb'.mono KG.out.size))) PCP1.out (K2.out.below (KG.out.trans (hb'.mono KG.out.size))) PCP2.out (by decide) (by decide) (by decide) (by decide) (by decide) (by decide) (by decide)
     rw [show mulP P1 P2 = p43 from Hp43.out.symm] at CT
     refine CT.mono ?_
     rintro e w'' ⟨za, rfl, ho, hb⟩
     exact ⟨_, rfl, ⟨za, rfl, ho.mono hb'.size, fun _ h => False.elim h⟩, hb⟩
    rintro _ ⟨y2, rfl⟩
    conv => arg 10; simp only [Act.put, Go.q0, Go.q1, Go.q2]
    refine Go.FS.wpF_reads rfl rfl rfl (.agg #[.bool pl0.t.s, .slice pl0.t.a pl0.t.n pl0.t.c, .bool pl0.l.s, .slice pl0.l.a pl0.l.n pl0.l.c, .bool pl1.t.s, .slice pl1.t.a pl1.t.n pl1.t.c, .bool pl1.l.s, .slice pl1.l.a pl1.l.n pl1.l.c, .bool pl2.t.s, .slice pl2.t.a pl2.t.n pl2.t.c, .bool pl2.l.s, .slice pl2.l.a pl2.l.n pl2.l.c, .bool pl3.t.s, .slice pl3.t.a pl3.t.n pl3.t.c, .bool pl3.l.s, .slice pl3.l.a pl3.l.n pl3.l.c]) (fun w' hw' => ?_) ?_
    ·have hb' := hw'.world
     exact reads_load (p := .pointer (some ⟨w.heap.size, 0, none⟩)) rfl rfl (load16 (BX1.out.below hb' BX1.out.lt))
    conv => arg 10; simp only [Act.put, Go.q0, Go.q1, Go.q2]
    refine Go.FS.wpF_spec rfl rfl rfl (fun w' hw' => ?_) ?_
    ·have hb' := hw'.world
     refine Go.FS.gives_of (Go.FS.PM (fun x : FV => .tuple #[x.v, .int .i64 0]) (fun x w' => DF w' w41.heap.size x q44) FV.blk w'.heap.size) ?_ (fun _ _ h => h.post (FV.injE 0))
     go_simp
     have f2 := Go.FS.made_of (val := (fun x : PV => x.v)) (Φ := fun x w' => DP w' w41.heap.size x p43) (fun _ _ => PV.inj) (hw'.fact 2 (by kernel_rfl))
     have CT := pat f2.k PCp43.out (H4.out.below (KG.out.trans (hb'.mono KG.out.size))) HLl.out (by decide) (by decide) (by decide) (by decide)
     rw [show ev p43 (atM l) = q44 from Hq44.out.symm] at CT
     refine CT.mono ?_
     rintro e w'' ⟨za, rfl, ho, hb⟩
     exact ⟨_, rfl, ⟨za, rfl, ho.mono hb'.size, ho.blks⟩, hb⟩
    rintro _ ⟨y4, rfl⟩
    conv => arg 10; simp only [Act.put, Go.q0, Go.q1, Go.q2]
    iterate 3
     refine Go.FS.wpF_reads rfl rfl rfl ?_ (fun w' hw' => ?_) ?_
     rotate_left
     ·have hb' := hw'.world
      skip
      clear hw'
      go_simp
      try rfl
     conv => arg 10; simp only [Act.put, Go.q0, Go.q1, Go.q2]
    refine Go.FS.wpF_spec rfl rfl rfl (fun w' hw' => ?_) ?_
    ·have hb' := hw'.world
     refine Go.FS.gives_of (Go.FS.PB 28 4 w41.heap.size w'.heap.size) ?_ (fun _ _ h => h.post)
     go_simp
     exact ⟨Go.FS.PB.new _ rfl hb'.size, (Below.refl _ _).alloc (Nat.le_refl _) _⟩
    rintro _ ⟨y8, rfl⟩
    conv => arg 10; simp only [Act.put, Go.q0, Go.q1, Go.q2]
    refine Go.FS.wpF_store rfl rfl 8 rfl rfl rfl rfl (fun _ => Iff.rfl) (fun w' hw' => ?_) ?_
    ·have hb' := hw'.world
     have hX := Go.FS.box_of (hw'.fact 8 (by kernel_rfl))
     obtain ⟨c0, c1, c2, c3, hB⟩ := shp4 hX.1
     have m0 := hB.cell (i := 0) rfl
     have m1 := hB.cell (i := 1) rfl
     have m2 := hB.cell (i := 2) rfl
     have m3 := hB.cell (i := 3) rfl
     have mf := hB.fz
     have ml := hB.lt
     refine Go.FS.stores_of ?_ (store4 hb' hX.2 hB (.bool y4.t.s) (.slice y4.t.a y4.t.n y4.t.c) (.bool y4.l.s) (.slice y4.l.a y4.l.n y4.l.c))
     clear hw'
     go_simp
     try rfl
    conv => arg 10; simp only [Act.put, Go.q0, Go.q1, Go.q2]
    refine Go.FS.wpF_nil (fun w46 hb hF => ?_)
    have BX45 := Lib.hid (show Bxs w46 y8 28 [.bool y4.t.s, .slice y4.t.a y4.t.n y4.t.c, .bool y4.l.s, .slice y4.l.a y4.l.n y4.l.c] from stored_bxs (hF.all 9))
    have N47 := Lib.hid (show DF w46 w41.heap.size y4 q44 from (Go.FS.made_of (val := (fun x : FV => .tuple #[x.v, .int .i64 0])) (Φ := fun x w' => DF w' w41.heap.size x q44) (FV.injE 0) (hF.all 4)))
    clear hF
    have N29 := Lib.hid (N29.out.below hb)
    have N35 := Lib.hid (N35.out.below hb)
    have N42 := Lib.hid (N42.out.below hb)
    have BX1 := Lib.hid (BX1.out.below hb BX1.out.lt)
    have BX30 := Lib.hid (BX30.out.below hb BX30.out.lt)
    have BX36 := Lib.hid (BX36.out.below hb BX36.out.lt)
    have BX40 := Lib.hid (BX40.out.below hb BX40.out.lt)
    have KG := Lib.hid (KG.out.trans (hb.mono KG.out.size))
    clear hb
    go_wp2_with fail
    go_loopw [15] (fun i wr => ∃ j : Nat, j ≤ 4 ∧ i = .int .i64 j ∧ Below w46.heap.size w46 wr) (fun i _ => 4 - (intOf i).toNat)
    case atStart => exact ⟨0, by decide, rfl, Below.refl _ _⟩
    case round =>
     obtain ⟨j, hj, rfl, hb0⟩ := hrel
     have HB := Lib.hid hb0
     have HJ := Lib.hid hj
     clear hj hb0
     by_cases hjn : j < 4
     ·have HJN := Lib.hid hjn
      have h1 : (j : Int) < 4 := by omega
      have ej : IntKind.i64.wrap ((j : Int) + 1) = (j : Int) + 1 := IntWalk.i64_in _ (by omega)
      obtain ⟨yj, hyj⟩ : ∃ y, y = sel4 pl0 pl1 pl2 pl3 j := ⟨_, rfl⟩
      obtain ⟨qj, hqj⟩ : ∃ q, q = l j := ⟨_, rfl⟩
      have Hqj := Lib.hid hqj
      have KYJ := Lib.hid (show KF w yj qj by rw [hyj, hqj]; exact sel4_k H4.out HJN.out)
      have LQqj := Lib.hid (show LQ qj 30 by rw [hqj]; exact HLl.out j)
      have SELC := Lib.hid (show ∀ k v, [.bool yj.t.s, .slice yj.t.a yj.t.n yj.t.c, .bool yj.l.s, .slice yj.l.a yj.l.n yj.l.c][k]? = some v → ([.bool pl0.t.s, .slice pl0.t.a pl0.t.n pl0.t.c, .bool pl0.l.s, .slice pl0.l.a pl0.l.n pl0.l.c, .bool pl1.t.s, .slice pl1.t.a pl1.t.n pl1.t.c, .bool pl1.l.s, .slice pl1.l.a pl1.l.n pl1.l.c, .bool pl2.t.s, .slice pl2.t.a pl2.t.n pl2.t.c, .bool pl2.l.s, .slice pl2.l.a pl2.l.n pl2.l.c, .bool pl3.t.s, .slice pl3.t.a pl3.t.n pl3.t.c, .bool pl3.l.s, .slice pl3.l.a pl3.l.n pl3.l.c] : List Value)[j * 4 + k]? = some v from by rw [hyj]; exact fun k v hk => sel4_c pl0 pl1 pl2 pl3 HJN.out hk)
      clear hjn hyj hqj
      have N29 := Lib.hid (N29.out.below HB.out)
      have N35 := Lib.hid (N35.out.below HB.out)
      have N42 := Lib.hid (N42.out.below HB.out)
      have N47 := Lib.hid (N47.out.below HB.out)
      have BX1 := Lib.hid (BX1.out.below HB.out BX1.out.lt)
      have BX30 := Lib.hid (BX30.out.below HB.out BX30.out.lt)
      have BX36 := Lib.hid (BX36.out.below HB.out BX36.out.lt)
      have BX40 := Lib.hid (BX40.out.below HB.out BX40.out.lt)
      have BX45 := Lib.hid (BX45.out.below HB.out BX45.out.lt)
      have KG := Lib.hid (KG.out.trans (HB.out.mono KG.out.size))
      have BWL := Lib.hid (show Bw w46 wr from ⟨HB.out⟩)
      have HJ1 := Lib.hid h1
      obtain ⟨p48, hp48⟩ : ∃ z : List Tm, z = letP j := ⟨_, rfl⟩
      have Hp48 := Lib.hid hp48
      have PCp48 := Lib.hid (show PC p48 1 3 1 by rw [hp48]; exact PC.letter j)
      clear hp48
      obtain ⟨q49, hq49⟩ : ∃ z : Rat, z = ev p48 (atM l) := ⟨_, rfl⟩
      have Hq49 := Lib.hid hq49
      have LQq49 := Lib.hid (show LQ q49 256 by rw [hq49]; exact PCp48.out.at HLl.out)
      clear hq49
      go_upto_region 12 with (fail)
      refine Go.FS.wp_region_fresh 9 [(8, 7)] (Go.FS.spOf [(1, Go.FS.Sp.made (fun x : PV => x.v) (fun x w' => DP w' wr.heap.size x p48) (fun _ _ => False)), (3, Go.FS.Sp.made (fun x : FV => .tuple #[x.v, .int .i64 0]) (fun x w' => DF w' wr.heap.size x q49) FV.blk), (7, Go.FS.Sp.box 28 4 wr.heap.size)])
       (fun w' => Below wr.heap.size wr w') (by kernel_rfl) (by kernel_rfl) (by kernel_rfl)
       (Go.FS.spOf_cons (Go.FS.Sp.made_keepsR _ rowT (fun _ _ _ h hs => h.rows hs) (by kernel_rfl) (Go.FS.notTaken (by kernel_rfl))) (Go.FS.spOf_cons (Go.FS.Sp.made_keeps _ (fun _ _ _ h _ hk => h.kept hk) (Go.FS.notTaken (by kernel_rfl))) (Go.FS.spOf_cons (Go.FS.Sp.box_keeps _ _ _ _) (Go.FS.spOf_nil)))) (fun _ _ h hb => h.trans (hb.mono h.size)) ((Below.refl _ _).drew) ?_
      simp only [List.append_eq, List.cons_append, List.nil_append, List.take_succ_cons, List.take_zero, List.drop_succ_cons, List.drop_zero]
      refine Go.FS.wpF_reads rfl rfl rfl ?_ (fun w' hw' => ?_) ?_
      rotate_left
      ·have hb' := hw'.world
       skip
       clear hw'
       go_simp
       try rfl
      conv => arg 10; simp only [Act.put, Go.q0, Go.q1, Go.q2]
      refine Go.FS.wpF_spec rfl rfl rfl (fun w' hw' => ?_) ?_
      ·have hb' := hw'.world
       refine Go.FS.gives_of (Go.FS.PM (fun x : PV => x.v) (fun x w' => DP w' wr.heap.size x p48) (fun _ _ => False) w'.heap.size) ?_ (fun _ _ h => h.post (fun _ _ => PV.inj))
       go_simp
       have CT := llet_k j HJN.out w'
       rw [show letP j = p48 from Hp48.out.symm] at CT
       refine CT.mono ?_
       rintro e w'' ⟨za, rfl, ho, hb⟩
       exact ⟨_, rfl, ⟨za, rfl, ho.mono hb'.size, fun _ h => False.elim h⟩, hb⟩
      rintro _ ⟨y1, rfl⟩
      conv => arg 10; simp only [Act.put, Go.q0, Go.q1, Go.q2]
      refine Go.FS.wpF_reads rfl rfl rfl (.agg #[.bool pl0.t.s, .slice pl0.t.a pl0.t.n pl0.t.c, .bool pl0.l.s, .slice pl0.l.a pl0.l.n pl0.l.c, .bool pl1.t.s, .slice pl1.t.a pl1.t.n pl1.t.c, .bool pl1.l.s, .slice pl1.l.a pl1.l.n pl1.l.c, .bool pl2.t.s, .slice pl2.t.a pl2.t.n pl2.t.c, .bool pl2.l.s, .slice pl2.l.a pl2.l.n pl2.l.c, .bool pl3.t.s, .slice pl3.t.a pl3.t.n pl3.t.c, .bool pl3.l.s, .slice pl3.l.a pl3.l.n pl3.l.c]) (fun w' hw' => ?_) ?_
      ·have hb' := hw'.world
       exact reads_load (p := .pointer (some ⟨w.heap.size, 0, none⟩)) rfl rfl (load16 (BX1.out.below hb' BX1.out.lt))
      conv => arg 10; simp only [Act.put, Go.q0, Go.q1, Go.q2]
      refine Go.FS.wpF_spec rfl rfl rfl (fun w' hw' => ?_) ?_
      ·have hb' := hw'.world
       refine Go.FS.gives_of (Go.FS.PM (fun x : FV => .tuple #[x.v, .int .i64 0]) (fun x w' => DF w' wr.heap.size x q49) FV.blk w'.heap.size) ?_ (fun _ _ h => h.post (FV.injE 0))
       go_simp
       have f1 := Go.FS.made_of (val := (fun x : PV => x.v)) (Φ := fun x w' => DP w' wr.heap.size x p48) (fun _ _ => PV.inj) (hw'.fact 1 (by kernel_rfl))
       have CT := pat f1.k PCp48.out (H4.out.below (KG.out.trans (hb'.mono KG.out.size))) HLl.out (by decide) (by decide) (by decide) (by decide)
       rw [show ev p48 (atM l) = q49 from Hq49.out.symm] at CT
       refine CT.mono ?_
       rintro e w'' ⟨za, rfl, ho, hb⟩
       exact ⟨_, rfl, ⟨za, rfl, ho.mono hb'.size, ho.blks⟩, hb⟩
      rintro _ ⟨y3, rfl⟩
      conv => arg 10; simp only [Act.put, Go.q0, Go.q1, Go.q2]
      iterate 3
       refine Go.FS.wpF_reads rfl rfl rfl ?_ (fun w' hw' => ?_) ?_
       rotate_left
       ·have hb' := hw'.world
        skip
        clear hw'
        go_simp
        try rfl
       conv => arg 10; simp only [Act.put, Go.q0, Go.q1, Go.q2]
      refine Go.FS.wpF_spec rfl rfl rfl (fun w' hw' => ?_) ?_
      ·have hb' := hw'.world
       refine Go.FS.gives_of (Go.FS.PB 28 4 wr.heap.size w'.heap.size) ?_ (fun _ _ h => h.post)
       go_simp
       exact ⟨Go.FS.PB.new _ rfl hb'.size, (Below.refl _ _).alloc (Nat.le_refl _) _⟩
      rintro _ ⟨y7, rfl⟩
      conv => arg 10; simp only [Act.put, Go.q0, Go.q1, Go.q2]
      refine Go.FS.wpF_store rfl rfl 7 rfl rfl rfl rfl (fun _ => Iff.rfl) (fun w' hw' => ?_) ?_
      ·have hb' := hw'.world
       have hX := Go.FS.box_of (hw'.fact 7 (by kernel_rfl))
       obtain ⟨c0, c1, c2, c3, hB⟩ := shp4 hX.1
       have m0 := hB.cell (i := 0) rfl
       have m1 := hB.cell (i := 1) rfl
       have m2 := hB.cell (i := 2) rfl
       have m3 := hB.cell (i := 3) rfl
       have mf := hB.fz
       have ml := hB.lt
       refine Go.FS.stores_of ?_ (store4 hb' hX.2 hB (.bool y3.t.s) (.slice y3.t.a y3.t.n y3.t.c) (.bool y3.l.s) (.slice y3.l.a y3.l.n y3.l.c))
       clear hw'
       go_simp
       try rfl
      conv => arg 10; simp only [Act.put, Go.q0, Go.q1, Go.q2]
      refine Go.FS.wpF_nil (fun w51 hb hF => ?_)
      have BX50 := Lib.hid (show Bxs w51 y7 28 [.bool y3.t.s, .slice y3.t.a y3.t.n y3.t.c, .bool y3.l.s, .slice y3.l.a y3.l.n y3.l.c] from stored_bxs (hF.all 8))
      have N52 := Lib.hid (show DF w51 wr.heap.size y3 q49 from (Go.FS.made_of (val := (fun x : FV => .tuple #[x.v, .int .i64 0])) (Φ := fun x w' => DF w' wr.heap.size x q49) (FV.injE 0) (hF.all 3)))
      clear hF
      have N29 := Lib.hid (N29.out.below hb)
      have N35 := Lib.hid (N35.out.below hb)
      have N42 := Lib.hid (N42.out.below hb)
      have N47 := Lib.hid (N47.out.below hb)
      have BWL := Lib.hid (BWL.out.below hb)
      have BX1 := Lib.hid (BX1.out.below hb BX1.out.lt)
      have BX30 := Lib.hid (BX30.out.below hb BX30.out.lt)
      have BX36 := Lib.hid (BX36.out.below hb BX36.out.lt)
      have BX40 := Lib.hid (BX40.out.below hb BX40.out.lt)
      have BX45 := Lib.hid (BX45.out.below hb BX45.out.lt)
      have KG := Lib.hid (KG.out.trans (hb.mono KG.out.size))
      clear hb
      go_upto_region 13 with (fail)
      refine Go.FS.wp_region_fresh 9 [] (Go.FS.spOf [(7, Go.FS.Sp.know (.bool true))])
       (fun w' => Below w51.heap.size w51 w') (by kernel_rfl) (by kernel_rfl) (by kernel_rfl)
       (Go.FS.spOf_cons (Go.FS.Sp.know_keeps _ _) (Go.FS.spOf_nil)) (fun _ _ h hb => h.trans (hb.mono h.size)) ((Below.refl _ _).drew) ?_
      simp only [List.append_eq, List.cons_append, List.nil_append, List.take_succ_cons, List.take_zero, List.drop_succ_cons, List.drop_zero]
      iterate 3
       refine Go.FS.wpF_reads rfl rfl rfl ?_ (fun w' hw' => ?_) ?_
       rotate_left
       ·have hb' := hw'.world
        skip
        clear hw'
        go_simp
        try rfl
       conv => arg 10; simp only [Act.put, Go.q0, Go.q1, Go.q2]
      refine Go.FS.wpF_readsG (by rfl) rfl rfl ?_ (fun w' hw' => ?_) ?_
      rotate_left
      ·have hb' := hw'.world
       have hs0 := (BX50.out.below hb' BX50.out.lt).cell (i := 0) rfl
       have hs1 := (BX50.out.below hb' BX50.out.lt).cell (i := 1) rfl
       have hs2 := (BX50.out.below hb' BX50.out.lt).cell (i := 2) rfl
       have hs3 := (BX50.out.below hb' BX50.out.lt).cell (i := 3) rfl
       have hsf := (BX50.out.below hb' BX50.out.lt).fz
       have hsl := (BX50.out.below hb' BX50.out.lt).lt
       clear hw'
       go_simp
       try rfl
      conv => arg 10; simp only [Act.put, Go.q0, Go.q1, Go.q2]
      refine Go.FS.wpF_readsG (by rfl) rfl rfl ?_ (fun w' hw' => ?_) ?_
      rotate_left
      ·have hb' := hw'.world
       skip
       clear hw'
       go_simp
       try rfl
      conv => arg 10; simp only [Act.put, Go.q0, Go.q1, Go.q2]
      refine Go.FS.wpF_readsG (by rfl) rfl rfl ?_ (fun w' hw' => ?_) ?_
      rotate_left
      ·have hb' := hw'.world
       have hj1 := HJ1.out
       clear hw'
       go_simp
       try rfl
      conv => arg 10; simp only [Act.put, Go.q0, Go.q1, Go.q2]
      refine Go.FS.wpF_readsG (by rfl) rfl rfl ?_ (fun w' hw' => ?_) ?_
      rotate_left
      ·have hb' := hw'.world
       have hs0 := (BX1.out.below hb' BX1.out.lt).cell (i := j * 4) (SELC.out 0 _ rfl)
       have hs1 := (BX1.out.below hb' BX1.out.lt).cell (i := j * 4 + 1) (SELC.out 1 _ rfl)
       have hs2 := (BX1.out.below hb' BX1.out.lt).cell (i := j * 4 + 2) (SELC.out 2 _ rfl)
       have hs3 := (BX1.out.below hb' BX1.out.lt).cell (i := j * 4 + 3) (SELC.out 3 _ rfl)
       clear hw'
       go_simp
       try rfl
      conv => arg 10; simp only [Act.put, Go.q0, Go.q1, Go.q2]
      refine Go.FS.wpF_gspec (by rfl) rfl rfl (fun w' hw' => ?_) ?_
      ·have hb' := hw'.world
       refine Go.FS.gives_of (Go.FS.PK (.bool true)) ?_ (fun _ _ h => h.post)
       go_simp
       have CT := qsameFr ((N52.out.below hb')).k ((((N52.out.below hb')).k).len LQq49.out (by decide : _ ≤ 900000)) (KYJ.out.below (KG.out.trans (hb'.mono KG.out.size))) (((KYJ.out.below (KG.out.trans (hb'.mono KG.out.size)))).len LQqj.out (by decide : _ ≤ 900000)) (by simp only [Hq49.out, Hp48.out, Hq44.out, Hp43.out, Hq39.out, Hp38.out, Hq32.out, Hq26.out]; rw [ev_letP l HJN.out]; exact Hqj.out.symm)
       refine CT.mono ?_
       rintro e w'' ⟨rfl, hb⟩
       exact ⟨_, rfl, rfl, hb⟩
      rintro _ rfl
      conv => arg 10; simp only [Act.put, Go.q0, Go.q1, Go.q2]
      refine Go.FS.wpF_readsG (by rfl) rfl rfl ?_ (fun w' hw' => ?_) ?_
      rotate_left
      ·have hb' := hw'.world
       skip
       clear hw'
       go_simp
       try rfl
      conv => arg 10; simp only [Act.put, Go.q0, Go.q1, Go.q2]
      refine Go.FS.wpF_nil (fun w53 hb hF => ?_)
      clear hF
      clear N29
      clear N35
      clear N42
      clear N47
      have BWL := Lib.hid (BWL.out.below hb)
      clear N52
      clear BX1
      clear BX30
      clear BX36
      clear BX40
      clear BX45
      clear BX50
      have KG := Lib.hid (KG.out.trans (hb.mono KG.out.size))
      clear hb
      go_wp2_with fail
      go_roundw
      case rel => exact ⟨j + 1, by have := HJN.out; omega, rfl, BWL.out.b⟩
      case measure => simp [intOf]; have := HJN.out; omega
     ·have hge : ¬ ((j : Int) < 4) := by omega
      clear hjn
      have N29 := Lib.hid (N29.out.below HB.out)
      have N35 := Lib.hid (N35.out.below HB.out)
      have N42 := Lib.hid (N42.out.below HB.out)
      have N47 := Lib.hid (N47.out.below HB.out)
      have BX1 := Lib.hid (BX1.out.below HB.out BX1.out.lt)
      have BX30 := Lib.hid (BX30.out.below HB.out BX30.out.lt)
      have BX36 := Lib.hid (BX36.out.below HB.out BX36.out.lt)
      have BX40 := Lib.hid (BX40.out.below HB.out BX40.out.lt)
      have BX45 := Lib.hid (BX45.out.below HB.out BX45.out.lt)
      have KG := Lib.hid (KG.out.trans (HB.out.mono KG.out.size))
      obtain ⟨p54, hp54⟩ : ∃ z : List Tm, z = nf [(Mo.one, q0)] := ⟨_, rfl⟩
      have Hp54 := Lib.hid hp54
      have PCp54 := Lib.hid (show PC p54 1 31 0 by rw [hp54]; exact PC.of LQq0.out)
      clear hp54
      obtain ⟨q55, hq55⟩ : ∃ z : Rat, z = ev p54 (atM l) := ⟨_, rfl⟩
      have Hq55 := Lib.hid hq55
      have LQq55 := Lib.hid (show LQ q55 72 by rw [hq55]; exact PCp54.out.at HLl.out)
      clear hq55
      go_upto_region 15 with (fail)
      refine Go.FS.wp_region_fresh 10 [(9, 8)] (Go.FS.spOf [(2, Go.FS.Sp.made (fun x : PV => x.v) (fun x w' => DP w' wr.heap.size x p54) (fun _ _ => False)), (4, Go.FS.Sp.made (fun x : FV => .tuple #[x.v, .int .i64 0]) (fun x w' => DF w' wr.heap.size x q55) FV.blk), (8, Go.FS.Sp.box 28 4 wr.heap.size)])
       (fun w' => Below wr.heap.size wr w') (by kernel_rfl) (by kernel_rfl) (by kernel_rfl)
       (Go.FS.spOf_cons (Go.FS.Sp.made_keepsR _ rowT (fun _ _ _ h hs => h.rows hs) (by kernel_rfl) (Go.FS.notTaken (by kernel_rfl))) (Go.FS.spOf_cons (Go.FS.Sp.made_keeps _ (fun _ _ _ h _ hk => h.kept hk) (Go.FS.notTaken (by kernel_rfl))) (Go.FS.spOf_cons (Go.FS.Sp.box_keeps _ _ _ _) (Go.FS.spOf_nil)))) (fun _ _ h hb => h.trans (hb.mono h.size)) ((Below.refl _ _).drew) ?_
      simp only [List.append_eq, List.cons_append, List.nil_append, List.take_succ_cons, List.take_zero, List.drop_succ_cons, List.drop_zero]
      refine Go.FS.wpF_reads rfl rfl rfl ?_ (fun w' hw' => ?_) ?_
      rotate_left
      ·have hb' := hw'.world
       skip
       clear hw'
       go_simp
       try rfl
      conv => arg 10; simp only [Act.put, Go.q0, Go.q1, Go.q2]
      refine Go.FS.wpF_reads rfl rfl rfl ?_ (fun w' hw' => ?_) ?_
      rotate_left
      ·have hb' := hw'.world
       have hs0 := (BX1.out.below hb' BX1.out.lt).cell (i := 0) rfl
       have hs1 := (BX1.out.below hb' BX1.out.lt).cell (i := 1) rfl
       have hs2 := (BX1.out.below hb' BX1.out.lt).cell (i := 2) rfl
       have hs3 := (BX1.out.below hb' BX1.out.lt).cell (i := 3) rfl
       have hs4 := (BX1.out.below hb' BX1.out.lt).cell (i := 4) rfl
       have hs5 := (BX1.out.below hb' BX1.out.lt).cell (i := 5) rfl
       have hs6 := (BX1.out.below hb' BX1.out.lt).cell (i := 6) rfl
       have hs7 := (BX1.out.below hb' BX1.out.lt).cell (i := 7) rfl
       have hs8 := (BX1.out.below hb' BX1.out.lt).cell (i := 8) rfl
       have hs9 := (BX1.out.below hb' BX1.out.lt).cell (i := 9) rfl
       have hs10 := (BX1.out.below hb' BX1.out.lt).cell (i := 10) rfl
       have hs11 := (BX1.out.below hb' BX1.out.lt).cell (i := 11) rfl
       have hs12 := (BX1.out.below hb' BX1.out.lt).cell (i := 12) rfl
       have hs13 := (BX1.out.below hb' BX1.out.lt).cell (i := 13) rfl
       have hs14 := (BX1.out.below hb' BX1.out.lt).cell (i := 14) rfl
       have hs15 := (BX1.out.below hb' BX1.out.lt).cell (i := 15) rfl
       have hsf := (BX1.out.below hb' BX1.out.lt).fz
       have hsl := (BX1.out.below hb' BX1.out.lt).lt
       clear hw'
       go_simp
       try rfl
      conv => arg 10; simp only [Act.put, Go.q0, Go.q1, Go.q2]
      refine Go.FS.wpF_spec rfl rfl rfl (fun w' hw' => ?_) ?_
      ·have hb' := hw'.world
       refine Go.FS.gives_of (Go.FS.PM (fun x : PV => x.v) (fun x w' => DP w' wr.heap.size x p54) (fun _ _ => False) w'.heap.size) ?_ (fun _ _ h => h.post (fun _ _ => PV.inj))
       go_simp
       have CT := pof ((KY0.out.below (KG.out.trans (hb'.mono KG.out.size)))).any (((KY0.out.below (KG.out.trans (hb'.mono KG.out.size)))).len LQq0.out (by decide : _ ≤ 900000)) LQq0.out (by decide)
       rw [show nf [(Mo.one, q0)] = p54 from Hp54.out.symm] at CT
       refine CT.mono ?_
       rintro e w'' ⟨za, rfl, ho, hb⟩
       exact ⟨_, rfl, ⟨za, rfl, ho.mono hb'.size, fun _ h => False.elim h⟩, hb⟩
      rintro _ ⟨y2, rfl⟩
      conv => arg 10; simp only [Act.put, Go.q0, Go.q1, Go.q2]
      refine Go.FS.wpF_reads rfl rfl rfl (.agg #[.bool pl0.t.s, .slice pl0.t.a pl0.t.n pl0.t.c, .bool pl0.l.s, .slice pl0.l.a pl0.l.n pl0.l.c, .bool pl1.t.s, .slice pl1.t.a pl1.t.n pl1.t.c, .bool pl1.l.s, .slice pl1.l.a pl1.l.n pl1.l.c, .bool pl2.t.s, .slice pl2.t.a pl2.t.n pl2.t.c, .bool pl2.l.s, .slice pl2.l.a pl2.l.n pl2.l.c, .bool pl3.t.s, .slice pl3.t.a pl3.t.n pl3.t.c, .bool pl3.l.s, .slice pl3.l.a pl3.l.n pl3.l.c]) (fun w' hw' => ?_) ?_
      ·have hb' := hw'.world
       exact reads_load (p := .pointer (some ⟨w.heap.size, 0, none⟩)) rfl rfl (load16 (BX1.out.below hb' BX1.out.lt))
      conv => arg 10; simp only [Act.put, Go.q0, Go.q1, Go.q2]
      refine Go.FS.wpF_spec rfl rfl rfl (fun w' hw' => ?_) ?_
      ·have hb' := hw'.world
       refine Go.FS.gives_of (Go.FS.PM (fun x : FV => .tuple #[x.v, .int .i64 0]) (fun x w' => DF w' wr.heap.size x q55) FV.blk w'.heap.size) ?_ (fun _ _ h => h.post (FV.injE 0))
       go_simp
       have f2 := Go.FS.made_of (val := (fun x : PV => x.v)) (Φ := fun x w' => DP w' wr.heap.size x p54) (fun _ _ => PV.inj) (hw'.fact 2 (by kernel_rfl))
       have CT := pat f2.k PCp54.out (H4.out.below (KG.out.trans (hb'.mono KG.out.size))) HLl.out (by decide) (by decide) (by decide) (by decide)
       rw [show ev p54 (atM l) = q55 from Hq55.out.symm] at CT
       refine CT.mono ?_
       rintro e w'' ⟨za, rfl, ho, hb⟩
       exact ⟨_, rfl, ⟨za, rfl, ho.mono hb'.size, ho.blks⟩, hb⟩
      rintro _ ⟨y4, rfl⟩
      conv => arg 10; simp only [Act.put, Go.q0, Go.q1, Go.q2]
      iterate 3
       refine Go.FS.wpF_reads rfl rfl rfl ?_ (fun w' hw' => ?_) ?_
       rotate_left
       ·have hb' := hw'.world
        skip
        clear hw'
        go_simp
        try rfl
       conv => arg 10; simp only [Act.put, Go.q0, Go.q1, Go.q2]
      refine Go.FS.wpF_spec rfl rfl rfl (fun w' hw' => ?_) ?_
      ·have hb' := hw'.world
       refine Go.FS.gives_of (Go.FS.PB 28 4 wr.heap.size w'.heap.size) ?_ (fun _ _ h => h.post)
       go_simp
       exact ⟨Go.FS.PB.new _ rfl hb'.size, (Below.refl _ _).alloc (Nat.le_refl _) _⟩
      rintro _ ⟨y8, rfl⟩
      conv => arg 10; simp only [Act.put, Go.q0, Go.q1, Go.q2]
      refine Go.FS.wpF_store rfl rfl 8 rfl rfl rfl rfl (fun _ => Iff.rfl) (fun w' hw' => ?_) ?_
      ·have hb' := hw'.world
       have hX := Go.FS.box_of (hw'.fact 8 (by kernel_rfl))
       obtain ⟨c0, c1, c2, c3, hB⟩ := shp4 hX.1
       have m0 := hB.cell (i := 0) rfl
       have m1 := hB.cell (i := 1) rfl
       have m2 := hB.cell (i := 2) rfl
       have m3 := hB.cell (i := 3) rfl
       have mf := hB.fz
       have ml := hB.lt
       refine Go.FS.stores_of ?_ (store4 hb' hX.2 hB (.bool y4.t.s) (.slice y4.t.a y4.t.n y4.t.c) (.bool y4.l.s) (.slice y4.l.a y4.l.n y4.l.c))
       clear hw'
       go_simp
       try rfl
      conv => arg 10; simp only [Act.put, Go.q0, Go.q1, Go.q2]
      refine Go.FS.wpF_nil (fun w57 hb hF => ?_)
      have BX56 := Lib.hid (show Bxs w57 y8 28 [.bool y4.t.s, .slice y4.t.a y4.t.n y4.t.c, .bool y4.l.s, .slice y4.l.a y4.l.n y4.l.c] from stored_bxs (hF.all 9))
      have N58 := Lib.hid (show DF w57 wr.heap.size y4 q55 from (Go.FS.made_of (val := (fun x : FV => .tuple #[x.v, .int .i64 0])) (Φ := fun x w' => DF w' wr.heap.size x q55) (FV.injE 0) (hF.all 4)))
      clear hF
      have N29 := Lib.hid (N29.out.below hb)
      have N35 := Lib.hid (N35.out.below hb)
      have N42 := Lib.hid (N42.out.below hb)
      have N47 := Lib.hid (N47.out.below hb)
      have BX1 := Lib.hid (BX1.out.below hb BX1.out.lt)
      have BX30 := Lib.hid (BX30.out.below hb BX30.out.lt)
      have BX36 := Lib.hid (BX36.out.below hb BX36.out.lt)
      have BX40 := Lib.hid (BX40.out.below hb BX40.out.lt)
      have BX45 := Lib.hid (BX45.out.below hb BX45.out.lt)
      have KG := Lib.hid (KG.out.trans (hb.mono KG.out.size))
      clear hb
      obtain ⟨q59, hq59⟩ : ∃ z : Rat, z = q26 + q32 := ⟨_, rfl⟩
      have Hq59 := Lib.hid hq59
      have LQq59 := Lib.hid (show LQ q59 26083 by rw [hq59]; exact LQ.add (LQq26.out.up (by decide : _ ≤ 13041)) (LQq32.out.up (by decide : _ ≤ 13041)) (by decide))
      clear hq59
      obtain ⟨q60, hq60⟩ : ∃ z : Rat, z = q26 * q32 := ⟨_, rfl⟩
      have Hq60 := Lib.hid hq60
      have LQq60 := Lib.hid (show LQ q60 26082 by rw [hq60]; exact LQ.mul (LQq26.out.up (by decide : _ ≤ 13041)) (LQq32.out.up (by decide : _ ≤ 13041)) (by decide))
      clear hq60
      go_upto_region 16 with (fail)
      refine Go.FS.wp_region_fresh 30 [] (Go.FS.spOf [(14, Go.FS.Sp.made (fun x : FV => x.v) (fun x w' => DF w' w57.heap.size x q59) FV.blk), (15, Go.FS.Sp.know (.bool true)), (21, Go.FS.Sp.made (fun x : FV => x.v) (fun x w' => DF w' w57.heap.size x q60) FV.blk), (22, Go.FS.Sp.know (.bool true)), (28, Go.FS.Sp.know (.bool true))])
       (fun w' => Below w57.heap.size w57 w') (by kernel_rfl) (by kernel_rfl) (by kernel_rfl)
       (Go.FS.spOf_cons (Go.FS.Sp.made_keeps _ (fun _ _ _ h _ hk => h.kept hk) (Go.FS.notTaken (by kernel_rfl))) (Go.FS.spOf_cons (Go.FS.Sp.know_keeps _ _) (Go.FS.spOf_cons (Go.FS.Sp.made_keeps _ (fun _ _ _ h _ hk => h.kept hk) (Go.FS.notTaken (by kernel_rfl))) (Go.FS.spOf_cons (Go.FS.Sp.know_keeps _ _) (Go.FS.spOf_cons (Go.FS.Sp.know_keeps _ _) (Go.FS.spOf_nil)))))) (fun _ _ h hb => h.trans (hb.mono h.size)) ((Below.refl _ _).drew) ?_
      simp only [List.append_eq, List.cons_append, List.nil_append, List.take_succ_cons, List.take_zero, List.drop_succ_cons, List.drop_zero]
      iterate 3
       refine Go.FS.wpF_reads rfl rfl rfl ?_ (fun w' hw' => ?_) ?_
       rotate_left
       ·have hb' := hw'.world
        skip
        clear hw'
        go_simp
        try rfl
       conv => arg 10; simp only [Act.put, Go.q0, Go.q1, Go.q2]
      iterate 2
       refine Go.FS.wpF_readsG (by rfl) rfl rfl ?_ (fun w' hw' => ?_) ?_
       rotate_left
       ·have hb' := hw'.world
        skip
        clear hw'
        go_simp
        try rfl
       conv => arg 10; simp only [Act.put, Go.q0, Go.q1, Go.q2]
      iterate 2
       refine Go.FS.wpF_reads rfl rfl rfl ?_ (fun w' hw' => ?_) ?_
       rotate_left
       ·have hb' := hw'.world
        skip
        clear hw'
        go_simp
        try rfl
       conv => arg 10; simp only [Act.put, Go.q0, Go.q1, Go.q2]
      iterate 2
       refine Go.FS.wpF_readsG (by rfl) rfl rfl ?_ (fun w' hw' => ?_) ?_
       rotate_left
       ·have hb' := hw'.world
        skip
        clear hw'
        go_simp
        try rfl
       conv => arg 10; simp only [Act.put, Go.q0, Go.q1, Go.q2]
      iterate 2
       refine Go.FS.wpF_reads rfl rfl rfl ?_ (fun w' hw' => ?_) ?_
       rotate_left
       ·have hb' := hw'.world
        skip
        clear hw'
        go_simp
        try rfl
       conv => arg 10; simp only [Act.put, Go.q0, Go.q1, Go.q2]
      refine Go.FS.wpF_readsG (by rfl) rfl rfl ?_ (fun w' hw' => ?_) ?_
      rotate_left
      ·have hb' := hw'.world
       have hs0 := (BX40.out.below hb' BX40.out.lt).cell (i := 0) rfl
       have hs1 := (BX40.out.below hb' BX40.out.lt).cell (i := 1) rfl
       have hs2 := (BX40.out.below hb' BX40.out.lt).cell (i := 2) rfl
       have hs3 := (BX40.out.below hb' BX40.out.lt).cell (i := 3) rfl
       have hsf := (BX40.out.below hb' BX40.out.lt).fz
       have hsl := (BX40.out.below hb' BX40.out.lt).lt
       clear hw'
       go_simp
       try rfl
      conv => arg 10; simp only [Act.put, Go.q0, Go.q1, Go.q2]
      refine Go.FS.wpF_readsG (by rfl) rfl rfl ?_ (fun w' hw' => ?_) ?_
      rotate_left
      ·have hb' := hw'.world
       have hs0 := (BX30.out.below hb' BX30.out.lt).cell (i := 0) rfl
       have hs1 := (BX30.out.below hb' BX30.out.lt).cell (i := 1) rfl
       have hs2 := (BX30.out.below hb' BX30.out.lt).cell (i := 2) rfl
       have hs3 := (BX30.out.below hb' BX30.out.lt).cell (i := 3) rfl
       have hsf := (BX30.out.below hb' BX30.out.lt).fz
       have hsl := (BX30.out.below hb' BX30.out.lt).lt
       clear hw'
       go_simp
       try rfl
      conv => arg 10; simp only [Act.put, Go.q0, Go.q1, Go.q2]
      refine Go.FS.wpF_readsG (by rfl) rfl rfl ?_ (fun w' hw' => ?_) ?_
      rotate_left
      ·have hb' := hw'.world
       have hs0 := (BX36.out.below hb' BX36.out.lt).cell (i := 0) rfl
       have hs1 := (BX36.out.below hb' BX36.out.lt).cell (i := 1) rfl
       have hs2 := (BX36.out.below hb' BX36.out.lt).cell (i := 2) rfl
       have hs3 := (BX36.out.below hb' BX36.out.lt).cell (i := 3) rfl
       have hsf := (BX36.out.below hb' BX36.out.lt).fz
       have hsl := (BX36.out.below hb' BX36.out.lt).lt
       clear hw'
       go_simp
       try rfl
      conv => arg 10; simp only [Act.put, Go.q0, Go.q1, Go.q2]
      refine Go.FS.wpF_gspec (by rfl) rfl rfl (fun w' hw' => ?_) ?_
      ·have hb' := hw'.world
       refine Go.FS.gives_of (Go.FS.PM (fun x : FV => x.v) (fun x w' => DF w' w57.heap.size x q59) FV.blk w'.heap.size) ?_ (fun _ _ h => h.post (fun _ _ => FV.inj))
       go_simp
       have CT := qadd ((N29.out.below hb')).k.any ((((N29.out.below hb')).k).len LQq26.out (by decide : _ ≤ 900000)) ((N35.out.below hb')).k.any ((((N35.out.below hb')).k).len LQq32.out (by decide : _ ≤ 900000))
       rw [show q26 + q32 = q59 from Hq59.out.symm] at CT
       refine CT.mono ?_
       rintro e w'' ⟨za, rfl, ho, hb⟩
       exact ⟨_, rfl, ⟨za, rfl, ho.mono hb'.size, ho.blks⟩, hb⟩
      rintro _ ⟨y14, rfl⟩
      conv => arg 10; simp only [Act.put, Go.q0, Go.q1, Go.q2]
      refine Go.FS.wpF_gspec (by rfl) rfl rfl (fun w' hw' => ?_) ?_
      ·have hb' := hw'.world
       refine Go.FS.gives_of (Go.FS.PK (.bool true)) ?_ (fun _ _ h => h.post)
       go_simp
       have f14 := Go.FS.made_of (val := (fun x : FV => x.v)) (Φ := fun x w' => DF w' w57.heap.size x q59) (fun _ _ => FV.inj) (hw'.fact 14 (by kernel_rfl))
       have CT := qsameFr ((N42.out.below hb')).k ((((N42.out.below hb')).k).len LQq39.out (by decide : _ ≤ 900000)) (f14).k (((f14).k).len LQq59.out (by decide : _ ≤ 900000)) (by simp only [Hq59.out, Hq55.out, Hp54.out, Hq44.out, Hp43.out, Hq39.out, Hp38.out, Hq32.out, Hq26.out]; exact ev_addP P1 P2 (atM l))
       refine CT.mono ?_
       rintro e w'' ⟨rfl, hb⟩
       exact ⟨_, rfl, rfl, hb⟩
      rintro _ rfl
      conv => arg 10; simp only [Act.put, Go.q0, Go.q1, Go.q2]
      iterate 2
       refine Go.FS.wpF_reads rfl rfl rfl ?_ (fun w' hw' => ?_) ?_
       rotate_left
       ·have hb' := hw'.world
        skip
        clear hw'
        go_simp
        try rfl
       conv => arg 10; simp only [Act.put, Go.q0, Go.q1, Go.q2]
      refine Go.FS.wpF_readsG (by rfl) rfl rfl ?_ (fun w' hw' => ?_) ?_
      rotate_left
      ·have hb' := hw'.world
       have hs0 := (BX45.out.below hb' BX45.out.lt).cell (i := 0) rfl
       have hs1 := (BX45.out.below hb' BX45.out.lt).cell (i := 1) rfl
       have hs2 := (BX45.out.below hb' BX45.out.lt).cell (i := 2) rfl
       have hs3 := (BX45.out.below hb' BX45.out.lt).cell (i := 3) rfl
       have hsf := (BX45.out.below hb' BX45.out.lt).fz
       have hsl := (BX45.out.below hb' BX45.out.lt).lt
       clear hw'
       go_simp
       try rfl
      conv => arg 10; simp only [Act.put, Go.q0, Go.q1, Go.q2]
      refine Go.FS.wpF_readsG (by rfl) rfl rfl ?_ (fun w' hw' => ?_) ?_
      rotate_left
      ·have hb' := hw'.world
       have hs0 := (BX30.out.below hb' BX30.out.lt).cell (i := 0) rfl
       have hs1 := (BX30.out.below hb' BX30.out.lt).cell (i := 1) rfl
       have hs2 := (BX30.out.below hb' BX30.out.lt).cell (i := 2) rfl
       have hs3 := (BX30.out.below hb' BX30.out.lt).cell (i := 3) rfl
       have hsf := (BX30.out.below hb' BX30.out.lt).fz
       have hsl := (BX30.out.below hb' BX30.out.lt).lt
       clear hw'
       go_simp
       try rfl
      conv => arg 10; simp only [Act.put, Go.q0, Go.q1, Go.q2]
      refine Go.FS.wpF_readsG (by rfl) rfl rfl ?_ (fun w' hw' => ?_) ?_
      rotate_left
      ·have hb' := hw'.world
       have hs0 := (BX36.out.below hb' BX36.out.lt).cell (i := 0) rfl
       have hs1 := (BX36.out.below hb' BX36.out.lt).cell (i := 1) rfl
       have hs2 := (BX36.out.below hb' BX36.out.lt).cell (i := 2) rfl
       have hs3 := (BX36.out.below hb' BX36.out.lt).cell (i := 3) rfl
       have hsf := (BX36.out.below hb' BX36.out.lt).fz
       have hsl := (BX36.out.below hb' BX36.out.lt).lt
       clear hw'
       go_simp
       try rfl
      conv => arg 10; simp only [Act.put, Go.q0, Go.q1, Go.q2]
      refine Go.FS.wpF_gspec (by rfl) rfl rfl (fun w' hw' => ?_) ?_
      ·have hb' := hw'.world
       refine Go.FS.gives_of (Go.FS.PM (fun x : FV => x.v) (fun x w' => DF w' w57.heap.size x q60) FV.blk w'.heap.size) ?_ (fun _ _ h => h.post (fun _ _ => FV.inj))
       go_simp
       have CT := qmul ((N29.out.below hb')).k.any ((((N29.out.below hb')).k).len LQq26.out (by decide : _ ≤ 900000)) ((N35.out.below hb')).k.any ((((N35.out.below hb')).k).len LQq32.out (by decide : _ ≤ 900000))
       rw [show q26 * q32 = q60 from Hq60.out.symm] at CT
       refine CT.mono ?_
       rintro e w'' ⟨za, rfl, ho, hb⟩
       exact ⟨_, rfl, ⟨za, rfl, ho.mono hb'.size, ho.blks⟩, hb⟩
      rintro _ ⟨y21, rfl⟩
      conv => arg 10; simp only [Act.put, Go.q0, Go.q1, Go.q2]
      refine Go.FS.wpF_gspec (by rfl) rfl rfl (fun w' hw' => ?_) ?_
      ·have hb' := hw'.world
       refine Go.FS.gives_of (Go.FS.PK (.bool true)) ?_ (fun _ _ h => h.post)
       go_simp
       have f21 := Go.FS.made_of (val := (fun x : FV => x.v)) (Φ := fun x w' => DF w' w57.heap.size x q60) (fun _ _ => FV.inj) (hw'.fact 21 (by kernel_rfl))
       have CT := qsameFr ((N47.out.below hb')).k ((((N47.out.below hb')).k).len LQq44.out (by decide : _ ≤ 900000)) (f21).k (((f21).k).len LQq60.out (by decide : _ ≤ 900000)) (by simp only [Hq60.out, Hq59.out, Hq55.out, Hp54.out, Hq44.out, Hp43.out, Hq39.out, Hp38.out, Hq32.out, Hq26.out]; exact place_mul l P1 P2)
       refine CT.mono ?_
       rintro e w'' ⟨rfl, hb⟩
       exact ⟨_, rfl, rfl, hb⟩
      rintro _ rfl
      conv => arg 10; simp only [Act.put, Go.q0, Go.q1, Go.q2]
      iterate 2
       refine Go.FS.wpF_reads rfl rfl rfl ?_ (fun w' hw' => ?_) ?_
       rotate_left
       ·have hb' := hw'.world
        skip
        clear hw'
        go_simp
        try rfl
       conv => arg 10; simp only [Act.put, Go.q0, Go.q1, Go.q2]
      refine Go.FS.wpF_readsG (by rfl) rfl rfl ?_ (fun w' hw' => ?_) ?_
      rotate_left
      ·have hb' := hw'.world
       have hs0 := (BX56.out.below hb' BX56.out.lt).cell (i := 0) rfl
       have hs1 := (BX56.out.below hb' BX56.out.lt).cell (i := 1) rfl
       have hs2 := (BX56.out.below hb' BX56.out.lt).cell (i := 2) rfl
       have hs3 := (BX56.out.below hb' BX56.out.lt).cell (i := 3) rfl
       have hsf := (BX56.out.below hb' BX56.out.lt).fz
       have hsl := (BX56.out.below hb' BX56.out.lt).lt
       clear hw'
       go_simp
       try rfl
      conv => arg 10; simp only [Act.put, Go.q0, Go.q1, Go.q2]
      refine Go.FS.wpF_readsG (by rfl) rfl rfl ?_ (fun w' hw' => ?_) ?_
      rotate_left
      ·have hb' := hw'.world
       skip
       clear hw'
       go_simp
       try rfl
      conv => arg 10; simp only [Act.put, Go.q0, Go.q1, Go.q2]
      refine Go.FS.wpF_readsG (by rfl) rfl rfl ?_ (fun w' hw' => ?_) ?_
      rotate_left
      ·have hb' := hw'.world
       have hs0 := (BX1.out.below hb' BX1.out.lt).cell (i := 0) rfl
       have hs1 := (BX1.out.below hb' BX1.out.lt).cell (i := 1) rfl
       have hs2 := (BX1.out.below hb' BX1.out.lt).cell (i := 2) rfl
       have hs3 := (BX1.out.below hb' BX1.out.lt).cell (i := 3) rfl
       have hs4 := (BX1.out.below hb' BX1.out.lt).cell (i := 4) rfl
       have hs5 := (BX1.out.below hb' BX1.out.lt).cell (i := 5) rfl
       have hs6 := (BX1.out.below hb' BX1.out.lt).cell (i := 6) rfl
       have hs7 := (BX1.out.below hb' BX1.out.lt).cell (i := 7) rfl
       have hs8 := (BX1.out.below hb' BX1.out.lt).cell (i := 8) rfl
       have hs9 := (BX1.out.below hb' BX1.out.lt).cell (i := 9) rfl
       have hs10 := (BX1.out.below hb' BX1.out.lt).cell (i := 10) rfl
       have hs11 := (BX1.out.below hb' BX1.out.lt).cell (i := 11) rfl
       have hs12 := (BX1.out.below hb' BX1.out.lt).cell (i := 12) rfl
       have hs13 := (BX1.out.below hb' BX1.out.lt).cell (i := 13) rfl
       have hs14 := (BX1.out.below hb' BX1.out.lt).cell (i := 14) rfl
       have hs15 := (BX1.out.below hb' BX1.out.lt).cell (i := 15) rfl
       have hsf := (BX1.out.below hb' BX1.out.lt).fz
       have hsl := (BX1.out.below hb' BX1.out.lt).lt
       clear hw'
       go_simp
       try rfl
      conv => arg 10; simp only [Act.put, Go.q0, Go.q1, Go.q2]
      refine Go.FS.wpF_gspec (by rfl) rfl rfl (fun w' hw' => ?_) ?_
      ·have hb' := hw'.world
       refine Go.FS.gives_of (Go.FS.PK (.bool true)) ?_ (fun _ _ h => h.post)
       go_simp
       have CT := qsameFr ((N58.out.below hb')).k ((((N58.out.below hb')).k).len LQq55.out (by decide : _ ≤ 900000)) (KY0.out.below (KG.out.trans (hb'.mono KG.out.size))) (((KY0.out.below (KG.out.trans (hb'.mono KG.out.size)))).len LQq0.out (by decide : _ ≤ 900000)) (by simp only [Hq60.out, Hq59.out, Hq55.out, Hp54.out, Hq44.out, Hp43.out, Hq39.out, Hp38.out, Hq32.out, Hq26.out]; exact ev_of l _)
       refine CT.mono ?_
       rintro e w'' ⟨rfl, hb⟩
       exact ⟨_, rfl, rfl, hb⟩
      rintro _ rfl
      conv => arg 10; simp only [Act.put, Go.q0, Go.q1, Go.q2]
      refine Go.FS.wpF_reads rfl rfl rfl ?_ (fun w' hw' => ?_) ?_
      rotate_left
      ·have hb' := hw'.world
       skip
       clear hw'
       go_simp
       try rfl
      conv => arg 10; simp only [Act.put, Go.q0, Go.q1, Go.q2]
      refine Go.FS.wpF_nil (fun w61 hb hF => ?_)
      clear hF
      clear N29
      clear N35
      clear N42
      clear N47
      clear N58
      clear BX1
      clear BX30
      clear BX36
      clear BX40
      clear BX45
      clear BX56
      have KG := Lib.hid (KG.out.trans (hb.mono KG.out.size))
      clear hb
      go_wp2_with fail
      go_ret
      exact ⟨rfl, KG.out⟩
end Go.Proofs.YthcccdjfedbnfaaGreatDoor.Pol
namespace Go.Proofs.YthcccdjfedbnfaaGreatDoor.Limb
open Go.RowKit Go.Sort Go.Proofs.YthcccdjfedbnfaaGreatDoor.Pol
open Go.ChangeShapes Go.WideShapes Go.ChangeAt
namespace PolysPlacesC
theorem own : ownKnob Tryz.prog.godebug = none := by kernel_rfl
theorem laidOut : laidOutB Tryz.prog = true := by kernel_rfl
theorem tab_of_laid (W : World) (hL : laidMet Tryz.prog Rows.polysPlacesRow.laid W) : Tab W :=
 Lib.tabIs_of_head (g := 1) (by kernel_rfl) (by kernel_rfl) (t := 235) (n := 20) (e := 118) Tryz.underlying235 Tryz.underlying118 (by kernel_rfl) (by kernel_rfl) hL.tail.tail
noncomputable def laidWorld (os : Os) : World := World.laidAll Tryz.prog os Rows.polysPlacesRow.laid
noncomputable def witArgs : Array Value := #[.slice none 0 0, .slice none 0 0, .agg #[.bool false, .slice none 0 0, .bool false, .slice none 0 0, .bool false, .slice none 0 0, .bool false, .slice none 0 0, .bool false, .slice none 0 0, .bool false, .slice none 0 0, .bool false, .slice none 0 0, .bool false, .slice none 0 0]]
theorem laid_met (os : Os) : laidMet Tryz.prog Rows.polysPlacesRow.laid ((laidWorld os).forCall (fun _ _ => 0) ⟨#[], witArgs, []⟩).memory :=
 laidMet_laidAll _ (by kernel_rfl) (by kernel_rfl)
theorem reads (os : Os) {H : Type} (enc : TypeId × Value → H) : ∃ places, DataW.whole enc Tryz.prog ((laidWorld os).forCall (fun _ _ => 0) ⟨#[], witArgs, []⟩).memory Tryz.f7.params.toList Rows.polysPlacesSpec.vars false witArgs.toList 8 = some ([.nil, .nil, .agg [.agg [.agg [.lit (.bool false), .nil], .agg [.lit (.bool false), .nil]], .agg [.agg [.lit (.bool false), .nil], .agg [.lit (.bool false), .nil]], .agg [.agg [.lit (.bool false), .nil], .agg [.lit (.bool false), .nil]], .agg [.agg [.lit (.bool false), .nil], .agg [.lit (.bool false), .nil]]]], [], places) :=
 ⟨[], by kernel_rfl⟩
set_option maxRecDepth 100000 in
theorem lifted (os : Os) (started : os.Started) (H : Type) (enc : TypeId × Value → H) (F : Stop.Interp) :
  ReturnsInHanded {} Tryz.checked os 7 .any ((OpenSpec.ofChange Rows.polysPlacesSpec).preRow enc Tryz.prog Tryz.f7 Rows.polysPlacesRow.domain false Rows.polysPlacesRow.laid) (((OpenSpec.ofChange Rows.polysPlacesSpec).at F).post enc Tryz.prog Tryz.f7 false true false false) := by
 obtain ⟨places, hx⟩ := reads os enc
 refine returnsInHanded_of_row (C := Tryz.checked) (s := OpenSpec.ofChange Rows.polysPlacesSpec) own started (by kernel_rfl) Tryz.func7
  (witness_row_atRef (enc := enc) (C := Tryz.checked) false (laidWorld os) witArgs (World.laidAll_os _ _ _) (by kernel_rfl) (by kernel_rfl) (by kernel_rfl)
   (OpenSpec.preRow_of_cond 8 hx (by kernel_rfl) (fun k hk => by cases hk) (by kernel_rfl) (laid_met os))) ?_
 intro W base args ds gs before hval0 hW _ _ hwt hL _ _
 rw [MakeChecks.laidMetH_plain _ _ _ (by kernel_rfl)] at hL
 have htab : Tab W := tab_of_laid W hL
 have hval : ∀ (j : Nat) t v, Tryz.f7.params[j]? = some t → args[j]? = some v → Value.okWide Tryz.prog W .any base t v := hval0
 have hW' := hW
 obtain ⟨p, q, hA0, hV, rfl, hfz, hnd⟩ := hW
 have hA : DataW.TrodAll enc Tryz.prog W 0 (fun _ => true) true Tryz.f7.params.toList args.toList ds p := hA0
 rw [Tryz.params7] at hA hval
 obtain ⟨v0, v1, v2, d0, d1, d2, p0, p1, p2, rfl, rfl, rfl, h0, h1, h2⟩ := trodAll_three hA
 obtain ⟨rfl, rfl⟩ := trodVars_none hV
 obtain ⟨x0, L0, rfl, r0⟩ := open_poly (hval 0 23 v0 rfl rfl) h0
 obtain ⟨x1, L1, rfl, r1⟩ := open_poly (hval 1 23 v1 rfl rfl) h1
 obtain ⟨y20, y21, y22, y23, rfl, r2⟩ := open_frac4 (hval 2 56 v2 rfl rfl) h2 (each_weight hwt (j := 2) (by kernel_rfl) rfl)
 refine (polysPlaces_law x0 L0 x1 L1 y20 y21 y22 y23 W htab r0 r1 r2).mono fun e W' ⟨he, hg⟩ => ?_
 subst he
 exact ⟨_, rfl, LawPost.law_post laidOut (by kernel_rfl) (by kernel_rfl) Tryz.underlying4 hW' rfl rfl hg⟩
theorem said : Rows.PolysPlacesSaid :=
 OpenClaim.holds_of_cond 7 Tryz.f7 rfl rfl rfl rfl rfl rfl rfl ⟨rfl, rfl, rfl, rfl, rfl⟩ rfl rfl rfl rfl rfl (by kernel_rfl) Tryz.func7 (by kernel_rfl)
  (of_decide_eq_true (by kernel_rfl)) (by unfold Func.isWrapper; first | (rw [if_pos (by decide +kernel)]; kernel_rfl) | (rw [if_neg (by decide +kernel)]; exact ⟨rfl, rfl⟩))
  (fun os started H enc _ F => by rw [OpenClaim.pre_eq_preRow]; exact lifted os started H enc F)
theorem plain (f : FuncId) (fn : Func) (hf : Tryz.pinned.checked.prog.funcNamed "reckoner/reckonerlaw04.PolysPlaces" = some f) (hfn : Tryz.pinned.checked.prog.funcs[f]? = some fn) :
  true = Tryz.pinned.checked.prog.looks [] ∧ ∀ (j : Nat) t, fn.params[j]? = some t → Tryz.pinned.checked.prog.wantsStandIn t = false := by
 obtain rfl : f = 7 := Option.some.inj ((show Tryz.prog.funcNamed "reckoner/reckonerlaw04.PolysPlaces" = some 7 by kernel_rfl).symm.trans hf) |>.symm
 obtain rfl : fn = Tryz.f7 := (Option.some.inj (Tryz.func7.symm.trans hfn)).symm
 refine ⟨by kernel_rfl, fun j t ht => ?_⟩
 rw [Tryz.params7] at ht
 have hm : t = 23 ∨ t = 23 ∨ t = 56 := by simpa using Array.mem_of_getElem? ht
 rcases hm with rfl | rfl | rfl
 ·exact (show Tryz.prog.wantsStandIn 23 = false by kernel_rfl)
 ·exact (show Tryz.prog.wantsStandIn 23 = false by kernel_rfl)
 ·exact (show Tryz.prog.wantsStandIn 56 = false by kernel_rfl)
theorem card : Rows.PolysPlacesCardSaid :=
 Claim7.holds_tied_plain_at .later [] _ _ _ _ said (fun _ h => by cases h) (by kernel_rfl) (fun _ h => by cases h) polysPlaces_row_tie rfl ⟨rfl, rfl⟩ (by kernel_rfl) rfl plain (by kernel_rfl)
#print axioms card
end PolysPlacesC
end Go.Proofs.YthcccdjfedbnfaaGreatDoor.Limb
