/-
  The walk of the document's answer for limbs: Twin.
-/
import Derived.Test.YtebobpbcllideaaGreatDoorLimbO
import Derived.Laws.OwnMore
namespace Go.Proofs.YtebobpbcllideaaGreatDoor.Limb
open Go.RowKit Go.Sort Go.Fresh

/-- append to nothing, as an equation, in whatever world the source may be read. -/
theorem append_nil_run (a : Option Addr) (n cap : Nat) (o : Nat → Int) (w : World) (base ty : Nat) (h : Rd w a n o) (hn : n ≤ 1000000000) (hb : base ≤ w.heap.size) :
    ∃ a' cap' w', (Builtin.append_ #[22, 22] ty #[.slice none 0 0, .slice a n cap]).run Tryz.prog w = .ok (.slice a' n cap') w' ∧ Own 57 w' base a' n cap' o ∧ (a' = none → cap' = 0) ∧ Below w.heap.size w w' := by
  obtain ⟨i0, hi, hz0, hz1, hz2⟩ := info_parts info32
  cases a with
  | none =>
    obtain rfl : n = 0 := by
      rcases Nat.eq_zero_or_pos n with h0 | h0
      · exact h0
      · obtain ⟨b, off, e, _⟩ := h.cells h0; cases e
    refine ⟨none, 0, w, ?_, ⟨Nat.le_refl _, Or.inl ⟨rfl, rfl, rfl⟩, fun i hi => by omega⟩, fun _ => rfl, Below.refl _ _⟩
    simp [Builtin.append_, run_underlying (P := Tryz.prog) Tryz.underlying22, sizeOf, typeInfo, hi, Builtin.lenOf, Builtin.firstCells]
  | some p =>
    obtain ⟨b, off, pt⟩ := p
    obtain ⟨v', w', hrun, hown, hgrow, _⟩ := run_append_own (P := Tryz.prog) w base 22 ty 57 i0 (.int .u32 0) 1 4 Tryz.underlying22 hi hz0 hz1 hz2 rfl (by decide) (.slice none 0 0) 0 [] (Own.row_nil w base o) ⟨b, off, pt⟩ n cap (ucs o n) (by rw [ucs_len]; omega)
      (by
        intro j u hj
        obtain ⟨hjn, rfl⟩ := ucs_get' hj
        obtain ⟨b', off', e, hc⟩ := h.cells (by omega)
        cases e
        rw [Addr.add_lit]
        exact hc j hjn) ucs_one (by unfold maxLen; omega) (by omega) hb
    have hown : w'.ownsRow base 57 1 v' n (ucs o n) := by simpa using hown
    obtain ⟨a', cap', rfl, hO, hN⟩ := Own.of_row hown h.rng
    exact ⟨a', cap', w', hrun, hO, hN, (Below.refl _ w).grown hgrow (Nat.le_refl _) (by intro k hk; simp [Value.ownBlock] at hk)⟩

/-- What an append makes, as a spec's fact. -/
theorem own_num2 {T L b : Nat} {s : Bool} {x : Option Addr × Nat} {o : Nat → Int} {w : World} (h : ∃ y : Option Addr × Nat, numV s x.1 L x.2 = numV s y.1 L y.2 ∧ Own T w b y.1 L y.2 o ∧ (y.1 = none → y.2 = 0)) : Own T w b x.1 L x.2 o ∧ (x.1 = none → x.2 = 0) := by
  obtain ⟨y, e, h⟩ := h
  simp only [Value.agg.injEq, Array.mk.injEq, List.cons.injEq, Value.slice.injEq, true_and, and_true] at e
  rw [e.1, e.2]
  exact h

theorem gives_append {P : Program} {o : Oper} {a : Act} {w w' : World} {Post : Value → World → Prop} {v u r : Value} (s x : Operand) (t : TypeId)
    (ho : o.op = .call { callee := .builtin .append, args := #[s, x], argTypes := #[t, t] }) (hs : a.eval s = v) (hx : a.eval x = u)
    (hr : (Builtin.append_ #[t, t] o.type #[v, u]).run P w = .ok r w') (hP : Post r w' ∧ Below w.heap.size w w') : givesUpon P w Post ((execOp a.eval o).run P w) := by
  unfold execOp
  simp only [ho, resolve, invoke, builtin, Sem.run_bind, Sem.run_pure, Result.andThen_ok, List.map_toArray, List.map_cons, List.map_nil, hs, hx, hr]
  exact hP

set_option maxHeartbeats 1000000 in
theorem twin_any (s : Bool) (a : Option Addr) (n cap : Nat) (o : Nat → Int) (w : World) (h : Rd w a n o) (hn : n ≤ 1000000000) :
    Calls Tryz.prog 42 #[numV s a n cap] w fun e w' => ∃ a' cap', e = .returned (numV s a' n cap') ∧ Own 57 w' w.heap.size a' n cap' o ∧ (a' = none → cap' = 0) ∧ Below w.heap.size w w' := by
  have HR := Lib.hid h
  have B1 := ((Bx.new w 24 (.bool s) (.slice a n cap)).alloc (.cells #[.bool false, .slice none 0 0] 24))
  have B2 := (Bx.new2 w (.cells #[.bool s, .slice a n cap] 24) 24 (.bool false) (.slice none 0 0))
  clear h
  go_enter Tryz.func42, Tryz.ntmps42
  go_upto_region 2 with (fail)
  obtain ⟨W, hW⟩ : ∃ W, W = ((w.alloc (.cells #[.bool s, .slice a n cap] 24)).alloc (.cells #[.bool false, .slice none 0 0] 24)) := ⟨_, rfl⟩
  have G1 := Lib.hid (((Below.refl _ _).alloc (by go_size) _ |>.alloc (by go_size) _) : Below w.heap.size w ((w.alloc (.cells #[.bool s, .slice a n cap] 24)).alloc (.cells #[.bool false, .slice none 0 0] 24)))
  rw [← hW] at B1 B2 G1
  rw [show ((w.alloc (.cells #[.bool s, .slice a n cap] 24)).alloc (.cells #[.bool false, .slice none 0 0] 24)) = W from hW.symm]
  have HB1 := Lib.hid B1; have HB2 := Lib.hid B2
  clear hW B1 B2
  have HS1 := Lib.hid (fun (w' : World) (hb : Below W.heap.size W w') => And.intro (HB1.out.below hb HB1.out.lt).c0 (HB1.out.below hb HB1.out.lt).c1)
  have AP := Lib.hid (fun (w' : World) (hb : Below W.heap.size W w') (ty : Nat) => append_nil_run a n cap o w' W.heap.size ty (HR.out.below (G1.out.trans (hb.mono G1.out.size))) hn hb.size)
  refine wp_region_fresh 7 (spOf [(5, Sp.made (fun x : Option Addr × Nat => .slice x.1 n x.2) (fun x w' => Own 57 w' W.heap.size x.1 n x.2 o ∧ (x.1 = none → x.2 = 0)))])
    (fun w' => Below W.heap.size W w') (by kernel_rfl) (by kernel_rfl)
    (spOf_cons (Sp.made_keeps fun x w w' h hb => ⟨h.1.below hb, h.2⟩) spOf_nil) (fun _ _ h hb => h.trans (hb.mono h.size)) ((Below.refl _ _).drew) ?_
  simp only [List.take_succ_cons, List.take_zero, List.drop_succ_cons, List.drop_zero]
  (refine wpF_reads rfl rfl ?_ (fun w' hw' => ?_) ?_; rotate_left; · (have hb' := Has.world hw'; (skip); clear hw'; go_simp; try rfl))
  (refine wpF_reads rfl rfl ?_ (fun w' hw' => ?_) ?_; rotate_left; · (have hb' := Has.world hw'; (have hs := HS1.out _ hb'); clear hw'; go_simp; try rfl))
  (refine wpF_reads rfl rfl ?_ (fun w' hw' => ?_) ?_; rotate_left; · (have hb' := Has.world hw'; (skip); clear hw'; go_simp; try rfl))
  (refine wpF_reads rfl rfl ?_ (fun w' hw' => ?_) ?_; rotate_left; · (have hb' := Has.world hw'; (skip); clear hw'; go_simp; try rfl))
  (refine wpF_reads rfl rfl ?_ (fun w' hw' => ?_) ?_; rotate_left; · (have hb' := Has.world hw'; (have hs := HS1.out _ hb'); clear hw'; go_simp; try rfl))
  refine wpF_spec rfl rfl (fun w' hw' => ?_) ?_
  · have hb' : Below W.heap.size W w' := hw'.world
    obtain ⟨a', cap', w'', hrun, hO, hN, hb⟩ := AP.out w' hb' 22
    clear hw'
    exact gives_append _ _ 22 rfl rfl rfl hrun ⟨⟨⟨(a', cap'), rfl⟩, ⟨(a', cap'), rfl, hO, hN⟩⟩, hb⟩
  rintro _ ⟨x, rfl⟩
  (refine wpF_reads rfl rfl ?_ (fun w' hw' => ?_) ?_; rotate_left; · (have hb' := Has.world hw'; (skip); clear hw'; go_simp; try rfl))
  refine wpF_nil (fun w5 hb5 hF5 => ?_)
  have OA := own_clone (x := x) (L := n) (T := 57) (o := o) (b := W.heap.size) (hF5 5)
  have HO := Lib.hid OA
  have B2 := HB2.out.below hb5 HB2.out.lt
  have HB5 := Lib.hid B2
  obtain ⟨b30, b31, b32, b33⟩ := B2.all
  have HG5 := Lib.hid (G1.out.trans (hb5.mono G1.out.size))
  have hz4 := HB2.out.lt
  have hz5 := G1.out.size
  clear hF5 OA B2 hb5 HS1 AP
  go_wp2_with fail
  refine bodyPost_ret (results_cell rfl _ _ _ _ _ _ _ rfl (HB5.out.set _ _) Tryz.underlying24 rfl (by kernel_rfl)) rfl ⟨x.1, x.2, rfl, ?_, HO.out.2, ?_⟩
  · exact ((HO.out.1.other (by dsimp only; omega) _).other (by dsimp only; omega) _).mono hz5
  · exact (HG5.out.setCell (by dsimp only; omega) _).setCell (by dsimp only; omega) _
end Go.Proofs.YtebobpbcllideaaGreatDoor.Limb
