/-
  The walk of alive of the laws of sums: what the document fixes.
-/
import Derived.Test.YthcccdjfedbnfaaGreatDoorPpL
set_option linter.unusedSimpArgs false
set_option linter.unusedVariables false
namespace Go.Proofs.YthcccdjfedbnfaaGreatDoor.Pol
open Go.RowKit Go.Sort Go.Proofs.YthcccdjfedbnfaaGreatDoor.Limb
theorem infoL : (Tryz.prog.info? 86).map (fun i => (i.zero, i.size, i.bytes)) = some (some (.map none), 1, 8) := by kernel_rfl
theorem infoP : (Tryz.prog.info? 23).map (fun i => (i.zero, i.size, i.bytes)) = some (some (.slice none 0 0), 1, 24) := by kernel_rfl
abbrev OC (w : World) (lo : Nat) (v : Value) (Zs : List PV) : Prop := w.ownsRow lo 23 1 v Zs.length (Zs.map PV.v)
theorem OC.below {w w' : World} {lo : Nat} {v : Value} {Zs : List PV} (h : OC w lo v Zs) (hb : Below w.heap.size w w') : OC w' lo v Zs := by
 refine ⟨h.1, h.2.imp id ?_⟩
 rintro ⟨g, cap, cur, hv, hlo, hg, h3⟩
 exact ⟨g, cap, cur, hv, hlo, (hb.block g (lt_of_block hg)).trans hg, h3⟩
def CoefR (w : World) (P : List Tm) (i : Nat) (e : Ending) (w' : World) : Prop :=
 ∃ (v : Value) (Zs : List PV), e = .returned v ∧ OC w' w.heap.size v Zs ∧ (Zs.length : Int) = degP P i + 1 ∧ (∀ k z, Zs[k]? = some z → DP w' w.heap.size z (coefP P i k)) ∧ Below w.heap.size w w'
theorem MR.new {w : World} {lo d i : Nat} : MR (w.alloc (.cells (madeCells #[.map none] (d + 1)) 86)) lo w.heap.size d i [] (fun _ => none) (fun _ => []) :=
 ⟨World.rowIs_made w (.map none) (d + 1) 86, fun _ _ _ => rfl, fun _ _ _ h => (by cases h), fun _ _ _ _ _ h => (by cases h)⟩
theorem MR.lqs {w : World} {lo g d i : Nat} {A : List Tm} {bs : Nat → Option Nat} {Ms : Nat → List TE} (h : MR w lo g d i A bs Ms) (hA : Canon A) {K : Nat} (hq : ∀ t ∈ A, LQ t.2 K) (hK : K ≤ 900000) {k b : Nat} (hk : k ≤ d) (hb : bs k = some b) : ∀ e ∈ Ms k, LQ e.2 900000 := fun e he => by
 obtain ⟨hM, hv⟩ := h.got k b hk hb
 refine like_lq (l := (Ms k).map tm) (L := coefP A i k) ?_ hv (fun m => canon_cf (coefP_canon hA i k) (coefP_lq hq i k) m) hK (tm e) (List.mem_map_of_mem he)
 have h := hM.keys
 rw [List.map_map]
 exact h
theorem eq_nil (w : World) : (binOp BinOp.eql 86 (.map none) (.map none)).run Tryz.prog w = .ok (.bool true) w := by kernel_rfl
theorem eq_map (b : Nat) (w : World) : (binOp BinOp.eql 86 (.map (some b)) (.map none)).run Tryz.prog w = .ok (.bool false) w := by kernel_rfl
theorem OC.own {w : World} {lo : Nat} {v : Value} {Zs : List PV} (h : OC w lo v Zs) {k : Nat} (hk : some k = v.ownBlock) : lo ≤ k ∧ ∃ cur, w.heap[k]? = some (.cells cur 23 (0, 0)) := by
 rcases h.2 with ⟨hv, _⟩ | ⟨g, cap, cur, hv, hlo, hg, _⟩
 ·rw [hv] at hk; cases hk
 ·rw [hv] at hk
  have hk : some k = some g := hk
  cases hk
  exact ⟨hlo, cur, hg⟩
theorem DP.grown {w w' : World} {lo lo2 : Nat} {x : PV} {P : List Tm} {v : Value} {Zs : List PV} (h : DP w lo x P) (ho : OC w lo2 v Zs) (hg : w.grownBy w' v.ownBlock) : DP w' lo x P := by
 obtain ⟨L, h1, h2, h3, h4⟩ := h.ex
 refine ⟨⟨L, ⟨h1.1, h1.2.imp id ?_⟩, fun e he => (h2 e he).kept fun b hb => ?_, h3, h4⟩, h.canon, h.small⟩
 ·rintro ⟨g, cap, cur, hv, hlo, hgk, h3⟩
  exact ⟨g, cap, cur, hv, hlo, (hg.block g (lt_of_block hgk) fun e => by
   obtain ⟨_, c2, h5⟩ := ho.own e
   rw [hgk] at h5
   simp at h5).trans hgk, h3⟩
 ·obtain ⟨cur, h5⟩ := DF.blkc (h2 e he) hb
  exact hg.block b (lt_of_block h5) fun e => by
   obtain ⟨_, c2, h6⟩ := ho.own e
   rw [h5] at h6
   simp at h6
theorem MK.grown {w w' : World} {lo lo2 b : Nat} {L : List TE} {v : Value} {Zs : List PV} (h : MK w lo b L) (ho : OC w lo2 v Zs) (hg : w.grownBy w' v.ownBlock) : MK w' lo b L :=
 ⟨(hg.block b h.lt fun e => by
   obtain ⟨_, c2, h5⟩ := ho.own e
   rw [h.blk] at h5
   cases h5).trans h.blk, h.ge, fun e he => (h.df e he).kept fun b' hb => by
  obtain ⟨cur, h5⟩ := DF.blkc (h.df e he) hb
  exact hg.block b' (lt_of_block h5) fun e => by
   obtain ⟨_, c2, h6⟩ := ho.own e
   rw [h5] at h6
   simp at h6, h.ap, h.keys, h.small⟩
theorem MR.grown {w w' : World} {lo g d i lo2 : Nat} {A : List Tm} {bs : Nat → Option Nat} {Ms : Nat → List TE} {v : Value} {Zs : List PV} (h : MR w lo g d i A bs Ms) (ho : OC w lo2 v Zs) (hg : w.grownBy w' v.ownBlock) : MR w' lo g d i A bs Ms :=
 ⟨h.row.of_block (hg.block g h.row.lt fun e => by
   obtain ⟨_, c2, h5⟩ := ho.own e
   obtain ⟨c, h6, _⟩ := h.row
   rw [h6] at h5
   simp at h5), h.nil, fun k b hk h1 => ⟨(h.got k b hk h1).1.grown ho hg, (h.got k b hk h1).2⟩, h.inj⟩
theorem DP.none (w : World) (lo : Nat) : DP w lo ⟨none, 0, 0⟩ [] := ⟨⟨[], World.ownsRow_nil _ _ _ _, fun e he => (by cases he), List.Pairwise.nil, rfl⟩, Canon.nil, fun t ht => (by cases ht)⟩
structure CoefL (w : World) (P : List Tm) (g d i j : Nat) (v : Value) (bs : Nat → Option Nat) (Ms : Nat → List TE) (Zs : List PV) (wr : World) : Prop where
 row : OC wr w.heap.size v Zs
 len : Zs.length = j
 dp : ∀ k z, Zs[k]? = some z → DP wr w.heap.size z (coefP P i k)
 mr : MR wr w.heap.size g d i P bs Ms
 bel : Below w.heap.size w wr
theorem CoefL.below {w : World} {P : List Tm} {g d i j : Nat} {v : Value} {bs : Nat → Option Nat} {Ms : Nat → List TE} {Zs : List PV} {wr wx : World} (h : CoefL w P g d i j v bs Ms Zs wr) (hb : Below wr.heap.size wr wx) : CoefL w P g d i j v bs Ms Zs wx :=
 ⟨h.row.below hb, h.len, fun k z hz => (h.dp k z hz).below hb, h.mr.below hb, h.bel.trans (hb.mono h.bel.size)⟩
theorem CoefL.push {w : World} {P : List Tm} {g d i j : Nat} {v v' : Value} {bs : Nat → Option Nat} {Ms : Nat → List TE} {Zs : List PV} {wr wx : World} {z : PV} (h : CoefL w P g d i j v bs Ms Zs wr) (hz : DP wr w.heap.size z (coefP P i j))
  (ho : OC wx w.heap.size v' (Zs ++ [z])) (hg : (wr.alloc (.cells #[z.v] 23)).grownBy wx v.ownBlock) : CoefL w P g d i (j + 1) v' bs Ms (Zs ++ [z]) wx := by
 have hb : Below wr.heap.size wr (wr.alloc (.cells #[z.v] 23)) := (Below.refl _ _).alloc (Nat.le_refl _) _
 have h2 := h.below hb
 refine ⟨ho, by rw [List.length_append, h.len]; rfl, fun k y hy => ?_, h2.mr.grown h2.row hg, h2.bel.grown hg h2.bel.size fun k hk => (h2.row.own hk.symm).1⟩
 by_cases hk : k < Zs.length
 ·rw [List.getElem?_append_left hk] at hy
  exact (h2.dp k y hy).grown h2.row hg
 ·have hk2 := (List.getElem?_eq_some_iff.1 hy).1
  rw [List.length_append] at hk2
  have hk3 : k = Zs.length := by simp at hk2; omega
  subst hk3
  rw [List.getElem?_append_right (Nat.le_refl _), Nat.sub_self] at hy
  have hy : some z = some y := hy
  cases hy
  rw [h.len]
  exact (hz.below hb).grown h2.row hg
set_option maxRecDepth 100000 in
set_option maxHeartbeats 16000000 in
theorem coefs_k (li : Nat) (hi : li < 4) (x : PV) (P : List Tm) (k : Nat) (w : World) (hx : AP w x P) (hp : ∀ t ∈ P, LQ t.2 k) (hn : x.n ≤ 1000000) (hk : k ≤ 900000) :
  Calls Tryz.prog 70 #[x.v, .int .i64 (li : Int)] w (CoefR w P li) := by
 have HI := Lib.hid hi
 have hi1 : (li : Int) < 4 := by omega
 have hi2 : ¬ ((li : Int) < 0) := by omega
 have hi3 : (0 : Int) ≤ (li : Int) := by omega
 have HX := Lib.hid hx; have HP := Lib.hid hp; have HN := Lib.hid hn; have HK := Lib.hid hk
 have hp9 : ∀ t ∈ P, LQ t.2 900000 := fun t ht => (hp t ht).up hk
 have HP9 := Lib.hid hp9
 have DG := Lib.hid (degree_k li hi x P w hx hp9 hn)
 have HD0 := Lib.hid (degP_ge P li)
 obtain ⟨D, hD⟩ : ∃ D, D = degP P li := ⟨_, rfl⟩
 have HD := Lib.hid hD
 rw [← hD] at DG HD0
 obtain ⟨xa, xn, xc⟩ := x
 change Calls Tryz.prog 70 #[.slice xa xn xc, .int .i64 (li : Int)] w _
 have hmm := fun (t : TypeId) (w : World) => run_makeMap (P := Tryz.prog) t w
 clear hi hx hp hn hk hp9 hD
 go_enter Tryz.func70, Tryz.ntmps70
 go_wp2_with fail
 with_reducible refine DG.out.mono ?_
 rintro e w1 ⟨rfl, hb⟩
 have KG := Lib.hid hb
 clear hb DG
 by_cases hneg : D < 0
 ·have HNG := Lib.hid hneg
  go_wp2_with fail
  go_ret
  refine ⟨.slice none 0 0, [], rfl, World.ownsRow_nil _ _ _ _, ?_, fun k z h => (by simp at h), KG.out⟩
  rw [← HD.out]
  have h1 := HNG.out
  have h2 := HD0.out
  show (0 : Int) = _
  omega
 ·obtain ⟨d, rfl⟩ : ∃ d : Nat, D = (d : Int) := ⟨D.toNat, by omega⟩
  have hne : P ≠ [] := fun e => by
   have h1 := HD.out
   rw [e] at h1
   have h2 : degP [] li = -1 := rfl
   rw [h2] at h1
   omega
  have hd6 : d ≤ 65535 := by
   obtain ⟨t, ht, h1⟩ := degP_has hne li
   rw [← HD.out] at h1
   have h2 := at_small (HX.out.small t ht) li
   omega
  have HNE := Lib.hid hne
  have HD6 := Lib.hid hd6
  have e1 : IntKind.i64.wrap ((d : Int) + 1) = (d : Int) + 1 := IntWalk.i64_in _ (by omega)
  have hmk := run_make_row' (P := Tryz.prog) 139 86 (.map none) 8 Tryz.underlying139 infoL rfl .i64 .i64 (d + 1) (by omega) (by omega)
  rw [show ((d + 1 : Nat) : Int) = (d : Int) + 1 from rfl] at hmk
  clear hne hneg hd6
  go_upto_region 5 with (fail)
  obtain ⟨V1, hV⟩ : ∃ V, V = w1.alloc (.cells (madeCells #[.map none] (d + 1)) 86) := ⟨_, rfl⟩
  have hbV : Below w1.heap.size w1 V1 := by rw [hV]; exact (Below.refl _ _).alloc (Nat.le_refl _) _
  have HR := Lib.hid (show MR V1 w.heap.size w1.heap.size d li [] (fun _ => none) (fun _ => []) by rw [hV]; exact MR.new)
  obtain ⟨g, hg⟩ : ∃ g, g = w1.heap.size := ⟨_, rfl⟩
  have HG := Lib.hid (show w.heap.size ≤ g by rw [hg]; exact KG.out.size)
  rw [← hg] at HR
  rw [← hV, ← hg]
  have KG := Lib.hid (KG.out.trans (hbV.mono KG.out.size))
  clear hV hbV hg hmk e1
  have OF := Lib.hid (of_at HX.out KG.out HP9.out (by have h := HN.out; show xn ≤ _; exact Nat.le_trans h (by decide)))
  go_wp2_with fail
  with_reducible refine OF.out.mono ?_
  rintro e w2 ⟨⟨ya, yn, yc⟩, he, hy, hyn, hb⟩
  obtain rfl : e = .returned (.slice ya yn yc) := he
  have HY := Lib.hid hy
  have HR := Lib.hid (HR.out.below hb)
  have KG := Lib.hid (KG.out.trans (hb.mono KG.out.size))
  have hyl := hy.len
  change yn = P.length at hyl
  have HYN := Lib.hid (show yn ≤ 1000000 from Nat.le_trans hyn HN.out)
  have HYL := Lib.hid hyl
  obtain ⟨L1, g1, g2, g3, g4⟩ := hy.ex
  have R1 := Lib.hid g1; have F1 := Lib.hid g3; have T1 := Lib.hid g4
  have N1 := Lib.hid (show L1.length = yn from g2)
  clear hy hyn hb OF hyl g1 g2 g3 g4
  go_wp2_with fail
  go_loopw [24] (fun i wr => ∃ (j : Nat) (bs : Nat → Option Nat) (Ms : Nat → List TE), j ≤ yn ∧ i = .int .i64 j ∧ MR wr w.heap.size g d li (P.take j) bs Ms ∧ (∀ k, (Ms k).length ≤ j) ∧ Below w.heap.size w wr) (fun i _ => yn - (intOf i).toNat)
  case atStart =>
   exact ⟨0, (fun _ => none), (fun _ => []), Nat.zero_le _, rfl, (by rw [List.take_zero]; exact HR.out), fun k => Nat.le_refl _, KG.out⟩
  case round =>
   obtain ⟨j, bs, Ms, hj, rfl, hM, hmn, hb0⟩ := hrel
   have HJ := Lib.hid hj; have HR := Lib.hid hM; have HMN := Lib.hid hmn; have KG := Lib.hid hb0
   clear hj hM hmn hb0
   by_cases hjn : j < yn
   ·have HJN := Lib.hid hjn
    have hjl : j < L1.length := by rw [N1.out]; exact hjn
    obtain ⟨pb, po, rfl, hpb, hcs⟩ := (R1.out.below KG.out).off (i := j) (by rw [List.length_map]; exact hjl)
    obtain ⟨e, he⟩ : ∃ e, L1[j]? = some e := ⟨_, List.getElem?_eq_getElem hjl⟩
    obtain ⟨t, q⟩ := e
    obtain ⟨c0, c1, c2, c3, c4, c5, c6, c7⟩ := RT.eight hcs (i := j) (t := t) (by rw [List.getElem?_map, he]; rfl)
    have hmem := List.mem_of_getElem? he
    have hpj : P[j]? = some (t.m, q) := by rw [← T1.out, List.getElem?_map, he]; rfl
    have HPJ := Lib.hid hpj
    have hpm := List.mem_of_getElem? hpj
    have KT := Lib.hid (show ∀ W, Below w.heap.size w W → KF W t.c q from fun W h => (F1.out _ hmem).below h)
    have LQq := Lib.hid (show LQ q 900000 from HP9.out _ hpm)
    have HS1 := Lib.hid (show t.m.Small from HY.out.small _ hpm)
    have hcd : t.m.at li ≤ d := by
     have h1 : ((t.m.at li : Nat) : Int) ≤ degP P li := degP_le hpm
     rw [← HD.out] at h1
     exact Int.ofNat_le.1 h1
    have HCD := Lib.hid (show t.m.at li ≤ d from hcd)
    have HC := Lib.hid (show ((t.m.at li : Nat) : Int) < ((d : Int) + 1) by omega)
    have HC2 := Lib.hid (show ((t.m.at li : Nat) : Int) < ((d + 1 : Nat) : Int) by omega)
    have HC3 := Lib.hid (show t.m.at li < d + 1 by omega)
    go_upto_region 8 with (fail)
    obtain ⟨V0, hV⟩ : ∃ V, V = wr.alloc (.cells #[.bool t.c.t.s, .slice t.c.t.a t.c.t.n t.c.t.c, .bool t.c.l.s, .slice t.c.l.a t.c.l.n t.c.l.c, .int .u16 t.m.x, .int .u16 t.m.y, .int .u16 t.m.z, .int .u16 t.m.t] 50) := ⟨_, rfl⟩
    have hbV : Below wr.heap.size wr V0 := by rw [hV]; exact (Below.refl _ _).alloc (Nat.le_refl _) _
    have B8 := Lib.hid (show Bxs V0 wr.heap.size 50 [.bool t.c.t.s, .slice t.c.t.a t.c.t.n t.c.t.c, .bool t.c.l.s, .slice t.c.l.a t.c.l.n t.c.l.c, .int .u16 t.m.x, .int .u16 t.m.y, .int .u16 t.m.z, .int .u16 t.m.t] by rw [hV]; exact Bxs.new wr 50 [.bool t.c.t.s, .slice t.c.t.a t.c.t.n t.c.t.c, .bool t.c.l.s, .slice t.c.l.a t.c.l.n t.c.l.c, .int .u16 t.m.x, .int .u16 t.m.y, .int .u16 t.m.z, .int .u16 t.m.t])
    obtain ⟨A8, hA8⟩ : ∃ A, A = wr.heap.size := ⟨_, rfl⟩
    have HLA := Lib.hid (show w.heap.size ≤ A8 by rw [hA8]; exact KG.out.size)
    have HGA := Lib.hid (show g ≠ A8 by rw [hA8]; have := HR.out.row.lt; omega)
    have HGA2 := Lib.hid (show A8 ≠ g by have := HGA.out; omega)
    rw [← hV, ← hA8]
    rw [← hA8] at B8
    have HR := Lib.hid (HR.out.below hbV)
    have KG := Lib.hid (KG.out.trans (hbV.mono KG.out.size))
    have ek : IntKind.i64.wrap ((j : Int) + 1) = (j : Int) + 1 := IntWalk.i64_in _ (by have := HJN.out; have := HYN.out; omega)
    have hc := HC.out
    have hc2 := HC2.out
    clear hV hbV hA8 hmem hpj hpm hpb hcs he hjl c0 c1 c2 c3 c4 c5 c6 c7 hjn hcd
    have hrc := HR.out.row.cell HC3.out
    have c88 := B8.out.cell (i := 4 + li) (at_cell _ _ _ _ _ HI.out)
    obtain ⟨ob, hob⟩ : ∃ o, o = bs (t.m.at li) := ⟨_, rfl⟩
    rw [← hob] at hrc
    have HOB := Lib.hid hob
    clear hob
    rcases ob with _ | b
    ·have hr2 := (HR.out.row.alloc (.map #[] 0)).cell HC3.out
     have hr3 := (HR.out.row.alloc (.map #[] 0)).frozen (t.m.at li)
     rw [show bs (t.m.at li) = none from HOB.out.symm] at hr2
     have hq := eq_nil
     go_upto_region 11 with (fail)
     clear hq
     obtain ⟨b, hb⟩ : ∃ b, b = V0.heap.size := ⟨_, rfl⟩
     obtain ⟨V1, hV⟩ : ∃ V, V = (V0.alloc (.map #[] 0)).setCell ⟨g, t.m.at li, none⟩ (.map (some V0.heap.size)) := ⟨_, rfl⟩
     rw [← hV]
     obtain ⟨bs', hbs⟩ : ∃ f : Nat → Option Nat, f = fun j => if j = t.m.at li then some V0.heap.size else bs j := ⟨_, rfl⟩
     obtain ⟨Ms', hms⟩ : ∃ f : Nat → List TE, f = fun j => if j = t.m.at li then [] else Ms j := ⟨_, rfl⟩
     have HR := Lib.hid (show MR V1 w.heap.size g d li (P.take j) bs' Ms' by rw [hV, hbs, hms]; exact MR.fill HR.out HCD.out HOB.out.symm KG.out.size)
     have HMN := Lib.hid (show ∀ k, (Ms' k).length ≤ j from fun k => by
      rw [hms]
      show (if k = t.m.at li then [] else Ms k).length ≤ j
      split
      ·exact Nat.zero_le _
      ·exact HMN.out k)
     have HBS := Lib.hid (show bs' (t.m.at li) = some b by rw [hbs, hb]; exact if_pos rfl)
     have B8 := Lib.hid (show Bxs V1 A8 50 [.bool t.c.t.s, .slice t.c.t.a t.c.t.n t.c.t.c, .bool t.c.l.s, .slice t.c.l.a t.c.l.n t.c.l.c, .int .u16 t.m.x, .int .u16 t.m.y, .int .u16 t.m.z, .int .u16 t.m.t] by rw [hV]; exact (B8.out.alloc _).other HGA2.out _)
     have KG := Lib.hid (show Below w.heap.size w V1 by rw [hV]; exact (KG.out.alloc KG.out.size _).setCell HG.out _)
     clear hV hbs hms hb hr2 hr3 hrc c88
     have HV := Lib.hid (MR.setBxs HR.out B8.out (by decide) HGA.out (4 + li) (.int .u16 0))
     have NT := Lib.hid (KT.out V1 KG.out)
     have c88 := B8.out.cell (i := 4 + li) (at_cell _ _ _ _ _ HI.out)
     have c8f := B8.out.fz
     have c8l := B8.out.lt
     go_upto_region 12 with (fail)
     clear c8f c8l
     obtain ⟨m, hm⟩ : ∃ m, m = t.m.cut li := ⟨_, rfl⟩
     obtain ⟨V, hV⟩ : ∃ V, V = V1.setCell ⟨A8, 4 + li, none⟩ (.int .u16 0) := ⟨_, rfl⟩
     rw [← hV]
     have HR := Lib.hid (show MR V w.heap.size g d li (P.take j) bs' Ms' by rw [hV]; exact HV.out)
     have KG := Lib.hid (show Below w.heap.size w V by rw [hV]; exact KG.out.setCell HLA.out _)
     have NT := Lib.hid (show KF V t.c q from KT.out V KG.out)
     have B8 := Lib.hid (show Bxs V A8 50 [.bool t.c.t.s, .slice t.c.t.a t.c.t.n t.c.t.c, .bool t.c.l.s, .slice t.c.l.a t.c.l.n t.c.l.c, .int .u16 m.x, .int .u16 m.y, .int .u16 m.z, .int .u16 m.t] by rw [hV, hm]; exact put_cut B8.out HI.out)
     have HLG := Lib.hid (show g < V.heap.size from HR.out.row.lt)
     have CG := Lib.hid (show ∀ w', Below V.heap.size V w' → w'.cell? ⟨g, t.m.at li, none⟩ = some (.map (some b)) from fun w' hb => by
      rw [(HR.out.row.of_block (hb.block g HLG.out)).cell HC3.out, HBS.out])
     have HSM := Lib.hid (show m.Small by rw [hm]; exact cut_small HS1.out li)
     have HMC := Lib.hid hm
     have HSZ := Lib.hid (show w.heap.size ≤ V.heap.size from KG.out.size)
     have HMV := Lib.hid (show ∀ e ∈ Ms' (t.m.at li), ∀ b, FV.blk e.1.c b → b < V.heap.size from fun e he b' hb' => (((HR.out.got _ b HCD.out HBS.out).1.df e he).blks b' hb').2)
     clear hV hm c88 HV
     obtain ⟨q101, hq101⟩ : ∃ z : Rat, z = ((1 : Int) : Rat) := ⟨_, rfl⟩
     have Hq101 := Lib.hid hq101
     have LQq101 := Lib.hid (show LQ q101 3 by rw [hq101]; exact LQ.int (by decide) (by decide))
     clear hq101
     obtain ⟨q102, hq102⟩ : ∃ z : Rat, z = q * q101 := ⟨_, rfl⟩
     have Hq102 := Lib.hid hq102
     have LQq102 := Lib.hid (show LQ q102 1800000 by rw [hq102]; exact LQ.mul (LQq.out.up (by decide : _ ≤ 900000)) (LQq101.out.up (by decide : _ ≤ 900000)) (by decide))
     clear hq102
     go_upto_region 12 with (fail)
     refine Go.FS.wp_region_fresh 10 [] (Go.FS.spOf [(6, Go.FS.Sp.made (fun x : FV => x.v) (fun x w' => DF w' V.heap.size x q101) FV.blk), (7, Go.FS.Sp.made (fun x : FV => x.v) (fun x w' => DF w' V.heap.size x q102) FV.blk)])
      (fun w' => Below V.heap.size V w') (by kernel_rfl) (by kernel_rfl) (by kernel_rfl)
      (Go.FS.spOf_cons (Go.FS.Sp.made_keeps _ (fun _ _ _ h _ hk => h.kept hk) (Go.FS.notTaken (by kernel_rfl))) (Go.FS.spOf_cons (Go.FS.Sp.made_keeps _ (fun _ _ _ h _ hk => h.kept hk) (Go.FS.notTaken (by kernel_rfl))) (Go.FS.spOf_nil))) (fun _ _ h hb => h.trans (hb.mono h.size)) ((Below.refl _ _).drew) ?_
     simp only [List.append_eq, List.cons_append, List.nil_append, List.take_succ_cons, List.take_zero, List.drop_succ_cons, List.drop_zero]
     iterate 2
      refine Go.FS.wpF_reads rfl rfl rfl ?_ (fun w' hw' => ?_) ?_
      rotate_left
      ·have hb' := hw'.world
       skip
       clear hw'
       go_simp
       try rfl
      conv => arg 10; simp only [Act.put, Go.q0, Go.q1, Go.q2]
     refine Go.FS.wpF_reads rfl rfl rfl ?_ (fun w' hw' => ?_) ?_
     rotate_left
     ·have hb' := hw'.world
      have hc := HC.out
      have hc2 := HC2.out
      clear hw'
      go_simp
      try rfl
     conv => arg 10; simp only [Act.put, Go.q0, Go.q1, Go.q2]
     refine Go.FS.wpF_reads rfl rfl rfl ?_ (fun w' hw' => ?_) ?_
     rotate_left
     ·have hb' := hw'.world
      have hs := CG.out w' hb'
      clear hw'
      go_simp
      try rfl
     conv => arg 10; simp only [Act.put, Go.q0, Go.q1, Go.q2]
     refine Go.FS.wpF_reads rfl rfl rfl ?_ (fun w' hw' => ?_) ?_
     rotate_left
     ·have hb' := hw'.world
      skip
      clear hw'
      go_simp
      try rfl
     conv => arg 10; simp only [Act.put, Go.q0, Go.q1, Go.q2]
     refine Go.FS.wpF_reads rfl rfl rfl ?_ (fun w' hw' => ?_) ?_
     rotate_left
     ·have hb' := hw'.world
      have hs0 := (B8.out.below hb' B8.out.lt).cell (i := 0) rfl
      have hs1 := (B8.out.below hb' B8.out.lt).cell (i := 1) rfl
      have hs2 := (B8.out.below hb' B8.out.lt).cell (i := 2) rfl
      have hs3 := (B8.out.below hb' B8.out.lt).cell (i := 3) rfl
      have hs4 := (B8.out.below hb' B8.out.lt).cell (i := 4) rfl
      have hs5 := (B8.out.below hb' B8.out.lt).cell (i := 5) rfl
      have hs6 := (B8.out.below hb' B8.out.lt).cell (i := 6) rfl
      have hs7 := (B8.out.below hb' B8.out.lt).cell (i := 7) rfl
      have hsf := (B8.out.below hb' B8.out.lt).fz
      have hsl := (B8.out.below hb' B8.out.lt).lt
      clear hw'
      go_simp
      try rfl
     conv => arg 10; simp only [Act.put, Go.q0, Go.q1, Go.q2]
     refine Go.FS.wpF_spec rfl rfl rfl (fun w' hw' => ?_) ?_
     ·have hb' := hw'.world
      refine Go.FS.gives_of (Go.FS.PM (fun x : FV => x.v) (fun x w' => DF w' V.heap.size x q101) FV.blk w'.heap.size) ?_ (fun _ _ h => h.post (fun _ _ => FV.inj))
      go_simp
      have CT := qof 1 w' (by decide) (by decide)
      rw [show ((1 : Int) : Rat) = q101 from Hq101.out.symm] at CT
      refine CT.mono ?_
      rintro e w'' ⟨za, rfl, ho, hb⟩
      exact ⟨_, rfl, ⟨za, rfl, ho.mono hb'.size, ho.blks⟩, hb⟩
     rintro _ ⟨y6, rfl⟩
     conv => arg 10; simp only [Act.put, Go.q0, Go.q1, Go.q2]
     refine Go.FS.wpF_spec rfl rfl rfl (fun w' hw' => ?_) ?_
     ·have hb' := hw'.world
      refine Go.FS.gives_of (Go.FS.PM (fun x : FV => x.v) (fun x w' => DF w' V.heap.size x q102) FV.blk w'.heap.size) ?_ (fun _ _ h => h.post (fun _ _ => FV.inj))
      go_simp
      have f6 := Go.FS.made_of (val := (fun x : FV => x.v)) (Φ := fun x w' => DF w' V.heap.size x q101) (fun _ _ => FV.inj) (hw'.fact 6 (by kernel_rfl))
      have CT := qmul ((NT.out.below hb')).any (((NT.out.below hb')).len LQq.out (by decide : _ ≤ 900000)) (f6).k.any (((f6).k).len LQq101.out (by decide : _ ≤ 900000))
      rw [show q * q101 = q102 from Hq102.out.symm] at CT
      refine CT.mono ?_
      rintro e w'' ⟨za, rfl, ho, hb⟩
      exact ⟨_, rfl, ⟨za, rfl, ho.mono hb'.size, ho.blks⟩, hb⟩
     rintro _ ⟨y7, rfl⟩
     conv => arg 10; simp only [Act.put, Go.q0, Go.q1, Go.q2]
     refine Go.FS.wpF_reads rfl rfl rfl ?_ (fun w' hw' => ?_) ?_
     rotate_left
     ·have hb' := hw'.world
      skip
      clear hw'
      go_simp
      try rfl
     conv => arg 10; simp only [Act.put, Go.q0, Go.q1, Go.q2]
     refine Go.FS.wpF_reads rfl rfl rfl ?_ (fun w' hw' => ?_) ?_
     rotate_left
     ·have hb' := hw'.world
      have hs0 := (B8.out.below hb' B8.out.lt).cell (i := 0) rfl
      have hs1 := (B8.out.below hb' B8.out.lt).cell (i := 1) rfl
      have hs2 := (B8.out.below hb' B8.out.lt).cell (i := 2) rfl
      have hs3 := (B8.out.below hb' B8.out.lt).cell (i := 3) rfl
      have hs4 := (B8.out.below hb' B8.out.lt).cell (i := 4) rfl
      have hs5 := (B8.out.below hb' B8.out.lt).cell (i := 5) rfl
      have hs6 := (B8.out.below hb' B8.out.lt).cell (i := 6) rfl
      have hs7 := (B8.out.below hb' B8.out.lt).cell (i := 7) rfl
      have hsf := (B8.out.below hb' B8.out.lt).fz
      have hsl := (B8.out.below hb' B8.out.lt).lt
      clear hw'
      go_simp
      try rfl
     conv => arg 10; simp only [Act.put, Go.q0, Go.q1, Go.q2]
     refine Go.FS.wpF_nil (fun w103 hb hF => ?_)
     have N104 := Lib.hid (show DF w103 V.heap.size y7 q102 from (Go.FS.made_of (val := (fun x : FV => x.v)) (Φ := fun x w' => DF w' V.heap.size x q102) (fun _ _ => FV.inj) (hF.all 7)))
     clear hF
     have NT := Lib.hid (NT.out.below hb)
     have HR := Lib.hid (HR.out.below hb)
     have B8 := Lib.hid (B8.out.below hb B8.out.lt)
     have KG := Lib.hid (KG.out.trans (hb.mono KG.out.size))
     clear hb
     have HAP := Lib.hid (show ∀ e ∈ Ms' (t.m.at li), FV.apart e.1.c y7 from fun e he b hb1 hb2 => Nat.not_lt_of_le (N104.out.blks b hb2).1 (HMV.out e he b hb1))
     have AD := Lib.hid (add_likes b w.heap.size (Ms' (t.m.at li)) y7 q m w103 (HR.out.got _ b HCD.out HBS.out).1 (show DF w103 w.heap.size y7 q by have h := N104.out.mono HSZ.out; rwa [show q102 = q by rw [Hq102.out, Hq101.out]; grind] at h) HAP.out HSM.out LQq.out (HR.out.lqs (canon_take HY.out.canon j) (fun u hu => HP.out u (List.mem_of_mem_take hu)) HK.out HCD.out HBS.out) KG.out.size)
     go_wp2_with fail
     with_reducible refine AD.out.mono ?_
     rintro e w9 ⟨rfl, ⟨L', hM', hv'⟩, hOn⟩
     have HR9 := Lib.hid (HR.out.add (m := t.m) (q := q) (i := li) HCD.out HBS.out hOn hM' (by rw [hv', HMC.out]))
     have HL9 := Lib.hid (show L'.length ≤ j + 1 by
      have h1 := congrArg List.length hv'
      have h2 := putT_len m q ((Ms' (t.m.at li)).map tm)
      rw [List.length_map] at h1 h2
      have := HMN.out (t.m.at li)
      omega)
     have HGB := Lib.hid (show w.heap.size ≤ b from (HR.out.got _ b HCD.out HBS.out).1.ge)
     have KG := Lib.hid (Only.bel KG.out hOn HGB.out KG.out.size)
     clear hM' hv' hOn AD
     go_wp2_with fail
     go_roundw
     case rel =>
      refine ⟨j + 1, bs', (fun k => if k = t.m.at li then L' else Ms' k), by have := HJN.out; omega, rfl, ?_, fun k => ?_, KG.out⟩
      ·rw [List.take_add_one, HPJ.out]
       exact HR9.out
      ·show (if k = t.m.at li then L' else Ms' k).length ≤ j + 1
       by_cases e : k = t.m.at li
       ·rw [if_pos e]; exact HL9.out
       ·rw [if_neg e]; exact Nat.le_succ_of_le (HMN.out k)
     case measure => simp [intOf]; have := HJN.out; omega
    ·have HBS := Lib.hid (show bs (t.m.at li) = some b from HOB.out.symm)
     have hq := eq_map b
     go_upto_region 11 with (fail)
     clear hrc hq c88
     have HV := Lib.hid (MR.setBxs HR.out B8.out (by decide) HGA.out (4 + li) (.int .u16 0))
     have NT := Lib.hid (KT.out V0 KG.out)
     have c88 := B8.out.cell (i := 4 + li) (at_cell _ _ _ _ _ HI.out)
     have c8f := B8.out.fz
     have c8l := B8.out.lt
     go_upto_region 12 with (fail)
     clear c8f c8l
     obtain ⟨m, hm⟩ : ∃ m, m = t.m.cut li := ⟨_, rfl⟩
     obtain ⟨V, hV⟩ : ∃ V, V = V0.setCell ⟨A8, 4 + li, none⟩ (.int .u16 0) := ⟨_, rfl⟩
     rw [← hV]
     have HR := Lib.hid (show MR V w.heap.size g d li (P.take j) bs Ms by rw [hV]; exact HV.out)
     have KG := Lib.hid (show Below w.heap.size w V by rw [hV]; exact KG.out.setCell HLA.out _)
     have NT := Lib.hid (show KF V t.c q from KT.out V KG.out)
     have B8 := Lib.hid (show Bxs V A8 50 [.bool t.c.t.s, .slice t.c.t.a t.c.t.n t.c.t.c, .bool t.c.l.s, .slice t.c.l.a t.c.l.n t.c.l.c, .int .u16 m.x, .int .u16 m.y, .int .u16 m.z, .int .u16 m.t] by rw [hV, hm]; exact put_cut B8.out HI.out)
     have HLG := Lib.hid (show g < V.heap.size from HR.out.row.lt)
     have CG := Lib.hid (show ∀ w', Below V.heap.size V w' → w'.cell? ⟨g, t.m.at li, none⟩ = some (.map (some b)) from fun w' hb => by
      rw [(HR.out.row.of_block (hb.block g HLG.out)).cell HC3.out, HBS.out])
     have HSM := Lib.hid (show m.Small by rw [hm]; exact cut_small HS1.out li)
     have HMC := Lib.hid hm
     have HSZ := Lib.hid (show w.heap.size ≤ V.heap.size from KG.out.size)
     have HMV := Lib.hid (show ∀ e ∈ Ms (t.m.at li), ∀ b, FV.blk e.1.c b → b < V.heap.size from fun e he b' hb' => (((HR.out.got _ b HCD.out HBS.out).1.df e he).blks b' hb').2)
     clear hV hm c88 HV
     obtain ⟨q101, hq101⟩ : ∃ z : Rat, z = ((1 : Int) : Rat) := ⟨_, rfl⟩
     have Hq101 := Lib.hid hq101
     have LQq101 := Lib.hid (show LQ q101 3 by rw [hq101]; exact LQ.int (by decide) (by decide))
     clear hq101
     obtain ⟨q102, hq102⟩ : ∃ z : Rat, z = q * q101 := ⟨_, rfl⟩
     have Hq102 := Lib.hid hq102
     have LQq102 := Lib.hid (show LQ q102 1800000 by rw [hq102]; exact LQ.mul (LQq.out.up (by decide : _ ≤ 900000)) (LQq101.out.up (by decide : _ ≤ 900000)) (by decide))
     clear hq102
     go_upto_region 12 with (fail)
     refine Go.FS.wp_region_fresh 10 [] (Go.FS.spOf [(6, Go.FS.Sp.made (fun x : FV => x.v) (fun x w' => DF w' V.heap.size x q101) FV.blk), (7, Go.FS.Sp.made (fun x : FV => x.v) (fun x w' => DF w' V.heap.size x q102) FV.blk)])
      (fun w' => Below V.heap.size V w') (by kernel_rfl) (by kernel_rfl) (by kernel_rfl)
      (Go.FS.spOf_cons (Go.FS.Sp.made_keeps _ (fun _ _ _ h _ hk => h.kept hk) (Go.FS.notTaken (by kernel_rfl))) (Go.FS.spOf_cons (Go.FS.Sp.made_keeps _ (fun _ _ _ h _ hk => h.kept hk) (Go.FS.notTaken (by kernel_rfl))) (Go.FS.spOf_nil))) (fun _ _ h hb => h.trans (hb.mono h.size)) ((Below.refl _ _).drew) ?_
     simp only [List.append_eq, List.cons_append, List.nil_append, List.take_succ_cons, List.take_zero, List.drop_succ_cons, List.drop_zero]
     iterate 2
      refine Go.FS.wpF_reads rfl rfl rfl ?_ (fun w' hw' => ?_) ?_
      rotate_left
      ·have hb' := hw'.world
       skip
       clear hw'
       go_simp
       try rfl
      conv => arg 10; simp only [Act.put, Go.q0, Go.q1, Go.q2]
     refine Go.FS.wpF_reads rfl rfl rfl ?_ (fun w' hw' => ?_) ?_
     rotate_left
     ·have hb' := hw'.world
      have hc := HC.out
      have hc2 := HC2.out
      clear hw'
      go_simp
      try rfl
     conv => arg 10; simp only [Act.put, Go.q0, Go.q1, Go.q2]
     refine Go.FS.wpF_reads rfl rfl rfl ?_ (fun w' hw' => ?_) ?_
     rotate_left
     ·have hb' := hw'.world
      have hs := CG.out w' hb'
      clear hw'
      go_simp
      try rfl
     conv => arg 10; simp only [Act.put, Go.q0, Go.q1, Go.q2]
     refine Go.FS.wpF_reads rfl rfl rfl ?_ (fun w' hw' => ?_) ?_
     rotate_left
     ·have hb' := hw'.world
      skip
      clear hw'
      go_simp
      try rfl
     conv => arg 10; simp only [Act.put, Go.q0, Go.q1, Go.q2]
     refine Go.FS.wpF_reads rfl rfl rfl ?_ (fun w' hw' => ?_) ?_
     rotate_left
     ·have hb' := hw'.world
      have hs0 := (B8.out.below hb' B8.out.lt).cell (i := 0) rfl
      have hs1 := (B8.out.below hb' B8.out.lt).cell (i := 1) rfl
      have hs2 := (B8.out.below hb' B8.out.lt).cell (i := 2) rfl
      have hs3 := (B8.out.below hb' B8.out.lt).cell (i := 3) rfl
      have hs4 := (B8.out.below hb' B8.out.lt).cell (i := 4) rfl
      have hs5 := (B8.out.below hb' B8.out.lt).cell (i := 5) rfl
      have hs6 := (B8.out.below hb' B8.out.lt).cell (i := 6) rfl
      have hs7 := (B8.out.below hb' B8.out.lt).cell (i := 7) rfl
      have hsf := (B8.out.below hb' B8.out.lt).fz
      have hsl := (B8.out.below hb' B8.out.lt).lt
      clear hw'
      go_simp
      try rfl
     conv => arg 10; simp only [Act.put, Go.q0, Go.q1, Go.q2]
     refine Go.FS.wpF_spec rfl rfl rfl (fun w' hw' => ?_) ?_
     ·have hb' := hw'.world
      refine Go.FS.gives_of (Go.FS.PM (fun x : FV => x.v) (fun x w' => DF w' V.heap.size x q101) FV.blk w'.heap.size) ?_ (fun _ _ h => h.post (fun _ _ => FV.inj))
      go_simp
      have CT := qof 1 w' (by decide) (by decide)
      rw [show ((1 : Int) : Rat) = q101 from Hq101.out.symm] at CT
      refine CT.mono ?_
      rintro e w'' ⟨za, rfl, ho, hb⟩
      exact ⟨_, rfl, ⟨za, rfl, ho.mono hb'.size, ho.blks⟩, hb⟩
     rintro _ ⟨y6, rfl⟩
     conv => arg 10; simp only [Act.put, Go.q0, Go.q1, Go.q2]
     refine Go.FS.wpF_spec rfl rfl rfl (fun w' hw' => ?_) ?_
     ·have hb' := hw'.world
      refine Go.FS.gives_of (Go.FS.PM (fun x : FV => x.v) (fun x w' => DF w' V.heap.size x q102) FV.blk w'.heap.size) ?_ (fun _ _ h => h.post (fun _ _ => FV.inj))
      go_simp
      have f6 := Go.FS.made_of (val := (fun x : FV => x.v)) (Φ := fun x w' => DF w' V.heap.size x q101) (fun _ _ => FV.inj) (hw'.fact 6 (by kernel_rfl))
      have CT := qmul ((NT.out.below hb')).any (((NT.out.below hb')).len LQq.out (by decide : _ ≤ 900000)) (f6).k.any (((f6).k).len LQq101.out (by decide : _ ≤ 900000))
      rw [show q * q101 = q102 from Hq102.out.symm] at CT
      refine CT.mono ?_
      rintro e w'' ⟨za, rfl, ho, hb⟩
      exact ⟨_, rfl, ⟨za, rfl, ho.mono hb'.size, ho.blks⟩, hb⟩
     rintro _ ⟨y7, rfl⟩
     conv => arg 10; simp only [Act.put, Go.q0, Go.q1, Go.q2]
     refine Go.FS.wpF_reads rfl rfl rfl ?_ (fun w' hw' => ?_) ?_
     rotate_left
     ·have hb' := hw'.world
      skip
      clear hw'
      go_simp
      try rfl
     conv => arg 10; simp only [Act.put, Go.q0, Go.q1, Go.q2]
     refine Go.FS.wpF_reads rfl rfl rfl ?_ (fun w' hw' => ?_) ?_
     rotate_left
     ·have hb' := hw'.world
      have hs0 := (B8.out.below hb' B8.out.lt).cell (i := 0) rfl
      have hs1 := (B8.out.below hb' B8.out.lt).cell (i := 1) rfl
      have hs2 := (B8.out.below hb' B8.out.lt).cell (i := 2) rfl
      have hs3 := (B8.out.below hb' B8.out.lt).cell (i := 3) rfl
      have hs4 := (B8.out.below hb' B8.out.lt).cell (i := 4) rfl
      have hs5 := (B8.out.below hb' B8.out.lt).cell (i := 5) rfl
      have hs6 := (B8.out.below hb' B8.out.lt).cell (i := 6) rfl
      have hs7 := (B8.out.below hb' B8.out.lt).cell (i := 7) rfl
      have hsf := (B8.out.below hb' B8.out.lt).fz
      have hsl := (B8.out.below hb' B8.out.lt).lt
      clear hw'
      go_simp
      try rfl
     conv => arg 10; simp only [Act.put, Go.q0, Go.q1, Go.q2]
     refine Go.FS.wpF_nil (fun w103 hb hF => ?_)
     have N104 := Lib.hid (show DF w103 V.heap.size y7 q102 from (Go.FS.made_of (val := (fun x : FV => x.v)) (Φ := fun x w' => DF w' V.heap.size x q102) (fun _ _ => FV.inj) (hF.all 7)))
     clear hF
     have NT := Lib.hid (NT.out.below hb)
     have HR := Lib.hid (HR.out.below hb)
     have B8 := Lib.hid (B8.out.below hb B8.out.lt)
     have KG := Lib.hid (KG.out.trans (hb.mono KG.out.size))
     clear hb
     have HAP := Lib.hid (show ∀ e ∈ Ms (t.m.at li), FV.apart e.1.c y7 from fun e he b hb1 hb2 => Nat.not_lt_of_le (N104.out.blks b hb2).1 (HMV.out e he b hb1))
     have AD := Lib.hid (add_likes b w.heap.size (Ms (t.m.at li)) y7 q m w103 (HR.out.got _ b HCD.out HBS.out).1 (show DF w103 w.heap.size y7 q by have h := N104.out.mono HSZ.out; rwa [show q102 = q by rw [Hq102.out, Hq101.out]; grind] at h) HAP.out HSM.out LQq.out (HR.out.lqs (canon_take HY.out.canon j) (fun u hu => HP.out u (List.mem_of_mem_take hu)) HK.out HCD.out HBS.out) KG.out.size)
     go_wp2_with fail
     with_reducible refine AD.out.mono ?_
     rintro e w9 ⟨rfl, ⟨L', hM', hv'⟩, hOn⟩
     have HR9 := Lib.hid (HR.out.add (m := t.m) (q := q) (i := li) HCD.out HBS.out hOn hM' (by rw [hv', HMC.out]))
     have HL9 := Lib.hid (show L'.length ≤ j + 1 by
      have h1 := congrArg List.length hv'
      have h2 := putT_len m q ((Ms (t.m.at li)).map tm)
      rw [List.length_map] at h1 h2
      have := HMN.out (t.m.at li)
      omega)
     have HGB := Lib.hid (show w.heap.size ≤ b from (HR.out.got _ b HCD.out HBS.out).1.ge)
     have KG := Lib.hid (Only.bel KG.out hOn HGB.out KG.out.size)
     clear hM' hv' hOn AD
     go_wp2_with fail
     go_roundw
     case rel =>
      refine ⟨j + 1, bs, (fun k => if k = t.m.at li then L' else Ms k), by have := HJN.out; omega, rfl, ?_, fun k => ?_, KG.out⟩
      ·rw [List.take_add_one, HPJ.out]
       exact HR9.out
      ·show (if k = t.m.at li then L' else Ms k).length ≤ j + 1
       by_cases e : k = t.m.at li
       ·rw [if_pos e]; exact HL9.out
       ·rw [if_neg e]; exact Nat.le_succ_of_le (HMN.out k)
     case measure => simp [intOf]; have := HJN.out; omega
   ·have HJE := Lib.hid (show j = yn by have := HJ.out; omega)
    have hge : ¬ ((j : Int) < (yn : Int)) := by omega
    have HR := Lib.hid (show MR wr w.heap.size g d li P bs Ms by have h := HR.out; rwa [List.take_of_length_le (by rw [HJE.out, HYL.out]; exact Nat.le_refl _)] at h)
    have HLQ := Lib.hid (show ∀ k b, k ≤ d → bs k = some b → ∀ e ∈ Ms k, LQ e.2 900000 from fun k b hk hb => HR.out.lqs HY.out.canon HP.out HK.out hk hb)
    obtain ⟨i1, hi, hz0, hz1, hz2⟩ := info_parts infoP
    clear hjn
    go_wp2_with fail
    go_loopw [10, 58] (fun p i wx => ∃ (l : Nat) (Zs : List PV), l ≤ d + 1 ∧ i = .int .i64 l ∧ CoefL w P g d li l p bs Ms Zs wx) (fun _ i _ => d + 1 - (intOf i).toNat)
    case atStart => exact ⟨0, [], Nat.zero_le _, rfl, ⟨World.ownsRow_nil _ _ _ _, rfl, fun k z h => (by simp at h), HR.out, KG.out⟩⟩
    case round =>
     obtain ⟨l, Zs, hl, rfl, hcl⟩ := hrel
     have HL := Lib.hid hl; have HCL := Lib.hid hcl
     clear hl hcl
     by_cases hln : l < d + 1
     ·have HLN := Lib.hid hln
      have HLD := Lib.hid (show l ≤ d by omega)
      have hrc := HCL.out.mr.row.cell hln
      have h1 : (l : Int) < ((d + 1 : Nat) : Int) := by omega
      have h2 : (l : Int) < (d : Int) + 1 := by omega
      have el : IntKind.i64.wrap ((l : Int) + 1) = (l : Int) + 1 := IntWalk.i64_in _ (by have := HD6.out; omega)
      obtain ⟨ob, hob⟩ : ∃ o, o = bs l := ⟨_, rfl⟩
      rw [← hob] at hrc
      have HOB := Lib.hid hob
      clear hob hln
      rcases ob with _ | b
      ·have SM := Lib.hid (sum_nil wr)
       go_wp2_with fail
       with_reducible refine SM.out.mono ?_
       rintro e w4 ⟨rfl, hb⟩
       have HCL := Lib.hid (HCL.out.below hb)
       have HZ := Lib.hid (show DP w4 w.heap.size ⟨none, 0, 0⟩ (coefP P li l) by rw [HCL.out.mr.nil l HLD.out HOB.out.symm]; exact DP.none _ _)
       clear hb SM hrc
       go_wp2_with (first | (at_builtin; refine wpList_append_own _ rfl _ _ 66 rfl w.heap.size 23 i1 _ 1 24 Tryz.underlying66 hi hz0 hz1 hz2 rfl (by decide) _ _ _ rfl (HCL.out.row.alloc _) ⟨w4.heap.size, 0, none⟩ 1 1 [.slice none 0 0] rfl rfl ?c1 ?c2 ?c3 ?c4 ?c5 ?_))
       case c1 =>
        intro j u hj
        match j, hj with
        | 0, hj => simp at hj; subst hj; simp [Addr.add]
       case c2 =>
        intro u hu
        rw [List.mem_singleton.1 hu]
        rfl
       case c3 => rw [HCL.out.len]; have := HLD.out; have := HD6.out; unfold maxLen; omega
       case c4 => rw [HCL.out.len]; have := HLD.out; have := HD6.out; omega
       case c5 => have := HCL.out.bel.size; simp; omega
       intro v' w5 hown hgrow _
       have HC5 := Lib.hid (HCL.out.push HZ.out (show OC w5 w.heap.size v' (Zs ++ [⟨none, 0, 0⟩]) by
        show w5.ownsRow _ _ _ _ _ _
        rw [List.length_append, List.map_append]
        exact hown) hgrow)
       clear hown hgrow
       go_wp2_with fail
       go_roundw
       case rel => exact ⟨l + 1, Zs ++ [⟨none, 0, 0⟩], by have := HLN.out; omega, rfl, HC5.out⟩
       case measure => simp [intOf]; have := HLN.out; omega
      ·have SM := Lib.hid (sum_likes b w.heap.size (Ms l) wr (HCL.out.mr.got l b HLD.out HOB.out.symm).1 (HLQ.out l b HLD.out HOB.out.symm) HCL.out.bel.size (by have h1 := HMN.out l; have h2 := HJ.out; have h3 := HYN.out; omega))
       go_wp2_with fail
       with_reducible refine SM.out.mono ?_
       rintro e w4 ⟨⟨za, zn, zc⟩, he, hz, hb⟩
       obtain rfl : e = .returned (.slice za zn zc) := he
       have HZ := Lib.hid (show DP w4 w.heap.size ⟨za, zn, zc⟩ (coefP P li l) by
        rw [show coefP P li l = nf ((Ms l).map tm) from (nf_id (coefP_canon HY.out.canon li l)).symm.trans (nf_of_ev fun f => ((HCL.out.mr.got l b HLD.out HOB.out.symm).2 f).symm)]
        exact hz)
       have HCL := Lib.hid (HCL.out.below hb)
       clear hz hb SM hrc
       go_wp2_with (first | (at_builtin; refine wpList_append_own _ rfl _ _ 66 rfl w.heap.size 23 i1 _ 1 24 Tryz.underlying66 hi hz0 hz1 hz2 rfl (by decide) _ _ _ rfl (HCL.out.row.alloc _) ⟨w4.heap.size, 0, none⟩ 1 1 [.slice za zn zc] rfl rfl ?c1 ?c2 ?c3 ?c4 ?c5 ?_))
       case c1 =>
        intro j u hj
        match j, hj with
        | 0, hj => simp at hj; subst hj; simp [Addr.add]
       case c2 =>
        intro u hu
        rw [List.mem_singleton.1 hu]
        rfl
       case c3 => rw [HCL.out.len]; have := HLD.out; have := HD6.out; unfold maxLen; omega
       case c4 => rw [HCL.out.len]; have := HLD.out; have := HD6.out; omega
       case c5 => have := HCL.out.bel.size; simp; omega
       intro v' w5 hown hgrow _
       have HC5 := Lib.hid (HCL.out.push HZ.out (show OC w5 w.heap.size v' (Zs ++ [⟨za, zn, zc⟩]) by
        show w5.ownsRow _ _ _ _ _ _
        rw [List.length_append, List.map_append]
        exact hown) hgrow)
       clear hown hgrow
       go_wp2_with fail
       go_roundw
       case rel => exact ⟨l + 1, Zs ++ [⟨za, zn, zc⟩], by have := HLN.out; omega, rfl, HC5.out⟩
       case measure => simp [intOf]; have := HLN.out; omega
     ·have hge : ¬ ((l : Int) < ((d + 1 : Nat) : Int)) := by omega
      have hge2 : ¬ ((l : Int) < (d : Int) + 1) := by omega
      have HLE := Lib.hid (show l = d + 1 by have := HL.out; omega)
      clear hln
      go_wp2_with fail
      go_ret
      refine ⟨_, Zs, rfl, HCL.out.row, ?_, HCL.out.dp, HCL.out.bel⟩
      rw [HCL.out.len, HLE.out, ← HD.out]
      rfl
set_option maxRecDepth 100000 in
set_option maxHeartbeats 4000000 in
theorem letter_out (l : Int) (hl : l < 0 ∨ 4 ≤ l) (w : World) : Calls Tryz.prog 34 #[.int .i64 l] w fun e w' => e = .returned (.tuple #[.slice none 0 0, .int .i64 1]) ∧ Below w.heap.size w w' := by
 by_cases h : l < 0
 ·have h1 := h
  go_enter Tryz.func34, Tryz.ntmps34
  go_wp2_with fail
  go_ret2
  exact ⟨rfl, Below.refl _ _⟩
 ·have h1 : 4 ≤ l := by omega
  have h2 : l ≥ 4 := h1
  go_enter Tryz.func34, Tryz.ntmps34
  go_wp2_with fail
  go_ret2
  exact ⟨rfl, Below.refl _ _⟩
def l4 (a b c d : Rat) : Nat → Rat := fun i => if i = 0 then a else if i = 1 then b else if i = 2 then c else d
theorem k4_of {w : World} {x0 x1 x2 x3 : FV} {a b c d : Rat} (h0 : KF w x0 a) (h1 : KF w x1 b) (h2 : KF w x2 c) (h3 : KF w x3 d) : K4 w x0 x1 x2 x3 (l4 a b c d) := ⟨h0, h1, h2, h3⟩
theorem l4_lq {a b c d : Rat} {k : Nat} (h0 : LQ a k) (h1 : LQ b k) (h2 : LQ c k) (h3 : LQ d k) : ∀ i, LQ (l4 a b c d i) k := fun i => by
 unfold l4
 split
 ·exact h0
 ·split
  ·exact h1
  ·split
   ·exact h2
   ·exact h3
structure CP (w : World) (a : Option Addr) (n c : Nat) (P : List Tm) (i : Nat) : Prop where
 len : (n : Int) = degP P i + 1
 get : ∀ k, k < n → ∃ (b : Nat) (z : PV), a = some ⟨b, 0, none⟩ ∧ w.cell? ⟨b, k, none⟩ = some z.v ∧ KP w z (coefP P i k)
 cap : n ≤ c
theorem CP.below {w w' : World} {a : Option Addr} {n c : Nat} {P : List Tm} {i : Nat} (h : CP w a n c P i) (hb : Below w.heap.size w w') : CP w' a n c P i :=
 ⟨h.len, fun k hk => by
  obtain ⟨b, z, h1, h2, h3⟩ := h.get k hk
  exact ⟨b, z, h1, (hb.cell (p := ⟨b, k, none⟩) (block_lt_of_cell h2)).trans h2, h3.below hb⟩, h.cap⟩
theorem CP.of {w : World} {lo : Nat} {v : Value} {Zs : List PV} {P : List Tm} {i : Nat} (h : OC w lo v Zs) (hl : (Zs.length : Int) = degP P i + 1) (hd : ∀ k z, Zs[k]? = some z → DP w lo z (coefP P i k)) : ∃ a c, v = .slice a Zs.length c ∧ CP w a Zs.length c P i := by
 rcases h.2 with ⟨hv, h0⟩ | ⟨g, cap, cur, hv, hlo, hg, hnc, _, hcs, htake⟩
 ·refine ⟨none, 0, by rw [hv, h0], hl, fun k hk => by omega, by omega⟩
 ·refine ⟨some ⟨g, 0, none⟩, cap, hv, hl, fun k hk => ?_, hnc⟩
  obtain ⟨z, hz⟩ : ∃ z, Zs[k]? = some z := ⟨_, List.getElem?_eq_getElem hk⟩
  refine ⟨g, z, rfl, ?_, (hd k z hz).k⟩
  rw [cell_of_row _ _ _ _ _ _ hg]
  have h1 : (Zs.map PV.v)[k]? = some z.v := by rw [List.getElem?_map, hz]; rfl
  rw [← htake, List.getElem?_take, if_pos (by omega), Array.getElem?_toList] at h1
  exact h1
theorem pcoefs {w : World} {x : PV} {P : List Tm} {n k e : Nat} (i : Nat) (hi : i < 4) (hx : KP w x P) (b : PC P n k e) (hk : k ≤ 900000) (hn : n ≤ 1000000) :
  Calls Tryz.prog 70 #[x.v, .int .i64 (i : Int)] w fun e w' => ∃ (a : Option Addr) (n c : Nat), e = .returned (.slice a n c) ∧ CP w' a n c P i ∧ Below w.heap.size w w' :=
 (coefs_k i hi x P k w hx.any (b.lq (Nat.le_refl _)) (Nat.le_trans (hx.n_le b) hn) hk).mono fun e w' ⟨v, Zs, h1, h2, h3, h4, h5⟩ => by
  obtain ⟨a, c, rfl, h6⟩ := CP.of h2 h3 h4
  exact ⟨a, Zs.length, c, h1, h6, h5⟩
theorem plead {w : World} {x : PV} {P : List Tm} {n k e : Nat} (o : Int) (hx : KP w x P) (b : PC P n k e) (hk : k ≤ 900000) (hn : n ≤ 1000000) (hne : P ≠ []) :
  Calls Tryz.prog 22 #[.int .u8 o, x.v] w fun e w' => ∃ (y : FV) (t : Tm), e = .returned (.tuple #[TV.v ⟨y, t.1⟩, .bool true]) ∧ DF w' w.heap.size y t.2 ∧ Lead (keyO o) P t ∧ Below w.heap.size w w' :=
 lead_k o x P w hx.any (b.lq hk) (Nat.le_trans (hx.n_le b) hn) hne
theorem cut_le {m : Mo} {e : Nat} (h : m.le e) (i : Nat) : (m.cut i).le e := by
 obtain ⟨h1, h2, h3, h4⟩ := h
 unfold Mo.cut
 split
 ·exact ⟨Nat.zero_le _, h2, h3, h4⟩
 ·split
  ·exact ⟨h1, Nat.zero_le _, h3, h4⟩
  ·split
   ·exact ⟨h1, h2, Nat.zero_le _, h4⟩
   ·exact ⟨h1, h2, h3, Nat.zero_le _⟩
theorem PC.coef {P : List Tm} {n k e : Nat} (h : PC P n k e) (i j : Nat) : PC (coefP P i j) n k e := by
 refine ⟨coefP_canon h.c i j, ?_, coefP_lq h.b.lq i j, fun t ht => ?_⟩
 ·unfold coefP
  rw [List.length_map]
  exact Nat.le_trans (List.length_filter_le _ _) h.b.len
 ·obtain ⟨s, hs, rfl⟩ := List.mem_map.1 ht
  exact cut_le (h.b.ex s (List.mem_filter.1 hs).1) i
theorem lead_is {K : Mo → Int} {P : List Tm} {t : Tm} (h : Lead K P t) (m : Mo) (hd : (P.all fun s => decide (s.1 = m) || P.any fun u => decide (K s.1 < K u.1)) = true) : t.1 = m := by
 have h1 := List.all_eq_true.1 hd t h.1
 rw [Bool.or_eq_true, decide_eq_true_eq] at h1
 rcases h1 with h1 | h1
 ·exact h1
 ·obtain ⟨u, hu, h2⟩ := List.any_eq_true.1 h1
  have h3 := h.2 u hu
  have h4 := of_decide_eq_true h2
  omega
theorem degree_nil (w : World) : Calls Tryz.prog 73 #[.slice none 0 0, .int .i64 0] w fun e w' => e = .returned (.int .i64 (-1)) ∧ Below w.heap.size w w' :=
 degree_k 0 (by decide) ⟨none, 0, 0⟩ [] w (KP.nil _ _ _).any (fun _ h => by cases h) (by decide)
structure SA (w : World) (x : PV) (P : List Tm) (ok : Bool) (n k e : Nat) : Prop where
 h : (ok = true ∧ KP w x P) ∨ (ok = false ∧ BP w x ∧ P = [])
 b : PC P n k e
 le : x.n ≤ 1000000
theorem SA.below {w w' : World} {x : PV} {P : List Tm} {ok : Bool} {n k e : Nat} (h : SA w x P ok n k e) (hb : Below w.heap.size w w') : SA w' x P ok n k e :=
 ⟨h.h.imp (fun h => ⟨h.1, h.2.below hb⟩) (fun h => ⟨h.1, h.2.1.below hb, h.2.2⟩), h.b, h.le⟩
theorem SA.ap {w : World} {x : PV} {P : List Tm} {ok : Bool} {n k e : Nat} (h : SA w x P ok n k e) : AP w x P := h.h.elim (fun h => h.2.any) (fun h => Or.inr h.2)
theorem KP.sa {w : World} {x : PV} {P : List Tm} {n k e : Nat} (h : KP w x P) (b : PC P n k e) (hn : n ≤ 1000000) : SA w x P true n k e := ⟨Or.inl ⟨rfl, h⟩, b, Nat.le_trans (h.n_le b) hn⟩
theorem sa_of {w : World} {x : PV} {L : List TO} {m E : Nat} (h : RawQ w x L) (hg : NotGreat m (L.map Prod.fst)) (hw : ∀ e ∈ L, e.1.m.le E) (hm : m ≤ 1000000) : ∃ P ok, SA w x P ok m 4 E := by
 rcases raw_cases h hg hw with ⟨P, hk, hc⟩ | hb
 ·exact ⟨P, true, hk.sa hc hm⟩
 ·exact ⟨[], false, Or.inr ⟨rfl, hb, rfl⟩, PC.nil _ _ _, Nat.le_trans (BP.n_le h hg) hm⟩
def LA (w : World) (x0 x1 x2 x3 : FV) (l : Nat → Rat) (ok : Bool) (kl : Nat) : Prop :=
 (ok = true ∧ K4 w x0 x1 x2 x3 l ∧ ∀ i, LQ (l i) kl) ∨ (ok = false ∧ ∃ oks : Nat → Bool, B4 w x0 x1 x2 x3 oks ∧ ∃ i, i < 4 ∧ oks i = false)
theorem LA.below {w w' : World} {x0 x1 x2 x3 : FV} {l : Nat → Rat} {ok : Bool} {kl : Nat} (h : LA w x0 x1 x2 x3 l ok kl) (hb : Below w.heap.size w w') : LA w' x0 x1 x2 x3 l ok kl :=
 h.imp (fun h => ⟨h.1, h.2.1.below hb, h.2.2⟩) (fun ⟨h1, oks, h2, h3⟩ => ⟨h1, oks, h2.below hb, h3⟩)
theorem fb_of {w : World} {x : FV} (h : AQ w x) : ∃ ok, FB w x ok ∧ (ok = true → ∃ q, KF w x q) := by
 rcases h.cs with ⟨q, hq⟩ | hb
 ·exact ⟨true, ⟨q, hq⟩, fun _ => ⟨q, hq⟩⟩
 ·exact ⟨false, hb, nofun⟩
theorem la_of {w : World} {x0 x1 x2 x3 : FV} (h0 : AQ w x0) (h1 : AQ w x1) (h2 : AQ w x2) (h3 : AQ w x3) (b0 : LF x0 30) (b1 : LF x1 30) (b2 : LF x2 30) (b3 : LF x3 30) : ∃ l ok, LA w x0 x1 x2 x3 l ok 30 := by
 obtain ⟨o0, g0, k0⟩ := fb_of h0
 obtain ⟨o1, g1, k1⟩ := fb_of h1
 obtain ⟨o2, g2, k2⟩ := fb_of h2
 obtain ⟨o3, g3, k3⟩ := fb_of h3
 by_cases hall : o0 = true ∧ o1 = true ∧ o2 = true ∧ o3 = true
 ·obtain ⟨rfl, rfl, rfl, rfl⟩ := hall
  obtain ⟨q0, e0⟩ := k0 rfl
  obtain ⟨q1, e1⟩ := k1 rfl
  obtain ⟨q2, e2⟩ := k2 rfl
  obtain ⟨q3, e3⟩ := k3 rfl
  exact ⟨l4 q0 q1 q2 q3, true, Or.inl ⟨rfl, k4_of e0 e1 e2 e3, l4_lq (e0.lq b0) (e1.lq b1) (e2.lq b2) (e3.lq b3)⟩⟩
 ·refine ⟨fun _ => 0, false, Or.inr ⟨rfl, fun i => if i = 0 then o0 else if i = 1 then o1 else if i = 2 then o2 else o3, ⟨g0, g1, g2, g3, b0.up (by decide), b1.up (by decide), b2.up (by decide), b3.up (by decide)⟩, ?_⟩⟩
  by_cases a0 : o0 = true
  ·by_cases a1 : o1 = true
   ·by_cases a2 : o2 = true
    ·exact ⟨3, by decide, by
      have : ¬ o3 = true := fun h => hall ⟨a0, a1, a2, h⟩
      simpa using this⟩
    ·exact ⟨2, by decide, by simpa using a2⟩
   ·exact ⟨1, by decide, by simpa using a1⟩
  ·exact ⟨0, by decide, by simpa using a0⟩
def AtR (w : World) (ok : Prop) (e : Ending) (w' : World) : Prop := ∃ (y : FV) (c : Int), e = .returned (.tuple #[y.v, .int .i64 c]) ∧ (c = 0 → ok) ∧ Below w.heap.size w w'
theorem pat_any {w : World} {x : PV} {P : List Tm} {okx okl : Bool} {x0 x1 x2 x3 : FV} {l : Nat → Rat} {n k e kl : Nat} (hx : SA w x P okx n k e) (h4 : LA w x0 x1 x2 x3 l okl kl)
  (hk9 : k ≤ 900000) (hn : n ≤ 1000000) (hE : e ≤ 65535) (hk : (n + 1) * (k + 4 * (e * kl + 1) + 1) ≤ 900000) (hkl : kl ≤ 900000) :
  Calls Tryz.prog 28 #[x.v, .agg #[.bool x0.t.s, .slice x0.t.a x0.t.n x0.t.c, .bool x0.l.s, .slice x0.l.a x0.l.n x0.l.c, .bool x1.t.s, .slice x1.t.a x1.t.n x1.t.c, .bool x1.l.s, .slice x1.l.a x1.l.n x1.l.c, .bool x2.t.s, .slice x2.t.a x2.t.n x2.t.c, .bool x2.l.s, .slice x2.l.a x2.l.n x2.l.c, .bool x3.t.s, .slice x3.t.a x3.t.n x3.t.c, .bool x3.l.s, .slice x3.l.a x3.l.n x3.l.c]] w (AtR w (okx = true ∧ okl = true)) := by
 have hle := hx.le
 rcases hx.h with ⟨rfl, hk1⟩ | ⟨rfl, hb, _⟩
 ·rcases h4 with ⟨rfl, h4, hl⟩ | ⟨rfl, oks, h4, hn4⟩
  ·exact (pat hk1 hx.b h4 hl hn hE hk hkl).mono fun e w' ⟨y, h1, _, h2⟩ => ⟨y, 0, h1, fun _ => ⟨rfl, rfl⟩, h2⟩
  ·exact (at_lbad x x0 x1 x2 x3 w P oks hk1 (hx.b.lq hk9) (by omega) h4 hn4).mono fun e w' ⟨h1, h2⟩ => ⟨⟨⟨false, none, 0, 0⟩, ⟨false, none, 0, 0⟩⟩, 1, h1, fun h => absurd h (by decide), h2⟩
 ·exact (at_bad x x0 x1 x2 x3 w hb (by omega)).mono fun e w' ⟨h1, h2⟩ => ⟨⟨⟨false, none, 0, 0⟩, ⟨false, none, 0, 0⟩⟩, 1, h1, fun h => absurd h (by decide), h2⟩
theorem padd_any {w : World} {x y : PV} {P Q : List Tm} {o1 o2 : Bool} {n1 k1 e1 n2 k2 e2 : Nat} (hx : SA w x P o1 n1 k1 e1) (hy : SA w y Q o2 n2 k2 e2) (k : Nat) (a : k1 ≤ k) (b : k2 ≤ k) (hk : 2 * k + 2 ≤ 900000) (hn : n1 + n2 ≤ 1000000) :
  Calls Tryz.prog 29 #[x.v, y.v] w fun e w' => ∃ z : PV, e = .returned z.v ∧ DP w' w.heap.size z (addP P Q) ∧ Below w.heap.size w w' :=
 have h3 := hx.b.b.len; have h4 := hy.b.b.len
 add_any x y P Q k w hx.ap hy.ap hx.le hy.le (hx.b.lq a) (hy.b.lq b) hk (by omega)
theorem pmul_any {w : World} {x y : PV} {P Q : List Tm} {o1 o2 : Bool} {n1 k1 e1 n2 k2 e2 : Nat} (hx : SA w x P o1 n1 k1 e1) (hy : SA w y Q o2 n2 k2 e2) (hk : n1 * (k1 + k2 + 1) ≤ 900000) (h1 : k1 ≤ 900000) (h2 : k2 ≤ 900000) (hn : n1 * n2 ≤ 1000000) (hn1 : n1 ≤ 1000000) (hn2 : n2 ≤ 1000000) (he : e1 + e2 ≤ 65535) :
  ∃ R, PC R (n1 * n2) (n1 * (k1 + k2 + 1)) (e1 + e2) ∧ ∀ W, Below w.heap.size w W → Calls Tryz.prog 30 #[x.v, y.v] W fun e w' => ∃ z : PV, e = .returned z.v ∧ DP w' W.heap.size z R ∧ Below W.heap.size W w' := by
 have l1 := hx.le; have l2 := hy.le
 have bad : ∀ W, Calls Tryz.prog 20 #[x.v, y.v] W (fun e w' => e = .returned (.tuple #[.slice none 0 0, .int .i64 1]) ∧ Below W.heap.size W w') → Calls Tryz.prog 30 #[x.v, y.v] W fun e w' => ∃ z : PV, e = .returned z.v ∧ DP w' W.heap.size z [] ∧ Below W.heap.size W w' :=
  fun W h => (lmul_b x y W h).mono fun e w' ⟨g1, g2⟩ => ⟨⟨none, 0, 0⟩, g1, DP.none _ _, g2⟩
 rcases hx.h with ⟨_, kx⟩ | ⟨_, bx, _⟩
 ·rcases hy.h with ⟨_, ky⟩ | ⟨_, by_, _⟩
  ·exact ⟨mulP P Q, hx.b.mul hy.b, fun W hW => plmul (kx.below hW) hx.b (ky.below hW) hy.b hk h1 h2 hn hn1 hn2 he⟩
  ·exact ⟨[], PC.nil _ _ _, fun W hW => bad W (mul_b2 x y P W (kx.below hW) (hx.b.lq h1) (by omega) (by_.below hW) (by omega))⟩
 ·exact ⟨[], PC.nil _ _ _, fun W hW => bad W (mul_b1 x y W (bx.below hW) (by omega))⟩
theorem ev_letP (l : Nat → Rat) {i : Nat} (h : i < 4) : ev (letP i) (atM l) = l i := by
 match i, h with
 | 0, _ => show 1 * (l 0 ^ 1 * l 1 ^ 0 * l 2 ^ 0 * l 3 ^ 0) + 0 = l 0; grind
 | 1, _ => show 1 * (l 0 ^ 0 * l 1 ^ 1 * l 2 ^ 0 * l 3 ^ 0) + 0 = l 1; grind
 | 2, _ => show 1 * (l 0 ^ 0 * l 1 ^ 0 * l 2 ^ 1 * l 3 ^ 0) + 0 = l 2; grind
 | 3, _ => show 1 * (l 0 ^ 0 * l 1 ^ 0 * l 2 ^ 0 * l 3 ^ 1) + 0 = l 3; grind
theorem ev_of (l : Nat → Rat) (q : Rat) : ev (nf [(Mo.one, q)]) (atM l) = q := by
 rw [nf_ev]
 show q * (l 0 ^ 0 * l 1 ^ 0 * l 2 ^ 0 * l 3 ^ 0) + 0 = q
 grind
theorem formP2 : formT [50] := ⟨by decide +kernel, by decide +kernel, by decide +kernel⟩
theorem phalf (w : World) : Calls Tryz.prog 69 #[.string ⟨#[49, 47, 50]⟩] w (RFE w (((1 : Int) : Rat) / ((2 : Int) : Rat)) 0) := 
 qparse_y_ok (z1 := 1) (z2 := 2) w (by decide) (show Lib.cut [49, 47, 50] [47] = ([49], [50], true) by decide +kernel) (by decide) (by decide) code1 num1 (codeT_of _ formP2 (by decide +kernel)) (numT_of _ _ formP2 (by decide +kernel) (by decide +kernel)) ⟨50, [], rfl, by decide⟩ (by decide) (by decide)
theorem textQ_ofP {q : Rat} {n d : Int} (hn : q.num = n) (hd : (q.den : Int) = d) : textQ q = if d = 1 then Lib.itoa n else Lib.itoa n ++ 47 :: Lib.itoa d := by subst hn hd; rfl
theorem text_c {q : Rat} (h : q = ((3 : Int) : Rat) / ((2 : Int) : Rat)) : textQ q = [51, 47, 50] := by
 rw [textQ_ofP (n := 3) (d := 2) (by rw [h]; decide +kernel) (by rw [h]; decide +kernel), if_neg (by decide), show (3 : Int) = ((3 : Nat) : Int) from rfl, Lib.itoa_nonneg, Lib.decDigits_one (by decide), show (2 : Int) = ((2 : Nat) : Int) from rfl, Lib.itoa_nonneg, Lib.decDigits_one (by decide)]
 rfl
set_option maxRecDepth 100000 in
set_option maxHeartbeats 16000000 in
theorem palive (w : World) (htab : Tab w) : Calls Tryz.prog 26 #[] w fun e w' => e = .returned (.bool true) ∧ Below w.heap.size w w' := by
 have HT := Lib.hid htab
 have KG := Lib.hid (Below.refl w.heap.size w)
 clear htab
 obtain ⟨q1, hq1⟩ : ∃ z : Rat, z = ((1 : Int) : Rat) := ⟨_, rfl⟩
 have Hq1 := Lib.hid hq1
 have LQq1 := Lib.hid (show LQ q1 3 by rw [hq1]; exact LQ.int (by decide) (by decide))
 clear hq1
 obtain ⟨p5, hp5⟩ : ∃ z : List Tm, z = nf [(Mo.one, q1)] := ⟨_, rfl⟩
 have Hp5 := Lib.hid hp5
 have PCp5 := Lib.hid (show PC p5 1 4 0 by rw [hp5]; exact PC.of LQq1.out)
 clear hp5
 obtain ⟨p9, hp9⟩ : ∃ z : List Tm, z = letP 0 := ⟨_, rfl⟩
 have Hp9 := Lib.hid hp9
 have PCp9 := Lib.hid (show PC p9 1 3 1 by rw [hp9]; exact PC.letter 0)
 clear hp9
 obtain ⟨p13, hp13⟩ : ∃ z : List Tm, z = addP p9 p5 := ⟨_, rfl⟩
 have Hp13 := Lib.hid hp13
 have PCp13 := Lib.hid (show PC p13 2 9 1 by rw [hp13]; exact PCp9.out.add PCp5.out 4 1 (by decide) (by decide) (by decide) (by decide))
 clear hp13
 obtain ⟨q17, hq17⟩ : ∃ z : Rat, z = ((2 : Int) : Rat) := ⟨_, rfl⟩
 have Hq17 := Lib.hid hq17
 have LQq17 := Lib.hid (show LQ q17 3 by rw [hq17]; exact LQ.int (by decide) (by decide))
 clear hq17
 obtain ⟨p21, hp21⟩ : ∃ z : List Tm, z = scaleP q17 p13 := ⟨_, rfl⟩
 have Hp21 := Lib.hid hp21
 have PCp21 := Lib.hid (show PC p21 2 12 1 by rw [hp21]; exact PCp13.out.scale LQq17.out)
 clear hp21
 obtain ⟨p25, hp25⟩ : ∃ z : List Tm, z = letP 1 := ⟨_, rfl⟩
 have Hp25 := Lib.hid hp25
 have PCp25 := Lib.hid (show PC p25 1 3 1 by rw [hp25]; exact PC.letter 1)
 clear hp25
 obtain ⟨p32, hp32⟩ : ∃ z : List Tm, z = mulP p25 p25 := ⟨_, rfl⟩
 have Hp32 := Lib.hid hp32
 have PCp32 := Lib.hid (show PC p32 1 7 2 by rw [hp32]; exact PCp25.out.mul PCp25.out)
 clear hp32
 obtain ⟨p36, hp36⟩ : ∃ z : List Tm, z = addP p9 p32 := ⟨_, rfl⟩
 have Hp36 := Lib.hid hp36
 have PCp36 := Lib.hid (show PC p36 2 15 2 by rw [hp36]; exact PCp9.out.add PCp32.out 7 2 (by decide) (by decide) (by decide) (by decide))
 clear hp36
 obtain ⟨q52, hq52⟩ : ∃ z : Rat, z = ((1 : Int) : Rat) / ((2 : Int) : Rat) := ⟨_, rfl⟩
 have Hq52 := Lib.hid hq52
 have LQq52 := Lib.hid (show LQ q52 3 by rw [hq52]; exact LQ.of (by decide) (by decide) (by decide) (by decide) (by decide))
 clear hq52
 obtain ⟨q58, hq58⟩ : ∃ z : Rat, z = ((0 : Int) : Rat) := ⟨_, rfl⟩
 have Hq58 := Lib.hid hq58
 have LQq58 := Lib.hid (show LQ q58 3 by rw [hq58]; exact LQ.int (by decide) (by decide))
 clear hq58
 obtain ⟨l64, hl64⟩ : ∃ z : Nat → Rat, z = l4 q52 q58 q58 q58 := ⟨_, rfl⟩
 have Hl64 := Lib.hid hl64
 have HLl64 := Lib.hid (show ∀ i, LQ (l64 i) 3 by rw [hl64]; exact l4_lq (LQq52.out.up (by decide)) (LQq58.out.up (by decide)) (LQq58.out.up (by decide)) (LQq58.out.up (by decide)))
 clear hl64
 obtain ⟨q65, hq65⟩ : ∃ z : Rat, z = ev p13 (atM l64) := ⟨_, rfl⟩
 have Hq65 := Lib.hid hq65
 have LQq65 := Lib.hid (show LQ q65 78 by rw [hq65]; exact PCp13.out.at HLl64.out)
 clear hq65
 obtain ⟨p71, hp71⟩ : ∃ z : List Tm, z = mulP p13 p13 := ⟨_, rfl⟩
 have Hp71 := Lib.hid hp71
 have PCp71 := Lib.hid (show PC p71 4 38 2 by rw [hp71]; exact PCp13.out.mul PCp13.out)
 clear hp71
 obtain ⟨p83, hp83⟩ : ∃ z : List Tm, z = slopeP p71 0 := ⟨_, rfl⟩
 have Hp83 := Lib.hid hp83
 have PCp83 := Lib.hid (show PC p83 4 168 2 by rw [hp83]; exact PCp71.out.slope 0 (by decide))
 clear hp83
 obtain ⟨p87, hp87⟩ : ∃ z : List Tm, z = coefP p71 0 1 := ⟨_, rfl⟩
 have Hp87 := Lib.hid hp87
 have PCp87 := Lib.hid (show PC p87 4 38 2 by rw [hp87]; exact PCp71.out.coef 0 1)
 clear hp87
 obtain ⟨p88, hp88⟩ : ∃ z : List Tm, z = addP p13 p13 := ⟨_, rfl⟩
 have Hp88 := Lib.hid hp88
 have PCp88 := Lib.hid (show PC p88 4 19 1 by rw [hp88]; exact PCp13.out.add PCp13.out 9 1 (by decide) (by decide) (by decide) (by decide))
 clear hp88
 obtain ⟨p89, hp89⟩ : ∃ z : List Tm, z = subP p13 p13 := ⟨_, rfl⟩
 have Hp89 := Lib.hid hp89
 have PCp89 := Lib.hid (show PC p89 4 25 1 by rw [hp89]; exact PCp13.out.sub PCp13.out 12 1 (by decide) (by decide) (by decide) (by decide))
 clear hp89
 obtain ⟨p90, hp90⟩ : ∃ z : List Tm, z = nf [(Mo.one, q17)] := ⟨_, rfl⟩
 have Hp90 := Lib.hid hp90
 have PCp90 := Lib.hid (show PC p90 1 4 0 by rw [hp90]; exact PC.of LQq17.out)
 clear hp90
 go_enter Tryz.func26, Tryz.ntmps26
 go_wp2_with fail
 have CT := Lib.hid (qof 1 w (by decide) (by decide))
 rw [show ((1 : Int) : Rat) = q1 from Hq1.out.symm] at CT
 with_reducible refine CT.out.mono ?_
 rintro e w2 ⟨x3, rfl, hN4, hb⟩
 have N4 := Lib.hid hN4
 clear hN4
 clear CT
 have KG := Lib.hid (KG.out.trans (hb.mono KG.out.size))
 clear hb
 go_wp2_with fail
 have CT := Lib.hid (pof (N4.out).k.any (((N4.out).k).len LQq1.out (by decide : _ ≤ 900000)) LQq1.out (by decide))
 rw [show nf [(Mo.one, q1)] = p5 from Hp5.out.symm] at CT
 with_reducible refine CT.out.mono ?_
 rintro e w6 ⟨z7, rfl, hN8, hb⟩
 have N8 := Lib.hid hN8
 clear hN8
 clear CT
 clear N4
 have KG := Lib.hid (KG.out.trans (hb.mono KG.out.size))
 clear hb
 go_wp2_with fail
 have CT := Lib.hid (show Calls Tryz.prog 31 #[.int .i64 0] w6 _ from llet_k 0 (by decide) w6)
 rw [show letP 0 = p9 from Hp9.out.symm] at CT
 with_reducible refine CT.out.mono ?_
 rintro e w10 ⟨z11, rfl, hN12, hb⟩
 have N12 := Lib.hid hN12
 clear hN12
 clear CT
 have N8 := Lib.hid (N8.out.below hb)
 have KG := Lib.hid (KG.out.trans (hb.mono KG.out.size))
 clear hb
 go_wp2_with fail
 have CT := Lib.hid (padd N12.out.k PCp9.out N8.out.k PCp5.out 4 (by decide) (by decide) (by decide) (by decide))
 rw [show addP p9 p5 = p13 from Hp13.out.symm] at CT
 with_reducible refine CT.out.mono ?_
 rintro e w14 ⟨z15, rfl, hN16, hb⟩
 have N16 := Lib.hid hN16
 clear hN16
 clear CT
 clear N8
 clear N12
 have KG := Lib.hid (KG.out.trans (hb.mono KG.out.size))
 clear hb
 go_wp2_with fail
 have CT := Lib.hid (qof 2 w14 (by decide) (by decide))
 rw [show ((2 : Int) : Rat) = q17 from Hq17.out.symm] at CT
 with_reducible refine CT.out.mono ?_
 rintro e w18 ⟨x19, rfl, hN20, hb⟩
 have N20 := Lib.hid hN20
 clear hN20
 clear CT
 have N16 := Lib.hid (N16.out.below hb)
 have KG := Lib.hid (KG.out.trans (hb.mono KG.out.size))
 clear hb
 go_wp2_with fail
 have CT := Lib.hid (pscale N16.out.k PCp13.out (N20.out).k.any (((N20.out).k).len LQq17.out (by decide : _ ≤ 900000)) LQq17.out (by decide) (by decide) (by decide) (by decide))
 rw [show scaleP q17 p13 = p21 from Hp21.out.symm] at CT
 with_reducible refine CT.out.mono ?_
 rintro e w22 ⟨z23, rfl, hN24, hb⟩
 have N24 := Lib.hid hN24
 clear hN24
 clear CT
 have N16 := Lib.hid (N16.out.below hb)
 clear N20
 have KG := Lib.hid (KG.out.trans (hb.mono KG.out.size))
 clear hb
 go_wp2_with fail
 have CT := Lib.hid (show Calls Tryz.prog 31 #[.int .i64 1] w22 _ from llet_k 1 (by decide) w22)
 rw [show letP 1 = p25 from Hp25.out.symm] at CT
 with_reducible refine CT.out.mono ?_
 rintro e w26 ⟨z27, rfl, hN28, hb⟩
 have N28 := Lib.hid hN28
 clear hN28
 clear CT
 have N16 := Lib.hid (N16.out.below hb)
 have N24 := Lib.hid (N24.out.below hb)
 have KG := Lib.hid (KG.out.trans (hb.mono KG.out.size))
 clear hb
 go_wp2_with fail
 have CT := Lib.hid (show Calls Tryz.prog 31 #[.int .i64 0] w26 _ from llet_k 0 (by decide) w26)
 rw [show letP 0 = p9 from Hp9.out.symm] at CT
 with_reducible refine CT.out.mono ?_
 rintro e w29 ⟨z30, rfl, hN31, hb⟩
 have N31 := Lib.hid hN31
 clear hN31
 clear CT
 have N16 := Lib.hid (N16.out.below hb)
 have N24 := Lib.hid (N24.out.below hb)
 have N28 := Lib.hid (N28.out.below hb)
 have KG := Lib.hid (KG.out.trans (hb.mono KG.out.size))
 clear hb
 go_wp2_with fail
 have CT := Lib.hid (plmul N28.out.k PCp25.out N28.out.k PCp25.out (by decide) (by decide) (by decide) (by decide) (by decide) (by decide) (by decide))
 rw [show mulP p25 p25 = p32 from Hp32.out.symm] at CT
 with_reducible refine CT.out.mono ?_
 rintro e w33 ⟨z34, rfl, hN35, hb⟩
 have N35 := Lib.hid hN35
 clear hN35
 clear CT
 have N16 := Lib.hid (N16.out.below hb)
 have N24 := Lib.hid (N24.out.below hb)
 clear N28
 have N31 := Lib.hid (N31.out.below hb)
 have KG := Lib.hid (KG.out.trans (hb.mono KG.out.size))
 clear hb
 go_wp2_with fail
 have CT := Lib.hid (padd N31.out.k PCp9.out N35.out.k PCp32.out 7 (by decide) (by decide) (by decide) (by decide))
 rw [show addP p9 p32 = p36 from Hp36.out.symm] at CT
 with_reducible refine CT.out.mono ?_
 rintro e w37 ⟨z38, rfl, hN39, hb⟩
 have N39 := Lib.hid hN39
 clear hN39
 clear CT
 have N16 := Lib.hid (N16.out.below hb)
 have N24 := Lib.hid (N24.out.below hb)
 clear N31
 clear N35
 have KG := Lib.hid (KG.out.trans (hb.mono KG.out.size))
 clear hb
 go_wp2_with fail
 have CT := Lib.hid (plead 1 N39.out.k PCp36.out (by decide) (by decide) (by simp only [Hp36.out, Hp32.out, Hp25.out, Hp21.out, Hq17.out, Hp13.out, Hp9.out, Hp5.out, Hq1.out]; decide +kernel))
 with_reducible refine CT.out.mono ?_
 rintro e w40 ⟨x41, ⟨m44, q45⟩, rfl, hN, hld, hb⟩
 clear CT
 have N16 := Lib.hid (N16.out.below hb)
 have N24 := Lib.hid (N24.out.below hb)
 clear N39
 have KG := Lib.hid (KG.out.trans (hb.mono KG.out.size))
 clear hb
 have N43 := Lib.hid (show DF w40 w37.heap.size x41 q45 from hN)
 have HLDm44 := Lib.hid (show Lead (keyO 1) p36 (m44, q45) from hld)
 have LQq45 := Lib.hid (show LQ q45 60 from (PCp36.out.up (Nat.le_refl _) (by decide) (Nat.le_refl _)).b.lq _ hld.1)
 clear hN hld
 clear N43
 have hm : m44 = ⟨0, 2, 0, 0⟩ := lead_is HLDm44.out ⟨0, 2, 0, 0⟩ (by simp only [Hp36.out, Hp32.out, Hp25.out, Hp21.out, Hq17.out, Hp13.out, Hp9.out, Hp5.out, Hq1.out]; decide +kernel)
 have HM0 := Lib.hid (show ((m44.x : Nat) : Int) = 0 by rw [hm]; rfl)
 have HM1 := Lib.hid (show ((m44.y : Nat) : Int) = 2 by rw [hm]; rfl)
 have HM2 := Lib.hid (show ((m44.z : Nat) : Int) = 0 by rw [hm]; rfl)
 have HM3 := Lib.hid (show ((m44.t : Nat) : Int) = 0 by rw [hm]; rfl)
 clear hm
 go_upto_region 6 with (fail)
 obtain ⟨v47, hV⟩ : ∃ V, V = w40.alloc (.cells #[.bool x41.t.s, .slice x41.t.a x41.t.n x41.t.c, .bool x41.l.s, .slice x41.l.a x41.l.n x41.l.c, .int .u16 m44.x, .int .u16 m44.y, .int .u16 m44.z, .int .u16 m44.t] 50) := ⟨_, rfl⟩
 have hbV : Below w40.heap.size w40 v47 := by rw [hV]; exact ((Below.refl _ _).alloc (Nat.le_refl _) _)
 have BX46 := Lib.hid (show Bxs v47 (w40.heap.size) 50 [.bool x41.t.s, .slice x41.t.a x41.t.n x41.t.c, .bool x41.l.s, .slice x41.l.a x41.l.n x41.l.c, .int .u16 m44.x, .int .u16 m44.y, .int .u16 m44.z, .int .u16 m44.t] by have h := Bxs.new (w40) 50 [.bool x41.t.s, .slice x41.t.a x41.t.n x41.t.c, .bool x41.l.s, .slice x41.l.a x41.l.n x41.l.c, .int .u16 m44.x, .int .u16 m44.y, .int .u16 m44.z, .int .u16 m44.t]; rw [hV]; exact h)
 rw [show w40.alloc (.cells #[.bool x41.t.s, .slice x41.t.a x41.t.n x41.t.c, .bool x41.l.s, .slice x41.l.a x41.l.n x41.l.c, .int .u16 m44.x, .int .u16 m44.y, .int .u16 m44.z, .int .u16 m44.t] 50) = v47 from hV.symm]
 have N16 := Lib.hid (N16.out.below hbV)
 have N24 := Lib.hid (N24.out.below hbV)
 have KG := Lib.hid (KG.out.trans (hbV.mono KG.out.size))
 clear hV hbV
 go_wp2_with fail
 have CT := Lib.hid (lead_nil 0 ⟨none, 0, 0⟩ v47 (KP.nil _ _ _).any (by decide))
 with_reducible refine CT.out.mono ?_
 rintro e w48 ⟨rfl, hb⟩
 clear CT
 have N16 := Lib.hid (N16.out.below hb)
 have N24 := Lib.hid (N24.out.below hb)
 have BX46 := Lib.hid (BX46.out.below hb BX46.out.lt)
 have KG := Lib.hid (KG.out.trans (hb.mono KG.out.size))
 clear hb
 go_upto_region 7 with (fail)
 obtain ⟨v50, hV⟩ : ∃ V, V = w48.alloc (.cells #[.bool false, .slice none 0 0, .bool false, .slice none 0 0, .int .u16 0, .int .u16 0, .int .u16 0, .int .u16 0] 50) := ⟨_, rfl⟩
 have hbV : Below w48.heap.size w48 v50 := by rw [hV]; exact ((Below.refl _ _).alloc (Nat.le_refl _) _)
 have BX49 := Lib.hid (show Bxs v50 (w48.heap.size) 50 [.bool false, .slice none 0 0, .bool false, .slice none 0 0, .int .u16 0, .int .u16 0, .int .u16 0, .int .u16 0] by have h := Bxs.new (w48) 50 [.bool false, .slice none 0 0, .bool false, .slice none 0 0, .int .u16 0, .int .u16 0, .int .u16 0, .int .u16 0]; rw [hV]; exact h)
 rw [show w48.alloc (.cells #[.bool false, .slice none 0 0, .bool false, .slice none 0 0, .int .u16 0, .int .u16 0, .int .u16 0, .int .u16 0] 50) = v50 from hV.symm]
 have N16 := Lib.hid (N16.out.below hbV)
 have N24 := Lib.hid (N24.out.below hbV)
 have BX46 := Lib.hid (BX46.out.below hbV BX46.out.lt)
 have KG := Lib.hid (KG.out.trans (hbV.mono KG.out.size))
 clear hV hbV
 clear BX49
 go_wp2_with fail
 have CT := Lib.hid (letter_out 4 (by decide) v50)
 with_reducible refine CT.out.mono ?_
 rintro e w51 ⟨rfl, hb⟩
 clear CT
 have N16 := Lib.hid (N16.out.below hb)
 have N24 := Lib.hid (N24.out.below hb)
 have BX46 := Lib.hid (BX46.out.below hb BX46.out.lt)
 have KG := Lib.hid (KG.out.trans (hb.mono KG.out.size))
 clear hb
 go_wp2_with fail
 have CT := Lib.hid (phalf w51)
 rw [show ((1 : Int) : Rat) / ((2 : Int) : Rat) = q52 from Hq52.out.symm] at CT
 with_reducible refine CT.out.mono ?_
 rintro e w53 ⟨x54, rfl, hN55, hb⟩
 have N55 := Lib.hid hN55
 clear hN55
 clear CT
 have N16 := Lib.hid (N16.out.below hb)
 have N24 := Lib.hid (N24.out.below hb)
 have BX46 := Lib.hid (BX46.out.below hb BX46.out.lt)
 have KG := Lib.hid (KG.out.trans (hb.mono KG.out.size))
 clear hb
 go_upto_region 9 with (fail)
 obtain ⟨v57, hV⟩ : ∃ V, V = w53.alloc (.cells #[.bool x54.t.s, .slice x54.t.a x54.t.n x54.t.c, .bool x54.l.s, .slice x54.l.a x54.l.n x54.l.c] 28) := ⟨_, rfl⟩
 have hbV : Below w53.heap.size w53 v57 := by rw [hV]; exact ((Below.refl _ _).alloc (Nat.le_refl _) _)
 have BX56 := Lib.hid (show Bxs v57 (w53.heap.size) 28 [.bool x54.t.s, .slice x54.t.a x54.t.n x54.t.c, .bool x54.l.s, .slice x54.l.a x54.l.n x54.l.c] by have h := Bxs.new (w53) 28 [.bool x54.t.s, .slice x54.t.a x54.t.n x54.t.c, .bool x54.l.s, .slice x54.l.a x54.l.n x54.l.c]; rw [hV]; exact h)
 rw [show w53.alloc (.cells #[.bool x54.t.s, .slice x54.t.a x54.t.n x54.t.c, .bool x54.l.s, .slice x54.l.a x54.l.n x54.l.c] 28) = v57 from hV.symm]
 have N16 := Lib.hid (N16.out.below hbV)
 have N24 := Lib.hid (N24.out.below hbV)
 have N55 := Lib.hid (N55.out.below hbV)
 have BX46 := Lib.hid (BX46.out.below hbV BX46.out.lt)
 have KG := Lib.hid (KG.out.trans (hbV.mono KG.out.size))
 clear hV hbV
 go_wp2_with fail
 have CT := Lib.hid (qof 0 v57 (by decide) (by decide))
 rw [show ((0 : Int) : Rat) = q58 from Hq58.out.symm] at CT
 with_reducible refine CT.out.mono ?_
 rintro e w59 ⟨x60, rfl, hN61, hb⟩
 have N61 := Lib.hid hN61
 clear hN61
 clear CT
 have N16 := Lib.hid (N16.out.below hb)
 have N24 := Lib.hid (N24.out.below hb)
 have N55 := Lib.hid (N55.out.below hb)
 have BX46 := Lib.hid (BX46.out.below hb BX46.out.lt)
 have BX56 := Lib.hid (BX56.out.below hb BX56.out.lt)
 have KG := Lib.hid (KG.out.trans (hb.mono KG.out.size))
 clear hb
 go_upto_region 10 with (fail)
 obtain ⟨v63, hV⟩ : ∃ V, V = w59.alloc (.cells #[.bool x60.t.s, .slice x60.t.a x60.t.n x60.t.c, .bool x60.l.s, .slice x60.l.a x60.l.n x60.l.c] 28) := ⟨_, rfl⟩
 have hbV : Below w59.heap.size w59 v63 := by rw [hV]; exact ((Below.refl _ _).alloc (Nat.le_refl _) _)
 have BX62 := Lib.hid (show Bxs v63 (w59.heap.size) 28 [.bool x60.t.s, .slice x60.t.a x60.t.n x60.t.c, .bool x60.l.s, .slice x60.l.a x60.l.n x60.l.c] by have h := Bxs.new (w59) 28 [.bool x60.t.s, .slice x60.t.a x60.t.n x60.t.c, .bool x60.l.s, .slice x60.l.a x60.l.n x60.l.c]; rw [hV]; exact h)
 rw [show w59.alloc (.cells #[.bool x60.t.s, .slice x60.t.a x60.t.n x60.t.c, .bool x60.l.s, .slice x60.l.a x60.l.n x60.l.c] 28) = v63 from hV.symm]
 have N16 := Lib.hid (N16.out.below hbV)
 have N24 := Lib.hid (N24.out.below hbV)
 have N55 := Lib.hid (N55.out.below hbV)
 have N61 := Lib.hid (N61.out.below hbV)
 have BX46 := Lib.hid (BX46.out.below hbV BX46.out.lt)
 have BX56 := Lib.hid (BX56.out.below hbV BX56.out.lt)
 have KG := Lib.hid (KG.out.trans (hbV.mono KG.out.size))
 clear hV hbV
 have cBX560 := BX56.out.cell (i := 0) rfl
 have cBX561 := BX56.out.cell (i := 1) rfl
 have cBX562 := BX56.out.cell (i := 2) rfl
 have cBX563 := BX56.out.cell (i := 3) rfl
 have cBX56f := BX56.out.fz
 have cBX56l := BX56.out.lt
 have cBX620 := BX62.out.cell (i := 0) rfl
 have cBX621 := BX62.out.cell (i := 1) rfl
 have cBX622 := BX62.out.cell (i := 2) rfl
 have cBX623 := BX62.out.cell (i := 3) rfl
 have cBX62f := BX62.out.fz
 have cBX62l := BX62.out.lt
 go_wp2_with fail
 have CT := Lib.hid (pat N16.out.k PCp13.out (show K4 v63 x54 x60 x60 x60 l64 by rw [Hl64.out]; exact k4_of (N55.out).k (N61.out).k (N61.out).k (N61.out).k) HLl64.out (by decide) (by decide) (by decide) (by decide))
 rw [show ev p13 (atM l64) = q65 from Hq65.out.symm] at CT
 with_reducible refine CT.out.mono ?_
 rintro e w66 ⟨x67, rfl, hN68, hb⟩
 have N68 := Lib.hid hN68
 clear hN68
 clear CT
 clear cBX560 cBX561 cBX562 cBX563 cBX56f cBX56l
 clear cBX620 cBX621 cBX622 cBX623 cBX62f cBX62l
 have N16 := Lib.hid (N16.out.below hb)
 have N24 := Lib.hid (N24.out.below hb)
 clear N55
 clear N61
 have BX46 := Lib.hid (BX46.out.below hb BX46.out.lt)
 clear BX56
 clear BX62
 have KG := Lib.hid (KG.out.trans (hb.mono KG.out.size))
 clear hb
 go_upto_region 11 with (fail)
 obtain ⟨v70, hV⟩ : ∃ V, V = w66.alloc (.cells #[.bool x67.t.s, .slice x67.t.a x67.t.n x67.t.c, .bool x67.l.s, .slice x67.l.a x67.l.n x67.l.c] 28) := ⟨_, rfl⟩
 have hbV : Below w66.heap.size w66 v70 := by rw [hV]; exact ((Below.refl _ _).alloc (Nat.le_refl _) _)
 have BX69 := Lib.hid (show Bxs v70 (w66.heap.size) 28 [.bool x67.t.s, .slice x67.t.a x67.t.n x67.t.c, .bool x67.l.s, .slice x67.l.a x67.l.n x67.l.c] by have h := Bxs.new (w66) 28 [.bool x67.t.s, .slice x67.t.a x67.t.n x67.t.c, .bool x67.l.s, .slice x67.l.a x67.l.n x67.l.c]; rw [hV]; exact h)
 rw [show w66.alloc (.cells #[.bool x67.t.s, .slice x67.t.a x67.t.n x67.t.c, .bool x67.l.s, .slice x67.l.a x67.l.n x67.l.c] 28) = v70 from hV.symm]
 have N16 := Lib.hid (N16.out.below hbV)
 have N24 := Lib.hid (N24.out.below hbV)
 have N68 := Lib.hid (N68.out.below hbV)
 have BX46 := Lib.hid (BX46.out.below hbV BX46.out.lt)
 have KG := Lib.hid (KG.out.trans (hbV.mono KG.out.size))
 clear hV hbV
 go_wp2_with fail
 have CT := Lib.hid (plmul N16.out.k PCp13.out N16.out.k PCp13.out (by decide) (by decide) (by decide) (by decide) (by decide) (by decide) (by decide))
 rw [show mulP p13 p13 = p71 from Hp71.out.symm] at CT
 with_reducible refine CT.out.mono ?_
 rintro e w72 ⟨z73, rfl, hN74, hb⟩
 have N74 := Lib.hid hN74
 clear hN74
 clear CT
 have N16 := Lib.hid (N16.out.below hb)
 have N24 := Lib.hid (N24.out.below hb)
 have N68 := Lib.hid (N68.out.below hb)
 have BX46 := Lib.hid (BX46.out.below hb BX46.out.lt)
 have BX69 := Lib.hid (BX69.out.below hb BX69.out.lt)
 have KG := Lib.hid (KG.out.trans (hb.mono KG.out.size))
 clear hb
 go_wp2_with fail
 have CT := Lib.hid (show Calls Tryz.prog 70 #[z73.v, .int .i64 0] w72 _ from pcoefs 0 (by decide) N74.out.k PCp71.out (by decide) (by decide))
 with_reducible refine CT.out.mono ?_
 rintro e w75 ⟨a76, n77, c78, rfl, hN79, hb⟩
 have N79 := Lib.hid hN79
 clear hN79
 clear CT
 have N16 := Lib.hid (N16.out.below hb)
 have N24 := Lib.hid (N24.out.below hb)
 have N68 := Lib.hid (N68.out.below hb)
 clear N74
 have BX46 := Lib.hid (BX46.out.below hb BX46.out.lt)
 have BX69 := Lib.hid (BX69.out.below hb BX69.out.lt)
 have KG := Lib.hid (KG.out.trans (hb.mono KG.out.size))
 clear hb
 go_wp2_with fail
 have CT := Lib.hid (plmul N16.out.k PCp13.out N16.out.k PCp13.out (by decide) (by decide) (by decide) (by decide) (by decide) (by decide) (by decide))
 rw [show mulP p13 p13 = p71 from Hp71.out.symm] at CT
 with_reducible refine CT.out.mono ?_
 rintro e w80 ⟨z81, rfl, hN82, hb⟩
 have N82 := Lib.hid hN82
 clear hN82
 clear CT
 have N16 := Lib.hid (N16.out.below hb)
 have N24 := Lib.hid (N24.out.below hb)
 have N68 := Lib.hid (N68.out.below hb)
 have N79 := Lib.hid (N79.out.below hb)
 have BX46 := Lib.hid (BX46.out.below hb BX46.out.lt)
 have BX69 := Lib.hid (BX69.out.below hb BX69.out.lt)
 have KG := Lib.hid (KG.out.trans (hb.mono KG.out.size))
 clear hb
 go_wp2_with fail
 have CT := Lib.hid (show Calls Tryz.prog 71 #[z81.v, .int .i64 0] w80 _ from pslope 0 (by decide) N82.out.k PCp71.out (by decide) (by decide) (by decide))
 rw [show slopeP p71 0 = p83 from Hp83.out.symm] at CT
 with_reducible refine CT.out.mono ?_
 rintro e w84 ⟨z85, rfl, hN86, hb⟩
 have N86 := Lib.hid hN86
 clear hN86
 clear CT
 have N16 := Lib.hid (N16.out.below hb)
 have N24 := Lib.hid (N24.out.below hb)
 have N68 := Lib.hid (N68.out.below hb)
 have N79 := Lib.hid (N79.out.below hb)
 clear N82
 have BX46 := Lib.hid (BX46.out.below hb BX46.out.lt)
 have BX69 := Lib.hid (BX69.out.below hb BX69.out.lt)
 have KG := Lib.hid (KG.out.trans (hb.mono KG.out.size))
 clear hb
 have hn3 : n77 = 3 := by have h := N79.out.len; rw [show degP p71 0 = 2 from by simp only [Hp83.out, Hp71.out, Hq65.out, Hl64.out, Hq58.out, Hq52.out, Hp36.out, Hp32.out, Hp25.out, Hp21.out, Hq17.out, Hp13.out, Hp9.out, Hp5.out, Hq1.out]; decide +kernel] at h; omega
 subst hn3
 obtain ⟨cb, z1, hca, hcc, hkz⟩ := N79.out.get 1 (by decide)
 subst hca
 have HCC := Lib.hid (fun (w' : World) (hb' : Below w84.heap.size w84 w') => (hb'.cell (p := ⟨cb, 1, none⟩) (block_lt_of_cell hcc)).trans hcc)
 have NZ1 := Lib.hid (show KP w84 z1 p87 by rw [Hp87.out]; exact hkz)
 clear hcc hkz
 have HQT := Lib.hid (show q65 = ((3 : Int) : Rat) / ((2 : Int) : Rat) by simp only [Hp87.out, Hp83.out, Hp71.out, Hq65.out, Hl64.out, Hq58.out, Hq52.out, Hp36.out, Hp32.out, Hp25.out, Hp21.out, Hq17.out, Hp13.out, Hp9.out, Hp5.out, Hq1.out]; decide +kernel)
 go_upto_region 13 with (fail)
 refine Go.FS.wp_region_fresh 81 [] (Go.FS.spOf [(26, Go.FS.Sp.made (fun x : PV => x.v) (fun x w' => DP w' w84.heap.size x p88) (fun _ _ => False)), (28, Go.FS.Sp.know (.bool true)), (33, Go.FS.Sp.made (fun x : PV => x.v) (fun x w' => DP w' w84.heap.size x p89) (fun _ _ => False)), (40, Go.FS.Sp.made (fun x : PV => x.v) (fun x w' => DP w' w84.heap.size x p71) (fun _ _ => False)), (46, Go.FS.Sp.know (.string ⟨[51, 47, 50].toArray⟩)), (58, Go.FS.Sp.made (fun x : FV => x.v) (fun x w' => DF w' w84.heap.size x q17) FV.blk), (59, Go.FS.Sp.made (fun x : PV => x.v) (fun x w' => DP w' w84.heap.size x p90) (fun _ _ => False)), (60, Go.FS.Sp.know (.bool true)), (65, Go.FS.Sp.know (.bool true)), (68, Go.FS.Sp.know (.int .i64 (-1))), (73, Go.FS.Sp.know (.int .i64 (-1))), (78, Go.FS.Sp.know (.int .i64 1))])
  (fun w' => Below w84.heap.size w84 w') (by kernel_rfl) ((congrArg (fun o => Region.lexTailB .any o 81) (show _ = paOps by kernel_rfl)).trans paChk) (by kernel_rfl)
  (Go.FS.spOf_cons (Go.FS.Sp.made_keepsR _ rowT (fun _ _ _ h hs => h.rows hs) (by kernel_rfl) (Go.FS.notTaken (by kernel_rfl))) (Go.FS.spOf_cons (Go.FS.Sp.know_keeps _ _) (Go.FS.spOf_cons (Go.FS.Sp.made_keepsR _ rowT (fun _ _ _ h hs => h.rows hs) (by kernel_rfl) (Go.FS.notTaken (by kernel_rfl))) (Go.FS.spOf_cons (Go.FS.Sp.made_keepsR _ rowT (fun _ _ _ h hs => h.rows hs) (by kernel_rfl) (Go.FS.notTaken (by kernel_rfl))) (Go.FS.spOf_cons (Go.FS.Sp.know_keeps _ _) (Go.FS.spOf_cons (Go.FS.Sp.made_keeps _ (fun _ _ _ h _ hk => h.kept hk) (Go.FS.notTaken (by kernel_rfl))) (Go.FS.spOf_cons (Go.FS.Sp.made_keepsR _ rowT (fun _ _ _ h hs => h.rows hs) (by kernel_rfl) (Go.FS.notTaken (by kernel_rfl))) (Go.FS.spOf_cons (Go.FS.Sp.know_keeps _ _) (Go.FS.spOf_cons (Go.FS.Sp.know_keeps _ _) (Go.FS.spOf_cons (Go.FS.Sp.know_keeps _ _) (Go.FS.spOf_cons (Go.FS.Sp.know_keeps _ _) (Go.FS.spOf_cons (Go.FS.Sp.know_keeps _ _) (Go.FS.spOf_nil))))))))))))) (fun _ _ h hb => h.trans (hb.mono h.size)) ((Below.refl _ _).drew) ?_
 simp only [List.append_eq, List.cons_append, List.nil_append, List.take_succ_cons, List.take_zero, List.drop_succ_cons, List.drop_zero]
 iterate 3
  refine Go.FS.wpF_reads rfl rfl rfl ?_ (fun w' hw' => ?_) ?_
  rotate_left
  ·have hb' := hw'.world
   skip
   clear hw'
   go_simp
   try rfl
  conv => arg 10; simp only [Act.put, Go.q0, Go.q1, Go.q2]
 iterate 2
  refine Go.FS.wpF_readsG (by rfl) rfl rfl ?_ (fun w' hw' => ?_) ?_
  rotate_left
  ·have hb' := hw'.world
   skip
   clear hw'
   go_simp
   try rfl
  conv => arg 10; simp only [Act.put, Go.q0, Go.q1, Go.q2]
 iterate 2
  refine Go.FS.wpF_reads rfl rfl rfl ?_ (fun w' hw' => ?_) ?_
  rotate_left
  ·have hb' := hw'.world
   skip
   clear hw'
   go_simp
   try rfl
  conv => arg 10; simp only [Act.put, Go.q0, Go.q1, Go.q2]
 iterate 2
  refine Go.FS.wpF_readsG (by rfl) rfl rfl ?_ (fun w' hw' => ?_) ?_
  rotate_left
  ·have hb' := hw'.world
   skip
   clear hw'
   go_simp
   try rfl
  conv => arg 10; simp only [Act.put, Go.q0, Go.q1, Go.q2]
 iterate 2
  refine Go.FS.wpF_reads rfl rfl rfl ?_ (fun w' hw' => ?_) ?_
  rotate_left
  ·have hb' := hw'.world
   skip
   clear hw'
   go_simp
   try rfl
  conv => arg 10; simp only [Act.put, Go.q0, Go.q1, Go.q2]
 refine Go.FS.wpF_readsG (by rfl) rfl rfl ?_ (fun w' hw' => ?_) ?_
 rotate_left
 ·have hb' := hw'.world
  skip
  clear hw'
  go_simp
  try rfl
 conv => arg 10; simp only [Act.put, Go.q0, Go.q1, Go.q2]
 iterate 2
  refine Go.FS.wpF_reads rfl rfl rfl ?_ (fun w' hw' => ?_) ?_
  rotate_left
  ·have hb' := hw'.world
   skip
   clear hw'
   go_simp
   try rfl
  conv => arg 10; simp only [Act.put, Go.q0, Go.q1, Go.q2]
 iterate 2
  refine Go.FS.wpF_readsG (by rfl) rfl rfl ?_ (fun w' hw' => ?_) ?_
  rotate_left
  ·have hb' := hw'.world
   skip
   clear hw'
   go_simp
   try rfl
  conv => arg 10; simp only [Act.put, Go.q0, Go.q1, Go.q2]
 iterate 2
  refine Go.FS.wpF_reads rfl rfl rfl ?_ (fun w' hw' => ?_) ?_
  rotate_left
  ·have hb' := hw'.world
   skip
   clear hw'
   go_simp
   try rfl
  conv => arg 10; simp only [Act.put, Go.q0, Go.q1, Go.q2]
 refine Go.FS.wpF_readsG (by rfl) rfl rfl ?_ (fun w' hw' => ?_) ?_
 rotate_left
 ·have hb' := hw'.world
  skip
  clear hw'
  go_simp
  try rfl
 conv => arg 10; simp only [Act.put, Go.q0, Go.q1, Go.q2]
 refine Go.FS.wpF_readsG (by rfl) rfl rfl ?_ (fun w' hw' => ?_) ?_
 rotate_left
 ·have hb' := hw'.world
  have hs0 := (BX46.out.below hb' BX46.out.lt).cell (i := 0) rfl
  have hs1 := (BX46.out.below hb' BX46.out.lt).cell (i := 1) rfl
  have hs2 := (BX46.out.below hb' BX46.out.lt).cell (i := 2) rfl
  have hs3 := (BX46.out.below hb' BX46.out.lt).cell (i := 3) rfl
  have hs4 := (BX46.out.below hb' BX46.out.lt).cell (i := 4) rfl
  have hs5 := (BX46.out.below hb' BX46.out.lt).cell (i := 5) rfl
  have hs6 := (BX46.out.below hb' BX46.out.lt).cell (i := 6) rfl
  have hs7 := (BX46.out.below hb' BX46.out.lt).cell (i := 7) rfl
  have hsf := (BX46.out.below hb' BX46.out.lt).fz
  have hsl := (BX46.out.below hb' BX46.out.lt).lt
  clear hw'
  go_simp
  try rfl
 conv => arg 10; simp only [Act.put, Go.q0, Go.q1, Go.q2]
 refine Go.FS.wpF_readsG (by rfl) rfl rfl ?_ (fun w' hw' => ?_) ?_
 rotate_left
 ·have hb' := hw'.world
  skip
  clear hw'
  go_simp
  try rfl
 conv => arg 10; simp only [Act.put, Go.q0, Go.q1, Go.q2]
 refine Go.FS.wpF_readsG (by rfl) rfl rfl ?_ (fun w' hw' => ?_) ?_
 rotate_left
 ·have hb' := hw'.world
  have e0 := HM0.out
  have e1 := HM1.out
  have e2 := HM2.out
  have e3 := HM3.out
  clear hw'
  go_simp
  try rfl
 conv => arg 10; simp only [Act.put, Go.q0, Go.q1, Go.q2]
 iterate 2
  refine Go.FS.wpF_reads rfl rfl rfl ?_ (fun w' hw' => ?_) ?_
  rotate_left
  ·have hb' := hw'.world
   skip
   clear hw'
   go_simp
   try rfl
  conv => arg 10; simp only [Act.put, Go.q0, Go.q1, Go.q2]
 iterate 2
  refine Go.FS.wpF_readsG (by rfl) rfl rfl ?_ (fun w' hw' => ?_) ?_
  rotate_left
  ·have hb' := hw'.world
   skip
   clear hw'
   go_simp
   try rfl
  conv => arg 10; simp only [Act.put, Go.q0, Go.q1, Go.q2]
 refine Go.FS.wpF_gspec (by rfl) rfl rfl (fun w' hw' => ?_) ?_
 ·have hb' := hw'.world
  refine Go.FS.gives_of (Go.FS.PM (fun x : PV => x.v) (fun x w' => DP w' w84.heap.size x p88) (fun _ _ => False) w'.heap.size) ?_ (fun _ _ h => h.post (fun _ _ => PV.inj))
  go_simp
  have CT := padd (N16.out.below hb').k PCp13.out (N16.out.below hb').k PCp13.out 9 (by decide) (by decide) (by decide) (by decide)
  rw [show addP p13 p13 = p88 from Hp88.out.symm] at CT
  refine CT.mono ?_
  rintro e w'' ⟨za, rfl, ho, hb⟩
  exact ⟨_, rfl, ⟨za, rfl, ho.mono hb'.size, fun _ h => False.elim h⟩, hb⟩
 rintro _ ⟨y26, rfl⟩
 conv => arg 10; simp only [Act.put, Go.q0, Go.q1, Go.q2]
 refine Go.FS.wpF_readsG (by rfl) rfl rfl ?_ (fun w' hw' => ?_) ?_
 rotate_left
 ·have hb' := hw'.world
  skip
  clear hw'
  go_simp
  try rfl
 conv => arg 10; simp only [Act.put, Go.q0, Go.q1, Go.q2]
 refine Go.FS.wpF_gspec (by rfl) rfl rfl (fun w' hw' => ?_) ?_
 ·have hb' := hw'.world
  refine Go.FS.gives_of (Go.FS.PK (.bool true)) ?_ (fun _ _ h => h.post)
  go_simp
  have f26 := Go.FS.made_of (val := (fun x : PV => x.v)) (Φ := fun x w' => DP w' w84.heap.size x p88) (fun _ _ => PV.inj) (hw'.fact 26 (by kernel_rfl))
  have CT := plsame f26.k (N24.out.below hb').k (by simp only [Hp88.out, Hp87.out, Hp83.out, Hp71.out, Hq65.out, Hl64.out, Hq58.out, Hq52.out, Hp36.out, Hp32.out, Hp25.out, Hp21.out, Hq17.out, Hp13.out, Hp9.out, Hp5.out, Hq1.out]; decide +kernel) PCp88.out (by decide) (by decide)
  refine CT.mono ?_
  rintro e w'' ⟨rfl, hb⟩
  exact ⟨_, rfl, rfl, hb⟩
 rintro _ rfl
 conv => arg 10; simp only [Act.put, Go.q0, Go.q1, Go.q2]
 iterate 2
  refine Go.FS.wpF_reads rfl rfl rfl ?_ (fun w' hw' => ?_) ?_
  rotate_left
  ·have hb' := hw'.world
   skip
   clear hw'
   go_simp
   try rfl
  conv => arg 10; simp only [Act.put, Go.q0, Go.q1, Go.q2]
 iterate 2
  refine Go.FS.wpF_readsG (by rfl) rfl rfl ?_ (fun w' hw' => ?_) ?_
  rotate_left
  ·have hb' := hw'.world
   skip
   clear hw'
   go_simp
   try rfl
  conv => arg 10; simp only [Act.put, Go.q0, Go.q1, Go.q2]
 refine Go.FS.wpF_gspec (by rfl) rfl rfl (fun w' hw' => ?_) ?_
 ·have hb' := hw'.world
  refine Go.FS.gives_of (Go.FS.PM (fun x : PV => x.v) (fun x w' => DP w' w84.heap.size x p89) (fun _ _ => False) w'.heap.size) ?_ (fun _ _ h => h.post (fun _ _ => PV.inj))
  go_simp
  have CT := psub (N16.out.below hb').k PCp13.out (N16.out.below hb').k PCp13.out 12 (by decide) (by decide) (by decide) (by decide) (by decide) (by decide)
  rw [show subP p13 p13 = p89 from Hp89.out.symm] at CT
  refine CT.mono ?_
  rintro e w'' ⟨za, rfl, ho, hb⟩
  exact ⟨_, rfl, ⟨za, rfl, ho.mono hb'.size, fun _ h => False.elim h⟩, hb⟩
 rintro _ ⟨y33, rfl⟩
 conv => arg 10; simp only [Act.put, Go.q0, Go.q1, Go.q2]
 refine Go.FS.wpF_readsG (by rfl) rfl rfl ?_ (fun w' hw' => ?_) ?_
 rotate_left
 ·have hb' := hw'.world
  have f33 := Go.FS.made_of (val := (fun x : PV => x.v)) (Φ := fun x w' => DP w' w84.heap.size x p89) (fun _ _ => PV.inj) (hw'.fact 33 (by kernel_rfl))
  have hn : ((y33.n : Nat) : Int) = 0 := by rw [show y33.n = 0 from by rw [f33.k.len]; simp only [Hp89.out, Hp88.out, Hp87.out, Hp83.out, Hp71.out, Hq65.out, Hl64.out, Hq58.out, Hq52.out, Hp36.out, Hp32.out, Hp25.out, Hp21.out, Hq17.out, Hp13.out, Hp9.out, Hp5.out, Hq1.out]; decide +kernel]; rfl
  clear hw'
  go_simp
  try rfl
 conv => arg 10; simp only [Act.put, Go.q0, Go.q1, Go.q2]
 refine Go.FS.wpF_readsG (by rfl) rfl rfl ?_ (fun w' hw' => ?_) ?_
 rotate_left
 ·have hb' := hw'.world
  skip
  clear hw'
  go_simp
  try rfl
 conv => arg 10; simp only [Act.put, Go.q0, Go.q1, Go.q2]
 iterate 2
  refine Go.FS.wpF_reads rfl rfl rfl ?_ (fun w' hw' => ?_) ?_
  rotate_left
  ·have hb' := hw'.world
   skip
   clear hw'
   go_simp
   try rfl
  conv => arg 10; simp only [Act.put, Go.q0, Go.q1, Go.q2]
 iterate 2
  refine Go.FS.wpF_readsG (by rfl) rfl rfl ?_ (fun w' hw' => ?_) ?_
  rotate_left
  ·have hb' := hw'.world
   skip
   clear hw'
   go_simp
   try rfl
  conv => arg 10; simp only [Act.put, Go.q0, Go.q1, Go.q2]
 refine Go.FS.wpF_gspec (by rfl) rfl rfl (fun w' hw' => ?_) ?_
 ·have hb' := hw'.world
  refine Go.FS.gives_of (Go.FS.PM (fun x : PV => x.v) (fun x w' => DP w' w84.heap.size x p71) (fun _ _ => False) w'.heap.size) ?_ (fun _ _ h => h.post (fun _ _ => PV.inj))
  go_simp
  have CT := plmul (N16.out.below hb').k PCp13.out (N16.out.below hb').k PCp13.out (by decide) (by decide) (by decide) (by decide) (by decide) (by decide) (by decide)
  rw [show mulP p13 p13 = p71 from Hp71.out.symm] at CT
  refine CT.mono ?_
  rintro e w'' ⟨za, rfl, ho, hb⟩
  exact ⟨_, rfl, ⟨za, rfl, ho.mono hb'.size, fun _ h => False.elim h⟩, hb⟩
 rintro _ ⟨y40, rfl⟩
 conv => arg 10; simp only [Act.put, Go.q0, Go.q1, Go.q2]
 refine Go.FS.wpF_readsG (by rfl) rfl rfl ?_ (fun w' hw' => ?_) ?_
 rotate_left
 ·have hb' := hw'.world
  have f40 := Go.FS.made_of (val := (fun x : PV => x.v)) (Φ := fun x w' => DP w' w84.heap.size x p71) (fun _ _ => PV.inj) (hw'.fact 40 (by kernel_rfl))
  have hn : ((y40.n : Nat) : Int) = 3 := by rw [show y40.n = 3 from by rw [f40.k.len]; simp only [Hp89.out, Hp88.out, Hp87.out, Hp83.out, Hp71.out, Hq65.out, Hl64.out, Hq58.out, Hq52.out, Hp36.out, Hp32.out, Hp25.out, Hp21.out, Hq17.out, Hp13.out, Hp9.out, Hp5.out, Hq1.out]; decide +kernel]; rfl
  clear hw'
  go_simp
  try rfl
 conv => arg 10; simp only [Act.put, Go.q0, Go.q1, Go.q2]
 refine Go.FS.wpF_readsG (by rfl) rfl rfl ?_ (fun w' hw' => ?_) ?_
 rotate_left
 ·have hb' := hw'.world
  skip
  clear hw'
  go_simp
  try rfl
 conv => arg 10; simp only [Act.put, Go.q0, Go.q1, Go.q2]
 iterate 2
  refine Go.FS.wpF_reads rfl rfl rfl ?_ (fun w' hw' => ?_) ?_
  rotate_left
  ·have hb' := hw'.world
   skip
   clear hw'
   go_simp
   try rfl
  conv => arg 10; simp only [Act.put, Go.q0, Go.q1, Go.q2]
 refine Go.FS.wpF_readsG (by rfl) rfl rfl ?_ (fun w' hw' => ?_) ?_
 rotate_left
 ·have hb' := hw'.world
  have hs0 := (BX69.out.below hb' BX69.out.lt).cell (i := 0) rfl
  have hs1 := (BX69.out.below hb' BX69.out.lt).cell (i := 1) rfl
  have hs2 := (BX69.out.below hb' BX69.out.lt).cell (i := 2) rfl
  have hs3 := (BX69.out.below hb' BX69.out.lt).cell (i := 3) rfl
  have hsf := (BX69.out.below hb' BX69.out.lt).fz
  have hsl := (BX69.out.below hb' BX69.out.lt).lt
  clear hw'
  go_simp
  try rfl
 conv => arg 10; simp only [Act.put, Go.q0, Go.q1, Go.q2]
 refine Go.FS.wpF_gspec (by rfl) rfl rfl (fun w' hw' => ?_) ?_
 ·have hb' := hw'.world
  refine Go.FS.gives_of (Go.FS.PK (.string ⟨[51, 47, 50].toArray⟩)) ?_ (fun _ _ h => h.post)
  go_simp
  have CT := qtext_two x67 q65 w' (HT.out.on (KG.out.trans (hb'.mono KG.out.size))) ((N68.out.below hb')).k.any ((((N68.out.below hb')).k).len LQq65.out (by decide : _ ≤ 100)) (LQq65.out.up (by decide : _ ≤ 101)) (by rw [HQT.out]; decide +kernel)
  rw [show textQ q65 = [51, 47, 50] from text_c HQT.out] at CT
  refine CT.mono ?_
  rintro e w'' ⟨rfl, hb⟩
  exact ⟨_, rfl, rfl, hb⟩
 rintro _ rfl
 conv => arg 10; simp only [Act.put, Go.q0, Go.q1, Go.q2]
 refine Go.FS.wpF_readsG (by rfl) rfl rfl ?_ (fun w' hw' => ?_) ?_
 rotate_left
 ·have hb' := hw'.world
  skip
  clear hw'
  go_simp
  try rfl
 conv => arg 10; simp only [Act.put, Go.q0, Go.q1, Go.q2]
 iterate 2
  refine Go.FS.wpF_reads rfl rfl rfl ?_ (fun w' hw' => ?_) ?_
  rotate_left
  ·have hb' := hw'.world
   skip
   clear hw'
   go_simp
   try rfl
  conv => arg 10; simp only [Act.put, Go.q0, Go.q1, Go.q2]
 iterate 3
  refine Go.FS.wpF_readsG (by rfl) rfl rfl ?_ (fun w' hw' => ?_) ?_
  rotate_left
  ·have hb' := hw'.world
   skip
   clear hw'
   go_simp
   try rfl
  conv => arg 10; simp only [Act.put, Go.q0, Go.q1, Go.q2]
 iterate 2
  refine Go.FS.wpF_reads rfl rfl rfl ?_ (fun w' hw' => ?_) ?_
  rotate_left
  ·have hb' := hw'.world
   skip
   clear hw'
   go_simp
   try rfl
  conv => arg 10; simp only [Act.put, Go.q0, Go.q1, Go.q2]
 iterate 2
  refine Go.FS.wpF_readsG (by rfl) rfl rfl ?_ (fun w' hw' => ?_) ?_
  rotate_left
  ·have hb' := hw'.world
   skip
   clear hw'
   go_simp
   try rfl
  conv => arg 10; simp only [Act.put, Go.q0, Go.q1, Go.q2]
 refine Go.FS.wpF_readsG (by rfl) rfl rfl ?_ (fun w' hw' => ?_) ?_
 rotate_left
 ·have hb' := hw'.world
  have hc := HCC.out w' hb'
  clear hw'
  go_simp
  try rfl
 conv => arg 10; simp only [Act.put, Go.q0, Go.q1, Go.q2]
 refine Go.FS.wpF_gspec (by rfl) rfl rfl (fun w' hw' => ?_) ?_
 ·have hb' := hw'.world
  refine Go.FS.gives_of (Go.FS.PM (fun x : FV => x.v) (fun x w' => DF w' w84.heap.size x q17) FV.blk w'.heap.size) ?_ (fun _ _ h => h.post (fun _ _ => FV.inj))
  go_simp
  have CT := qof 2 w' (by decide) (by decide)
  rw [show ((2 : Int) : Rat) = q17 from Hq17.out.symm] at CT
  refine CT.mono ?_
  rintro e w'' ⟨za, rfl, ho, hb⟩
  exact ⟨_, rfl, ⟨za, rfl, ho.mono hb'.size, ho.blks⟩, hb⟩
 rintro _ ⟨y58, rfl⟩
 conv => arg 10; simp only [Act.put, Go.q0, Go.q1, Go.q2]
 refine Go.FS.wpF_gspec (by rfl) rfl rfl (fun w' hw' => ?_) ?_
 ·have hb' := hw'.world
  refine Go.FS.gives_of (Go.FS.PM (fun x : PV => x.v) (fun x w' => DP w' w84.heap.size x p90) (fun _ _ => False) w'.heap.size) ?_ (fun _ _ h => h.post (fun _ _ => PV.inj))
  go_simp
  have f58 := Go.FS.made_of (val := (fun x : FV => x.v)) (Φ := fun x w' => DF w' w84.heap.size x q17) (fun _ _ => FV.inj) (hw'.fact 58 (by kernel_rfl))
  have CT := pof (f58).k.any (((f58).k).len LQq17.out (by decide : _ ≤ 900000)) LQq17.out (by decide)
  rw [show nf [(Mo.one, q17)] = p90 from Hp90.out.symm] at CT
  refine CT.mono ?_
  rintro e w'' ⟨za, rfl, ho, hb⟩
  exact ⟨_, rfl, ⟨za, rfl, ho.mono hb'.size, fun _ h => False.elim h⟩, hb⟩
 rintro _ ⟨y59, rfl⟩
 conv => arg 10; simp only [Act.put, Go.q0, Go.q1, Go.q2]
 refine Go.FS.wpF_gspec (by rfl) rfl rfl (fun w' hw' => ?_) ?_
 ·have hb' := hw'.world
  refine Go.FS.gives_of (Go.FS.PK (.bool true)) ?_ (fun _ _ h => h.post)
  go_simp
  have f59 := Go.FS.made_of (val := (fun x : PV => x.v)) (Φ := fun x w' => DP w' w84.heap.size x p90) (fun _ _ => PV.inj) (hw'.fact 59 (by kernel_rfl))
  have CT := plsame (NZ1.out.below hb') f59.k (by simp only [Hp90.out, Hp89.out, Hp88.out, Hp87.out, Hp83.out, Hp71.out, Hq65.out, Hl64.out, Hq58.out, Hq52.out, Hp36.out, Hp32.out, Hp25.out, Hp21.out, Hq17.out, Hp13.out, Hp9.out, Hp5.out, Hq1.out]; decide +kernel) PCp87.out (by decide) (by decide)
  refine CT.mono ?_
  rintro e w'' ⟨rfl, hb⟩
  exact ⟨_, rfl, rfl, hb⟩
 rintro _ rfl
 conv => arg 10; simp only [Act.put, Go.q0, Go.q1, Go.q2]
 iterate 2
  refine Go.FS.wpF_reads rfl rfl rfl ?_ (fun w' hw' => ?_) ?_
  rotate_left
  ·have hb' := hw'.world
   skip
   clear hw'
   go_simp
   try rfl
  conv => arg 10; simp only [Act.put, Go.q0, Go.q1, Go.q2]
 iterate 2
  refine Go.FS.wpF_readsG (by rfl) rfl rfl ?_ (fun w' hw' => ?_) ?_
  rotate_left
  ·have hb' := hw'.world
   skip
   clear hw'
   go_simp
   try rfl
  conv => arg 10; simp only [Act.put, Go.q0, Go.q1, Go.q2]
 refine Go.FS.wpF_gspec (by rfl) rfl rfl (fun w' hw' => ?_) ?_
 ·have hb' := hw'.world
  refine Go.FS.gives_of (Go.FS.PK (.bool true)) ?_ (fun _ _ h => h.post)
  go_simp
  have CT := plsame (N86.out.below hb').k (N24.out.below hb').k (by simp only [Hp90.out, Hp89.out, Hp88.out, Hp87.out, Hp83.out, Hp71.out, Hq65.out, Hl64.out, Hq58.out, Hq52.out, Hp36.out, Hp32.out, Hp25.out, Hp21.out, Hq17.out, Hp13.out, Hp9.out, Hp5.out, Hq1.out]; decide +kernel) PCp83.out (by decide) (by decide)
  refine CT.mono ?_
  rintro e w'' ⟨rfl, hb⟩
  exact ⟨_, rfl, rfl, hb⟩
 rintro _ rfl
 conv => arg 10; simp only [Act.put, Go.q0, Go.q1, Go.q2]
 iterate 2
  refine Go.FS.wpF_reads rfl rfl rfl ?_ (fun w' hw' => ?_) ?_
  rotate_left
  ·have hb' := hw'.world
   skip
   clear hw'
   go_simp
   try rfl
  conv => arg 10; simp only [Act.put, Go.q0, Go.q1, Go.q2]
 refine Go.FS.wpF_gspec (by rfl) rfl rfl (fun w' hw' => ?_) ?_
 ·have hb' := hw'.world
  refine Go.FS.gives_of (Go.FS.PK (.int .i64 (-1))) ?_ (fun _ _ h => h.post)
  go_simp
  have CT := degree_nil w'
  refine CT.mono ?_
  rintro e w'' ⟨rfl, hb⟩
  exact ⟨_, rfl, rfl, hb⟩
 rintro _ rfl
 conv => arg 10; simp only [Act.put, Go.q0, Go.q1, Go.q2]
 refine Go.FS.wpF_readsG (by rfl) rfl rfl ?_ (fun w' hw' => ?_) ?_
 rotate_left
 ·have hb' := hw'.world
  skip
  clear hw'
  go_simp
  try rfl
 conv => arg 10; simp only [Act.put, Go.q0, Go.q1, Go.q2]
 iterate 2
  refine Go.FS.wpF_reads rfl rfl rfl ?_ (fun w' hw' => ?_) ?_
  rotate_left
  ·have hb' := hw'.world
   skip
   clear hw'
   go_simp
   try rfl
  conv => arg 10; simp only [Act.put, Go.q0, Go.q1, Go.q2]
 refine Go.FS.wpF_readsG (by rfl) rfl rfl ?_ (fun w' hw' => ?_) ?_
 rotate_left
 ·have hb' := hw'.world
  skip
  clear hw'
  go_simp
  try rfl
 conv => arg 10; simp only [Act.put, Go.q0, Go.q1, Go.q2]
 refine Go.FS.wpF_gspec (by rfl) rfl rfl (fun w' hw' => ?_) ?_
 ·have hb' := hw'.world
  refine Go.FS.gives_of (Go.FS.PK (.int .i64 (-1))) ?_ (fun _ _ h => h.post)
  go_simp
  have CT := degree_out z15 (4) (by decide) w'
  refine CT.mono ?_
  rintro e w'' ⟨rfl, hb⟩
  exact ⟨_, rfl, rfl, hb⟩
 rintro _ rfl
 conv => arg 10; simp only [Act.put, Go.q0, Go.q1, Go.q2]
 refine Go.FS.wpF_readsG (by rfl) rfl rfl ?_ (fun w' hw' => ?_) ?_
 rotate_left
 ·have hb' := hw'.world
  skip
  clear hw'
  go_simp
  try rfl
 conv => arg 10; simp only [Act.put, Go.q0, Go.q1, Go.q2]
 iterate 2
  refine Go.FS.wpF_reads rfl rfl rfl ?_ (fun w' hw' => ?_) ?_
  rotate_left
  ·have hb' := hw'.world
   skip
   clear hw'
   go_simp
   try rfl
  conv => arg 10; simp only [Act.put, Go.q0, Go.q1, Go.q2]
 refine Go.FS.wpF_readsG (by rfl) rfl rfl ?_ (fun w' hw' => ?_) ?_
 rotate_left
 ·have hb' := hw'.world
  skip
  clear hw'
  go_simp
  try rfl
 conv => arg 10; simp only [Act.put, Go.q0, Go.q1, Go.q2]
 refine Go.FS.wpF_gspec (by rfl) rfl rfl (fun w' hw' => ?_) ?_
 ·have hb' := hw'.world
  refine Go.FS.gives_of (Go.FS.PK (.int .i64 1)) ?_ (fun _ _ h => h.post)
  go_simp
  have CT := show Calls Tryz.prog 73 #[z15.v, .int .i64 0] w' _ from pdegree 0 (by decide) (N16.out.below hb').k PCp13.out (by decide) (by decide)
  rw [show degP p13 0 = 1 from by simp only [Hp90.out, Hp89.out, Hp88.out, Hp87.out, Hp83.out, Hp71.out, Hq65.out, Hl64.out, Hq58.out, Hq52.out, Hp36.out, Hp32.out, Hp25.out, Hp21.out, Hq17.out, Hp13.out, Hp9.out, Hp5.out, Hq1.out]; decide +kernel] at CT
  refine CT.mono ?_
  rintro e w'' ⟨rfl, hb⟩
  exact ⟨_, rfl, rfl, hb⟩
 rintro _ rfl
 conv => arg 10; simp only [Act.put, Go.q0, Go.q1, Go.q2]
 refine Go.FS.wpF_readsG (by rfl) rfl rfl ?_ (fun w' hw' => ?_) ?_
 rotate_left
 ·have hb' := hw'.world
  skip
  clear hw'
  go_simp
  try rfl
 conv => arg 10; simp only [Act.put, Go.q0, Go.q1, Go.q2]
 refine Go.FS.wpF_reads rfl rfl rfl ?_ (fun w' hw' => ?_) ?_
 rotate_left
 ·have hb' := hw'.world
  skip
  clear hw'
  go_simp
  try rfl
 conv => arg 10; simp only [Act.put, Go.q0, Go.q1, Go.q2]
 refine Go.FS.wpF_nil (fun w91 hb hF => ?_)
 clear hF
 clear N16
 clear N24
 clear N68
 clear N79
 clear N86
 clear NZ1
 clear BX46
 clear BX69
 have KG := Lib.hid (KG.out.trans (hb.mono KG.out.size))
 clear hb
 go_wp2_with fail
 go_ret
 exact ⟨rfl, KG.out⟩
end Go.Proofs.YthcccdjfedbnfaaGreatDoor.Pol
