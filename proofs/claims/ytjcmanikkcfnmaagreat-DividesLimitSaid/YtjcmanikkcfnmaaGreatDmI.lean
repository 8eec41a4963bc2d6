/-
  The document's answer for fracs: one, Check, Of, Fit.
-/
import Derived.Test.YtjcmanikkcfnmaaGreatDmH
set_option linter.unusedSimpArgs false
set_option linter.unusedVariables false
set_option maxHeartbeats 16000000
set_option maxRecDepth 100000
namespace Go.Proofs.YtjcmanikkcfnmaaGreat.Limb
open Go.RowKit Go.Sort Go.Fresh
theorem results_ct {P:Program} {fn:Func} {p t:Tmp} {ty:TypeId} (h:fn.results=#[.cell p ty,.tmp t]) (tmps:Array Value) (w:World) (g:Nat) (ta:TypeId) (cs:Array Value) (fr:Nat × Nat) (d:TypeDesc)
  (hp:tmps.getD p undef=.pointer (some ⟨g,0,none⟩)) (hg:w.heap[g]?=some (.cells cs ta fr))
  (hu:P.underlying ty=some d) (hd:(match d with | .struct _ | .array _ _=>true | _=>false)=true) (hi:(P.info? ty).map (·.size)=some cs.size) :
  (results fn tmps).run P w=.ok (.tuple #[.agg cs,tmps.getD t undef]) w:=by
 have hp':tmps[p]?.getD undef=.pointer (some ⟨g,0,none⟩):=by simpa using hp
 simp[results,h,hp',asAddr,run_loadVar_row w g ta ty cs fr d hg hu hd hi]
def MakeP (w:World) (c p q:Int) (e:Ending) (w':World):Prop :=
 ∃ a1 a2,e=.returned (.tuple #[fracV (decide (p<0)) a1 (lenB p.natAbs) (lenB p.natAbs) (decide (q<0)) a2 (lenB q.natAbs) (lenB q.natAbs),.int .i64 c])∧Own 44 w' w.heap.size a1 (lenB p.natAbs) (lenB p.natAbs) (dgi p.natAbs) ∧
  Own 44 w' w.heap.size a2 (lenB q.natAbs) (lenB q.natAbs) (dgi q.natAbs)∧Apart2 a1 a2∧Below w.heap.size w w'
def MakeF (w:World) (c p q:Int) (e:Ending) (w':World):Prop :=
 ∃ a1 c1 a2 c2,e=.returned (.tuple #[fracV (decide (p<0)) a1 (lenB p.natAbs) c1 (decide (q<0)) a2 (lenB q.natAbs) c2,.int .i64 c])∧Own 44 w' w.heap.size a1 (lenB p.natAbs) c1 (dgi p.natAbs) ∧
  Own 44 w' w.heap.size a2 (lenB q.natAbs) c2 (dgi q.natAbs)∧Below w.heap.size w w'
theorem makeP_err {w:World} {c:Int} {e:Ending} {w':World} (h:e=.returned (.tuple #[fracV false none 0 0 false none 0 0,.int .i64 c])∧Below w.heap.size w w'):MakeP w c 0 0 e w'∧MakeF w c 0 0 e w':=by
 obtain⟨rfl,hb⟩:=h
 have hl:lenB (Int.natAbs 0)=0:=by rw[show Int.natAbs 0=0 from rfl,lenB_zero]
 refine⟨⟨none,none,?_,?_,?_,fun p q h=>(by cases h),hb⟩,⟨none,0,none,0,?_,own_zero _ _,own_zero _ _,hb⟩⟩
 ·rw[hl];rfl
 ·have:=own_zero w' w.heap.size;rw[hl] at this ⊢;exact this
 ·have:=own_zero w' w.heap.size;rw[hl] at this ⊢;exact this
 ·rw[hl];rfl
theorem sign_zero (z:Int):(cmpZ z 0=0)↔z=0:=by
 rcases Int.lt_trichotomy z 0 with h | h | h
 ·rw[cmpZ_lt h];omega
 ·rw[cmpZ_eq h];omega
 ·rw[cmpZ_gt h];omega
open Classical in
theorem make_1 (s1:Bool) (a1:Option Addr) (n1 c1:Nat) (o1:Nat→Int) (s2:Bool) (a2:Option Addr) (n2 c2:Nat) (o2:Nat→Int) (w:World)
  (h1:Rd w a1 n1 o1) (hn1:n1≤4000000) (hc1:n1≤c1) (h2:Rd w a2 n2 o2) (hn2:n2≤4000000) (hc2:n2≤c2) (hk:¬okN s1 n1 o1) :
  Calls Tryz.prog 71 #[numV s1 a1 n1 c1,numV s2 a2 n2 c2] w fun e w'=>e=.returned (.tuple #[fracV false none 0 0 false none 0 0,.int .i64 1])∧Below w.heap.size w w':=by
 have CK1:=qh (fun (w':World) (hb:Below w.heap.size w w')=>check_any s1 a1 n1 c1 o1 w' (h1.below hb) (by omega));have CK2:=qh (fun (w':World) (hb:Below w.heap.size w w')=>check_any s2 a2 n2 c2 o2 w' (h2.below hb) (by omega));rw[decide_eq_false hk] at CK1;clear hk h1 h2;have KB1:=qh (((Bx.new w 26 (.bool s1) (.slice a1 n1 c1)).alloc (.cells #[.bool s2,.slice a2 n2 c2] 26)).alloc (.cells #[.bool false,.slice none 0 0,.bool false,.slice none 0 0] 28));have KB2:=qh ((Bx.new2 w (.cells #[.bool s1,.slice a1 n1 c1] 26) 26 (.bool s2) (.slice a2 n2 c2)).alloc (.cells #[.bool false,.slice none 0 0,.bool false,.slice none 0 0] 28));have KB4:=qh (Bxs.new ((w.alloc (.cells #[.bool s1,.slice a1 n1 c1] 26)).alloc (.cells #[.bool s2,.slice a2 n2 c2] 26)) 28 [.bool false,.slice none 0 0,.bool false,.slice none 0 0]);obtain⟨W,hW⟩:∃ W,W=(((w.alloc (.cells #[.bool s1,.slice a1 n1 c1] 26)).alloc (.cells #[.bool s2,.slice a2 n2 c2] 26)).alloc (.cells #[.bool false,.slice none 0 0,.bool false,.slice none 0 0] 28)):=⟨_,rfl⟩;have KG:=qh (show Below w.heap.size w W by rw[hW];exact(((Below.refl _ _).alloc (Nat.le_refl _) _).alloc (by go_size) _).alloc (by go_size) _);rw[← hW] at KB1 KB2;rw[show(((w.alloc (.cells #[.bool s1,.slice a1 n1 c1] 26)).alloc (.cells #[.bool s2,.slice a2 n2 c2] 26)).alloc (.cells (List.toArray [.bool false,.slice none 0 0,.bool false,.slice none 0 0]) 28))=W from hW.symm,World.size_alloc,World.size_alloc] at KB4;have HW:=qh hW;have GB:=qh (Below.refl W.heap.size W);clear hW;go_enter Tryz.func71,Tryz.ntmps71
 go_upto_region 1 with (fail)
 rw[show(((w.alloc (.cells #[.bool s1,.slice a1 n1 c1] 26)).alloc (.cells #[.bool s2,.slice a2 n2 c2] 26)).alloc (.cells #[.bool false,.slice none 0 0,.bool false,.slice none 0 0] 28))=W from HW.out.symm];clear HW;obtain⟨x0,x1,x2,x3⟩:=KB1.out.all;go_wp2_with fail
 with_reducible refine(CK1.out _ (KG.out.trans (GB.out.mono KG.out.size))).mono ?_
 rintro e w1 ⟨rfl,hb⟩;have GB:=qk GB hb;obtain⟨v,rfl⟩:∃ v,v=w1:=⟨_,rfl⟩;clear hb x0 x1 x2 x3;obtain⟨x0,x1,x2,x3⟩:=(KB2.out.below GB.out KB2.out.lt).all;obtain⟨y0,y1,y2,y3,y4,y5⟩:=frac_box (KB4.out.below GB.out KB4.out.lt);go_wp2_with fail
 have hG:=KG.out.trans (GB.out.mono KG.out.size);have hlt:=KB4.out.lt;exact bodyPost_ret (results_ct rfl _ _ _ _ _ _ _ rfl (((((KB4.out.below GB.out KB4.out.lt).put 0 _).put 1 _).put 2 _).put 3 _) Tryz.underlying28 rfl (by kernel_rfl)) rfl ⟨rfl,(((hG.setCell (by dsimp only;omega) _).setCell (by dsimp only;omega) _).setCell (by dsimp only;omega) _).setCell (by dsimp only;omega) _⟩
open Classical in
theorem make_3 (s1:Bool) (a1:Option Addr) (n1 c1:Nat) (o1:Nat→Int) (s2:Bool) (a2:Option Addr) (n2 c2:Nat) (o2:Nat→Int) (w:World)
  (h1:Rd w a1 n1 o1) (hn1:n1≤4000000) (hc1:n1≤c1) (h2:Rd w a2 n2 o2) (hn2:n2≤4000000) (hc2:n2≤c2) (hk1:okN s1 n1 o1) (hk2:okN s2 n2 o2) (hz:valN s2 n2 o2=0) :
  Calls Tryz.prog 71 #[numV s1 a1 n1 c1,numV s2 a2 n2 c2] w fun e w'=>e=.returned (.tuple #[fracV false none 0 0 false none 0 0,.int .i64 6])∧Below w.heap.size w w':=by
 have CK1:=qh (fun (w':World) (hb:Below w.heap.size w w')=>check_any s1 a1 n1 c1 o1 w' (h1.below hb) (by omega));have CK2:=qh (fun (w':World) (hb:Below w.heap.size w w')=>check_any s2 a2 n2 c2 o2 w' (h2.below hb) (by omega));have SG:=qh (fun (w':World) (hb:Below w.heap.size w w')=>sign_any s2 a2 n2 c2 o2 w' (h2.below hb) (by omega) hc2);obtain⟨cs,hcs⟩:∃ cs,cs=cmpZ (valN s2 n2 o2) 0:=⟨_,rfl⟩;rw[← hcs] at SG
 have hc0:cs=0:=by rw[hcs];exact(sign_zero _).2 hz
 subst hc0;rw[decide_eq_true hk1] at CK1;rw[decide_eq_true hk2] at CK2;clear hk1 hk2 hcs hz h1 h2;have KB1:=qh (((Bx.new w 26 (.bool s1) (.slice a1 n1 c1)).alloc (.cells #[.bool s2,.slice a2 n2 c2] 26)).alloc (.cells #[.bool false,.slice none 0 0,.bool false,.slice none 0 0] 28));have KB2:=qh ((Bx.new2 w (.cells #[.bool s1,.slice a1 n1 c1] 26) 26 (.bool s2) (.slice a2 n2 c2)).alloc (.cells #[.bool false,.slice none 0 0,.bool false,.slice none 0 0] 28));have KB4:=qh (Bxs.new ((w.alloc (.cells #[.bool s1,.slice a1 n1 c1] 26)).alloc (.cells #[.bool s2,.slice a2 n2 c2] 26)) 28 [.bool false,.slice none 0 0,.bool false,.slice none 0 0]);obtain⟨W,hW⟩:∃ W,W=(((w.alloc (.cells #[.bool s1,.slice a1 n1 c1] 26)).alloc (.cells #[.bool s2,.slice a2 n2 c2] 26)).alloc (.cells #[.bool false,.slice none 0 0,.bool false,.slice none 0 0] 28)):=⟨_,rfl⟩;have KG:=qh (show Below w.heap.size w W by rw[hW];exact(((Below.refl _ _).alloc (Nat.le_refl _) _).alloc (by go_size) _).alloc (by go_size) _);rw[← hW] at KB1 KB2;rw[show(((w.alloc (.cells #[.bool s1,.slice a1 n1 c1] 26)).alloc (.cells #[.bool s2,.slice a2 n2 c2] 26)).alloc (.cells (List.toArray [.bool false,.slice none 0 0,.bool false,.slice none 0 0]) 28))=W from hW.symm,World.size_alloc,World.size_alloc] at KB4;have HW:=qh hW;have GB:=qh (Below.refl W.heap.size W);clear hW;go_enter Tryz.func71,Tryz.ntmps71
 go_upto_region 1 with (fail)
 rw[show(((w.alloc (.cells #[.bool s1,.slice a1 n1 c1] 26)).alloc (.cells #[.bool s2,.slice a2 n2 c2] 26)).alloc (.cells #[.bool false,.slice none 0 0,.bool false,.slice none 0 0] 28))=W from HW.out.symm];clear HW;obtain⟨x0,x1,x2,x3⟩:=KB1.out.all;go_wp2_with fail
 with_reducible refine(CK1.out _ (KG.out.trans (GB.out.mono KG.out.size))).mono ?_
 rintro e w1 ⟨rfl,hb⟩;have GB:=qk GB hb;obtain⟨v,rfl⟩:∃ v,v=w1:=⟨_,rfl⟩;clear hb x0 x1 x2 x3;obtain⟨x0,x1,x2,x3⟩:=(KB2.out.below GB.out KB2.out.lt).all;go_wp2_with fail
 with_reducible refine(CK2.out _ (KG.out.trans (GB.out.mono KG.out.size))).mono ?_
 rintro e w1 ⟨rfl,hb⟩;have GB:=qk GB hb;obtain⟨v,rfl⟩:∃ v,v=w1:=⟨_,rfl⟩;clear hb x0 x1 x2 x3;obtain⟨x0,x1,x2,x3⟩:=(KB2.out.below GB.out KB2.out.lt).all;go_wp2_with fail
 with_reducible refine(SG.out _ (KG.out.trans (GB.out.mono KG.out.size))).mono ?_
 rintro e w1 ⟨rfl,hb⟩;have GB:=qk GB hb;obtain⟨v,rfl⟩:∃ v,v=w1:=⟨_,rfl⟩;clear hb x0 x1 x2 x3;obtain⟨x0,x1,x2,x3⟩:=(KB2.out.below GB.out KB2.out.lt).all;obtain⟨y0,y1,y2,y3,y4,y5⟩:=frac_box (KB4.out.below GB.out KB4.out.lt);go_wp2_with fail
 have hG:=KG.out.trans (GB.out.mono KG.out.size);have hlt:=KB4.out.lt;exact bodyPost_ret (results_ct rfl _ _ _ _ _ _ _ rfl (((((KB4.out.below GB.out KB4.out.lt).put 0 _).put 1 _).put 2 _).put 3 _) Tryz.underlying28 rfl (by kernel_rfl)) rfl ⟨rfl,(((hG.setCell (by dsimp only;omega) _).setCell (by dsimp only;omega) _).setCell (by dsimp only;omega) _).setCell (by dsimp only;omega) _⟩
open Classical in
theorem make_ok (s1:Bool) (a1:Option Addr) (n1 c1:Nat) (o1:Nat→Int) (s2:Bool) (a2:Option Addr) (n2 c2:Nat) (o2:Nat→Int) (w:World)
  (h1:Rd w a1 n1 o1) (hn1:n1≤4000000) (hc1:n1≤c1) (h2:Rd w a2 n2 o2) (hn2:n2≤4000000) (hc2:n2≤c2) (hk1:okN s1 n1 o1) (hk2:okN s2 n2 o2) (hz:valN s2 n2 o2≠0) :
  Calls Tryz.prog 71 #[numV s1 a1 n1 c1,numV s2 a2 n2 c2] w (MakeP w 0 (Rat.divInt (valN s1 n1 o1) (valN s2 n2 o2)).num ((Rat.divInt (valN s1 n1 o1) (valN s2 n2 o2)).den:Int)):=by
 have CK1:=qh (fun (w':World) (hb:Below w.heap.size w w')=>check_any s1 a1 n1 c1 o1 w' (h1.below hb) (by omega));have CK2:=qh (fun (w':World) (hb:Below w.heap.size w w')=>check_any s2 a2 n2 c2 o2 w' (h2.below hb) (by omega));have SG:=qh (fun (w':World) (hb:Below w.heap.size w w')=>sign_any s2 a2 n2 c2 o2 w' (h2.below hb) (by omega) hc2);obtain⟨cs,hcs⟩:∃ cs,cs=cmpZ (valN s2 n2 o2) 0:=⟨_,rfl⟩;rw[← hcs] at SG
 have hc0:(cs==0)=false:=by rw[hcs];simpa using fun h=>hz ((sign_zero _).1 h)
 have hc0':decide (cs=0)=false:=by simpa using hc0
 rw[decide_eq_true hk1] at CK1;rw[decide_eq_true hk2] at CK2;obtain⟨t1,t2,t3⟩:=of_facts s1 n1 o1 hk1 h1.rng;obtain⟨u1,u2,u3⟩:=of_facts s2 n2 o2 hk2 h2.rng;have LW:=qh (fun (w':World) (hb:Below w.heap.size w w')=>lowest_any (valN s1 n1 o1) (valN s2 n2 o2) a1 a2 c1 c2 w' (by rw[t2];exact(h1.congr t3).below hb) (by omega) (by omega) (by rw[u2];exact(h2.congr u3).below hb) (by omega) (by omega) hz);rw[t1,t2,u1,u2] at LW;obtain⟨p,hp⟩:∃ p,p=(Rat.divInt (valN s1 n1 o1) (valN s2 n2 o2)).num:=⟨_,rfl⟩;obtain⟨q,hq⟩:∃ q:Int,q=((Rat.divInt (valN s1 n1 o1) (valN s2 n2 o2)).den:Int):=⟨_,rfl⟩;rw[← hp,← hq] at LW;rw[← hp,← hq];clear hk1 hk2 hcs hz h1 h2 t1 t2 t3 u1 u2 u3 hp hq;have KB1:=qh (((Bx.new w 26 (.bool s1) (.slice a1 n1 c1)).alloc (.cells #[.bool s2,.slice a2 n2 c2] 26)).alloc (.cells #[.bool false,.slice none 0 0,.bool false,.slice none 0 0] 28));have KB2:=qh ((Bx.new2 w (.cells #[.bool s1,.slice a1 n1 c1] 26) 26 (.bool s2) (.slice a2 n2 c2)).alloc (.cells #[.bool false,.slice none 0 0,.bool false,.slice none 0 0] 28));have KB4:=qh (Bxs.new ((w.alloc (.cells #[.bool s1,.slice a1 n1 c1] 26)).alloc (.cells #[.bool s2,.slice a2 n2 c2] 26)) 28 [.bool false,.slice none 0 0,.bool false,.slice none 0 0]);obtain⟨W,hW⟩:∃ W,W=(((w.alloc (.cells #[.bool s1,.slice a1 n1 c1] 26)).alloc (.cells #[.bool s2,.slice a2 n2 c2] 26)).alloc (.cells #[.bool false,.slice none 0 0,.bool false,.slice none 0 0] 28)):=⟨_,rfl⟩;have KG:=qh (show Below w.heap.size w W by rw[hW];exact(((Below.refl _ _).alloc (Nat.le_refl _) _).alloc (by go_size) _).alloc (by go_size) _)
 rw[← hW] at KB1 KB2;rw[show(((w.alloc (.cells #[.bool s1,.slice a1 n1 c1] 26)).alloc (.cells #[.bool s2,.slice a2 n2 c2] 26)).alloc (.cells (List.toArray [.bool false,.slice none 0 0,.bool false,.slice none 0 0]) 28))=W from hW.symm,World.size_alloc,World.size_alloc] at KB4;have HW:=qh hW;have GB:=qh (Below.refl W.heap.size W);clear hW;go_enter Tryz.func71,Tryz.ntmps71
 go_upto_region 1 with (fail)
 rw[show(((w.alloc (.cells #[.bool s1,.slice a1 n1 c1] 26)).alloc (.cells #[.bool s2,.slice a2 n2 c2] 26)).alloc (.cells #[.bool false,.slice none 0 0,.bool false,.slice none 0 0] 28))=W from HW.out.symm];clear HW;obtain⟨x0,x1,x2,x3⟩:=KB1.out.all;go_wp2_with fail
 with_reducible refine(CK1.out _ (KG.out.trans (GB.out.mono KG.out.size))).mono ?_
 rintro e w1 ⟨rfl,hb⟩;have GB:=qk GB hb;obtain⟨v,rfl⟩:∃ v,v=w1:=⟨_,rfl⟩;clear hb x0 x1 x2 x3;obtain⟨x0,x1,x2,x3⟩:=(KB2.out.below GB.out KB2.out.lt).all;go_wp2_with fail
 with_reducible refine(CK2.out _ (KG.out.trans (GB.out.mono KG.out.size))).mono ?_
 rintro e w1 ⟨rfl,hb⟩;have GB:=qk GB hb;obtain⟨v,rfl⟩:∃ v,v=w1:=⟨_,rfl⟩;clear hb x0 x1 x2 x3;obtain⟨x0,x1,x2,x3⟩:=(KB2.out.below GB.out KB2.out.lt).all;go_wp2_with fail
 with_reducible refine(SG.out _ (KG.out.trans (GB.out.mono KG.out.size))).mono ?_
 rintro e w1 ⟨rfl,hb⟩;have GB:=qk GB hb;obtain⟨v,rfl⟩:∃ v,v=w1:=⟨_,rfl⟩;clear hb x0 x1 x2 x3;obtain⟨x0,x1,x2,x3⟩:=(KB2.out.below GB.out KB2.out.lt).all;obtain⟨z0,z1,z2,z3⟩:=(KB1.out.below GB.out KB1.out.lt).all;go_wp2_with fail
 with_reducible refine(LW.out _ (KG.out.trans (GB.out.mono KG.out.size))).mono ?_
 rintro e w2 ⟨aq,ap,rfl,ho1,ho2,hap,hb⟩;have hs1:=KG.out.size;have hs2:=GB.out.size;have HO:=qh (And.intro ho1 (And.intro ho2 hap));have HSZ:=qh (Nat.le_trans (show w.heap.size+3≤W.heap.size by have:=KB4.out.lt;omega) hs2);have GB:=qk GB hb;clear ho1 ho2 hap hb hs1 hs2 x0 x1 x2 x3 z0 z1 z2 z3;obtain⟨y0,y1,y2,y3,y4,y5⟩:=frac_box (KB4.out.below GB.out KB4.out.lt);go_wp2_with fail
 have hG:=KG.out.trans (GB.out.mono KG.out.size);have hlt:=KB4.out.lt;have hsz:=HSZ.out;refine bodyPost_ret (results_ct rfl _ _ _ _ _ _ _ rfl (((((KB4.out.below GB.out KB4.out.lt).put 0 _).put 1 _).put 2 _).put 3 _) Tryz.underlying28 rfl (by kernel_rfl)) rfl ⟨aq,ap,rfl,?_,?_,HO.out.2.2,(((hG.setCell (by dsimp only;omega) _).setCell (by dsimp only;omega) _).setCell (by dsimp only;omega) _).setCell (by dsimp only;omega) _⟩
 ·exact((((HO.out.1.other (by dsimp only;omega) _).other (by dsimp only;omega) _).other (by dsimp only;omega) _).other (by dsimp only;omega) _).mono (by omega)
 ·exact((((HO.out.2.1.other (by dsimp only;omega) _).other (by dsimp only;omega) _).other (by dsimp only;omega) _).other (by dsimp only;omega) _).mono (by omega)
structure FracI (w:World) (lo hi:Nat) (p q:Int) (x:Option Addr × Nat × Option Addr × Nat):Prop where
 r1:RdS w lo hi x.1 (lenB p.natAbs) (dgi p.natAbs)
 c1:lenB p.natAbs≤x.2.1
 r2:RdS w lo hi x.2.2.1 (lenB q.natAbs) (dgi q.natAbs)
 c2:lenB q.natAbs≤x.2.2.2
theorem FracI.below {w w':World} {lo hi:Nat} {p q:Int} {x:Option Addr × Nat × Option Addr × Nat} (h:FracI w lo hi p q x) (hb:Below w.heap.size w w'):FracI w' lo hi p q x:=⟨h.r1.below hb,h.c1,h.r2.below hb,h.c2⟩
theorem FracI.set {w:World} {lo hi:Nat} {p q:Int} {x:Option Addr × Nat × Option Addr × Nat} (h:FracI w lo hi p q x) {a:Addr} (h1:lo≤a.block) (h2:a.block<hi) (v:Value):FracI (w.setCell a v) lo hi p q x:=⟨h.r1.set h1 h2 v,h.c1,h.r2.set h1 h2 v,h.c2⟩
theorem FracI.up {w:World} {lo hi hi':Nat} {p q:Int} {x:Option Addr × Nat × Option Addr × Nat} (h:FracI w lo hi p q x) (hh:hi'≤hi):FracI w lo hi' p q x:=⟨h.r1.up hh,h.c1,h.r2.up hh,h.c2⟩
abbrev fracX (p q:Int) (x:Option Addr × Nat × Option Addr × Nat):Value:=fracV (decide (p<0)) x.1 (lenB p.natAbs) x.2.1 (decide (q<0)) x.2.2.1 (lenB q.natAbs) x.2.2.2
theorem fracI_of {lo hi:Nat} {p q:Int} {x:Option Addr × Nat × Option Addr × Nat} {w:World} (h:∃ y,fracX p q x=fracX p q y∧FracI w lo hi p q y):FracI w lo hi p q x:=by
 obtain⟨y,e,h⟩:=h;simp only[Value.agg.injEq,Array.mk.injEq,List.cons.injEq,Value.slice.injEq,true_and,and_true] at e;obtain⟨⟨e1,e2⟩,e3,e4⟩:=e;obtain⟨x1,x2,x3,x4⟩:=x;obtain⟨y1,y2,y3,y4⟩:=y;dsimp only at e1 e2 e3 e4;subst e1 e2 e3 e4;exact h
theorem fracS_ex {w:World} {B0:Nat} {p q:Int} {e:Ending} {w':World} (h:FracS w B0 p q e w'):∃ x,e=.returned (fracX p q x)∧FracI w' B0 w.heap.size p q x∧Below w.heap.size w w':=by
 obtain⟨a1,c1,a2,c2,rfl,r1,l1,r2,l2,hb⟩:=h;exact⟨(a1,c1,a2,c2),rfl,⟨r1,l1,r2,l2⟩,hb⟩
def Brought (w:World) (t1 t2 l:Int) (e:Ending) (w':World):Prop :=
 ∃ m1 m2 m3:Option Addr,e=.returned (.tuple #[fracV (decide (t1<0)) m1 (lenB t1.natAbs) (lenB t1.natAbs) (decide (t2<0)) m2 (lenB t2.natAbs) (lenB t2.natAbs),numV (decide (l<0)) m3 (lenB l.natAbs) (lenB l.natAbs)]) ∧
  Own 44 w' w.heap.size m1 (lenB t1.natAbs) (lenB t1.natAbs) (dgi t1.natAbs)∧Own 44 w' w.heap.size m2 (lenB t2.natAbs) (lenB t2.natAbs) (dgi t2.natAbs)∧Own 44 w' w.heap.size m3 (lenB l.natAbs) (lenB l.natAbs) (dgi l.natAbs)∧Below w.heap.size w w'
theorem valF_len {s1:Bool} {n1:Nat} {o1:Nat→Int} {s2:Bool} {n2:Nat} {o2:Nat→Int} (g1:∀ i,i<n1→0≤o1 i∧o1 i≤4294967295) (g2:∀ i,i<n2→0≤o2 i∧o2 i≤4294967295) :
  lenB (valF s1 n1 o1 s2 n2 o2).num.natAbs≤n1+1∧lenB ((valF s1 n1 o1 s2 n2 o2).den:Int).natAbs≤n2+1:=by
 by_cases hk:okF s1 n1 o1 s2 n2 o2
 ·obtain⟨e1,e2⟩:=valF_ok hk;rw[e1,e2];have h1:=(of_facts s1 n1 o1 hk.1 g1).2.1;have h2:=(of_facts s2 n2 o2 hk.2.1 g2).2.1;omega
 ·rw[valF_not hk];have h1:lenB (Rat.num 0).natAbs=0:=lenB_zero;have h2:lenB (((Rat.den 0:Nat):Int)).natAbs≤1:=lenB_le (by decide);omega
theorem results_cc {P:Program} {fn:Func} {p q:Tmp} {ty ty2:TypeId} (h:fn.results=#[.cell p ty,.cell q ty2]) (tmps:Array Value) (w:World) (g g2:Nat) (ta tb:TypeId) (cs cs2:Array Value) (fr fr2:Nat × Nat) (d d2:TypeDesc)
  (hp:tmps.getD p undef=.pointer (some ⟨g,0,none⟩)) (hg:w.heap[g]?=some (.cells cs ta fr)) (hq:tmps.getD q undef=.pointer (some ⟨g2,0,none⟩)) (hg2:w.heap[g2]?=some (.cells cs2 tb fr2))
  (hu:P.underlying ty=some d) (hd:(match d with | .struct _ | .array _ _=>true | _=>false)=true) (hi:(P.info? ty).map (·.size)=some cs.size)
  (hu2:P.underlying ty2=some d2) (hd2:(match d2 with | .struct _ | .array _ _=>true | _=>false)=true) (hi2:(P.info? ty2).map (·.size)=some cs2.size) :
  (results fn tmps).run P w=.ok (.tuple #[.agg cs,.agg cs2]) w:=by
 have hp':tmps[p]?.getD undef=.pointer (some ⟨g,0,none⟩):=by simpa using hp
 have hq':tmps[q]?.getD undef=.pointer (some ⟨g2,0,none⟩):=by simpa using hq
 simp[results,h,hp',hq',asAddr,run_loadVar_row w g ta ty cs fr d hg hu hd hi,run_loadVar_row w g2 tb ty2 cs2 fr2 d2 hg2 hu2 hd2 hi2]
theorem brought_any (s1:Bool) (a1:Option Addr) (n1 c1:Nat) (o1:Nat→Int) (s2:Bool) (a2:Option Addr) (n2 c2:Nat) (o2:Nat→Int) (s3:Bool) (a3:Option Addr) (n3 c3:Nat) (o3:Nat→Int) (s4:Bool) (a4:Option Addr) (n4 c4:Nat) (o4:Nat→Int) (w:World) (x y:Rat)
  (hx:x=valF s1 n1 o1 s2 n2 o2) (hy:y=valF s3 n3 o3 s4 n4 o4)
  (h1:Rd w a1 n1 o1) (hn1:n1≤1000000) (hc1:n1≤c1) (h2:Rd w a2 n2 o2) (hn2:n2≤1000000) (hc2:n2≤c2) (h3:Rd w a3 n3 o3) (hn3:n3≤1000000) (hc3:n3≤c3) (h4:Rd w a4 n4 o4) (hn4:n4≤1000000) (hc4:n4≤c4) :
  Calls Tryz.prog 70 #[fracV s1 a1 n1 c1 s2 a2 n2 c2,fracV s3 a3 n3 c3 s4 a4 n4 c4] w (Brought w (x.num*(y.den:Int)) (y.num*(x.den:Int)) ((x.den:Int)*(y.den:Int))):=by
 have hfar:∀ {a:Option Addr} {n:Nat} {o:Nat→Int},Rd w a n o→0<n→∀ p,a=some p→p.block<w.heap.size:=fun h h0 p hp=>by
  obtain⟨b,off,e,hc⟩:=h.cells h0
  rw[e] at hp;cases hp
  exact block_lt_of_cell (hc 0 h0)
 have OX:=qh (fun (w':World) (hb:Below w.heap.size w w')=>fof2_any s1 a1 n1 c1 o1 s2 a2 n2 c2 o2 w' w.heap.size hb.size (h1.below hb) (by omega) hc1 (hfar h1) (h2.below hb) (by omega) hc2 (hfar h2));have OY:=qh (fun (w':World) (hb:Below w.heap.size w w')=>fof2_any s3 a3 n3 c3 o3 s4 a4 n4 c4 o4 w' w.heap.size hb.size (h3.below hb) (by omega) hc3 (hfar h3) (h4.below hb) (by omega) hc4 (hfar h4));have l1:=valF_len (s1:=s1) (s2:=s2) h1.rng h2.rng;have l2:=valF_len (s1:=s3) (s2:=s4) h3.rng h4.rng;rw[← hx] at OX l1;rw[← hy] at OY l2;obtain⟨p,hp⟩:∃ p,p=x.num:=⟨_,rfl⟩;obtain⟨q,hq⟩:∃ q:Int,q=(x.den:Int):=⟨_,rfl⟩;obtain⟨r,hr⟩:∃ r,r=y.num:=⟨_,rfl⟩;obtain⟨t,ht⟩:∃ t:Int,t=(y.den:Int):=⟨_,rfl⟩;rw[← hp,← hq] at OX l1;rw[← hr,← ht] at OY l2;rw[← hp,← hq,← hr,← ht];have HL:=qh (show(lenB p.natAbs≤1000001∧lenB q.natAbs≤1000001)∧lenB r.natAbs≤1000001∧lenB t.natAbs≤1000001 by omega);clear hp hq hr ht hx hy h1 h2 h3 h4 l1 l2 hfar;have HB1:=qh ((((Bxs.new w 28 [.bool s1,.slice a1 n1 c1,.bool s2,.slice a2 n2 c2]).alloc (.cells #[.bool s3,.slice a3 n3 c3,.bool s4,.slice a4 n4 c4] 28)).alloc (.cells #[.bool false,.slice none 0 0,.bool false,.slice none 0 0] 97)).alloc (.cells #[.bool false,.slice none 0 0] 26));have HB2:=qh (((Bxs.new (w.alloc (.cells #[.bool s1,.slice a1 n1 c1,.bool s2,.slice a2 n2 c2] 28)) 28 [.bool s3,.slice a3 n3 c3,.bool s4,.slice a4 n4 c4]).alloc (.cells #[.bool false,.slice none 0 0,.bool false,.slice none 0 0] 97)).alloc (.cells #[.bool false,.slice none 0 0] 26));have HB4:=qh ((Bxs.new ((w.alloc (.cells #[.bool s1,.slice a1 n1 c1,.bool s2,.slice a2 n2 c2] 28)).alloc (.cells #[.bool s3,.slice a3 n3 c3,.bool s4,.slice a4 n4 c4] 28)) 97 [.bool false,.slice none 0 0,.bool false,.slice none 0 0]).alloc (.cells #[.bool false,.slice none 0 0] 26))
 have HB5:=qh (Bxs.new (((w.alloc (.cells #[.bool s1,.slice a1 n1 c1,.bool s2,.slice a2 n2 c2] 28)).alloc (.cells #[.bool s3,.slice a3 n3 c3,.bool s4,.slice a4 n4 c4] 28)).alloc (.cells #[.bool false,.slice none 0 0,.bool false,.slice none 0 0] 97)) 26 [.bool false,.slice none 0 0]);obtain⟨W,hW⟩:∃ W,W=(((w.alloc (.cells #[.bool s1,.slice a1 n1 c1,.bool s2,.slice a2 n2 c2] 28)).alloc (.cells #[.bool s3,.slice a3 n3 c3,.bool s4,.slice a4 n4 c4] 28)).alloc (.cells #[.bool false,.slice none 0 0,.bool false,.slice none 0 0] 97)).alloc (.cells #[.bool false,.slice none 0 0] 26):=⟨_,rfl⟩;have KG:=qh (show Below w.heap.size w W by rw[hW];exact((((Below.refl _ _).alloc (Nat.le_refl _) _).alloc (by go_size) _).alloc (by go_size) _).alloc (by go_size) _)
 have hWs:w.heap.size+4=W.heap.size:=by rw[hW];simp
 have HB1:=qh (show Bxs W w.heap.size 28 [.bool s1,.slice a1 n1 c1,.bool s2,.slice a2 n2 c2] by rw[hW];exact HB1.out);have HB2:=qh (show Bxs W (w.heap.size+1) 28 [.bool s3,.slice a3 n3 c3,.bool s4,.slice a4 n4 c4] by have h:=HB2.out;simp only[World.size_alloc] at h;rw[hW];exact h);have HB4:=qh (show Bxs W (w.heap.size+1+1) 97 [.bool false,.slice none 0 0,.bool false,.slice none 0 0] by have h:=HB4.out;simp only[World.size_alloc] at h;rw[hW];exact h);have HB5:=qh (show Bxs W (w.heap.size+1+1+1) 26 [.bool false,.slice none 0 0] by have h:=HB5.out;simp only[World.size_alloc] at h;rw[hW];exact h);have HW:=qh hW;have HWS:=qh hWs;clear hW hWs;go_enter Tryz.func70,Tryz.ntmps70
 go_upto_region 1 with (fail)
 rw[show(((w.alloc (.cells #[.bool s1,.slice a1 n1 c1,.bool s2,.slice a2 n2 c2] 28)).alloc (.cells #[.bool s3,.slice a3 n3 c3,.bool s4,.slice a4 n4 c4] 28)).alloc (.cells #[.bool false,.slice none 0 0,.bool false,.slice none 0 0] 97)).alloc (.cells #[.bool false,.slice none 0 0] 26)=W from HW.out.symm];clear HW;have HS:=qh (fun (w':World) (hb:Below W.heap.size W w')=>And.intro (frac_box (HB1.out.below hb HB1.out.lt)) (frac_box (HB2.out.below hb HB2.out.lt)))
 refine wp_region_fresh 3 (spOf [(1,Sp.made (fracX p q) (fun x w'=>FracI w' w.heap.size (w.heap.size+4) p q x))]) (fun w'=>Below W.heap.size W w') (by kernel_rfl) (by kernel_rfl)
  (spOf_cons (Sp.made_keeps fun x w w' h hb=>h.below hb) spOf_nil) (fun _ _ h hb=>h.trans (hb.mono h.size)) ((Below.refl _ _).drew) ?_
 simp only[List.take_succ_cons,List.take_zero,List.drop_succ_cons,List.drop_zero]
 (refine wpF_reads rfl rfl ?_ (fun w' hw'=>?_) ?_;rotate_left;· (have hb':=Has.world hw';(obtain⟨x0,x1,x2,x3,x4,x5⟩:=(HS.out _ hb').1);clear hw';go_simp;try rfl))
 conv=>arg 9;simp only[Act.put,zq0,zq1,zq2]
 refine wpF_spec rfl rfl (fun w' hw'=>?_) ?_
 ·have hb':=hw'.world;go_simp;refine(OX.out w' (KG.out.trans (hb'.mono KG.out.size))).mono ?_;intro e w'' hh;obtain⟨z,rfl,hi,hb⟩:=fracS_ex hh;exact⟨_,rfl,⟨⟨z.1,z.2.1,z.2.2.1,z.2.2.2,rfl⟩,⟨z.1,z.2.1,z.2.2.1,z.2.2.2,rfl,hi.up (by have:=hb'.size;have:=HWS.out;omega)⟩⟩,hb⟩
 rintro _ ⟨xa,rfl⟩
 conv=>arg 9;simp only[Act.put,zq0,zq1,zq2]
 (refine wpF_reads rfl rfl ?_ (fun w' hw'=>?_) ?_;rotate_left;· (have hb':=Has.world hw';(obtain⟨x0,x1,x2,x3,x4,x5⟩:=(HS.out _ hb').2);clear hw';go_simp;try rfl))
 conv=>arg 9;simp only[Act.put,zq0,zq1,zq2]
 refine wpF_nil (fun w1 hb1 hF=>?_);have HXA:=qh (fracI_of (hF 1));have GB:=qh hb1;clear hF hb1;go_wp2_with fail
 have OY1:=qh (OY.out w1 (KG.out.trans (GB.out.mono KG.out.size)));clear OX OY HS;with_reducible refine OY1.out.mono ?_
 intro e w2 hh;obtain⟨yb,rfl,hi,hb⟩:=fracS_ex hh;have HYB:=qh (hi.up (show w.heap.size+4≤w1.heap.size by have:=GB.out.size;have:=HWS.out;omega));have HXA:=qh (HXA.out.below hb);have GB:=qk GB hb;clear hh hi hb OY1;have M1:=qh (HB1.out.below GB.out HB1.out.lt);have M2:=qh (HB2.out.below GB.out HB2.out.lt);have M4:=qh (HB4.out.below GB.out HB4.out.lt);have M5:=qh (HB5.out.below GB.out HB5.out.lt);obtain⟨x0,x1,x2,x3,x4,x5⟩:=frac_box M1.out;obtain⟨y0,y1,y2,y3,y4,y5⟩:=frac_box M2.out
 go_upto_region 2 with (fail)
 obtain⟨V,hV⟩:∃ V,V=((((((((w2.setCell ⟨w.heap.size,0,none⟩ (.bool (decide (p<0)))).setCell ⟨w.heap.size,1,none⟩ (.slice xa.1 (lenB p.natAbs) xa.2.1)).setCell ⟨w.heap.size,2,none⟩ (.bool (decide (q<0)))).setCell ⟨w.heap.size,3,none⟩ (.slice xa.2.2.1 (lenB q.natAbs) xa.2.2.2)).setCell ⟨w.heap.size+1,0,none⟩ (.bool (decide (r<0)))).setCell ⟨w.heap.size+1,1,none⟩ (.slice yb.1 (lenB r.natAbs) yb.2.1)).setCell ⟨w.heap.size+1,2,none⟩ (.bool (decide (t<0)))).setCell ⟨w.heap.size+1,3,none⟩ (.slice yb.2.2.1 (lenB t.natAbs) yb.2.2.2)):=⟨_,rfl⟩;have M1:=qh (show Bxs V w.heap.size 28 [.bool (decide (p<0)),.slice xa.1 (lenB p.natAbs) xa.2.1,.bool (decide (q<0)),.slice xa.2.2.1 (lenB q.natAbs) xa.2.2.2] by rw[hV];exact((((((((M1.out.put 0 _).put 1 _).put 2 _).put 3 _).other (by dsimp only;omega) _).other (by dsimp only;omega) _).other (by dsimp only;omega) _).other (by dsimp only;omega) _));have M2:=qh (show Bxs V (w.heap.size+1) 28 [.bool (decide (r<0)),.slice yb.1 (lenB r.natAbs) yb.2.1,.bool (decide (t<0)),.slice yb.2.2.1 (lenB t.natAbs) yb.2.2.2] by rw[hV];exact((((((((M2.out.other (by dsimp only;omega) _).other (by dsimp only;omega) _).other (by dsimp only;omega) _).other (by dsimp only;omega) _).put 0 _).put 1 _).put 2 _).put 3 _));have M4:=qh (show Bxs V (w.heap.size+1+1) 97 [.bool false,.slice none 0 0,.bool false,.slice none 0 0] by rw[hV];exact((((((((M4.out.other (by dsimp only;omega) _).other (by dsimp only;omega) _).other (by dsimp only;omega) _).other (by dsimp only;omega) _).other (by dsimp only;omega) _).other (by dsimp only;omega) _).other (by dsimp only;omega) _).other (by dsimp only;omega) _))
 have M5:=qh (show Bxs V (w.heap.size+1+1+1) 26 [.bool false,.slice none 0 0] by rw[hV];exact((((((((M5.out.other (by dsimp only;omega) _).other (by dsimp only;omega) _).other (by dsimp only;omega) _).other (by dsimp only;omega) _).other (by dsimp only;omega) _).other (by dsimp only;omega) _).other (by dsimp only;omega) _).other (by dsimp only;omega) _));have HXA:=qh (show FracI V w.heap.size (w.heap.size+4) p q xa by rw[hV];exact((((((((HXA.out.set (by dsimp only;omega) (by dsimp only;omega) _).set (by dsimp only;omega) (by dsimp only;omega) _).set (by dsimp only;omega) (by dsimp only;omega) _).set (by dsimp only;omega) (by dsimp only;omega) _).set (by dsimp only;omega) (by dsimp only;omega) _).set (by dsimp only;omega) (by dsimp only;omega) _).set (by dsimp only;omega) (by dsimp only;omega) _).set (by dsimp only;omega) (by dsimp only;omega) _));have HYB:=qh (show FracI V w.heap.size (w.heap.size+4) r t yb by rw[hV];exact((((((((HYB.out.set (by dsimp only;omega) (by dsimp only;omega) _).set (by dsimp only;omega) (by dsimp only;omega) _).set (by dsimp only;omega) (by dsimp only;omega) _).set (by dsimp only;omega) (by dsimp only;omega) _).set (by dsimp only;omega) (by dsimp only;omega) _).set (by dsimp only;omega) (by dsimp only;omega) _).set (by dsimp only;omega) (by dsimp only;omega) _).set (by dsimp only;omega) (by dsimp only;omega) _));have hG:=KG.out.trans (GB.out.mono KG.out.size);have KG:=qh (show Below w.heap.size w V by rw[hV];exact((((((((hG.setCell (by dsimp only;omega) _).setCell (by dsimp only;omega) _).setCell (by dsimp only;omega) _).setCell (by dsimp only;omega) _).setCell (by dsimp only;omega) _).setCell (by dsimp only;omega) _).setCell (by dsimp only;omega) _).setCell (by dsimp only;omega) _))
 rw[show((((((((w2.setCell ⟨w.heap.size,0,none⟩ (.bool (decide (p<0)))).setCell ⟨w.heap.size,1,none⟩ (.slice xa.1 (lenB p.natAbs) xa.2.1)).setCell ⟨w.heap.size,2,none⟩ (.bool (decide (q<0)))).setCell ⟨w.heap.size,3,none⟩ (.slice xa.2.2.1 (lenB q.natAbs) xa.2.2.2)).setCell ⟨w.heap.size+1,0,none⟩ (.bool (decide (r<0)))).setCell ⟨w.heap.size+1,1,none⟩ (.slice yb.1 (lenB r.natAbs) yb.2.1)).setCell ⟨w.heap.size+1,2,none⟩ (.bool (decide (t<0)))).setCell ⟨w.heap.size+1,3,none⟩ (.slice yb.2.2.1 (lenB t.natAbs) yb.2.2.2))=V from hV.symm];clear hV hG x0 x1 x2 x3 x4 x5 y0 y1 y2 y3 y4 y5 HB1 HB2 HB4 HB5 GB;obtain⟨T1,hT1⟩:∃ T1,T1=p*t:=⟨_,rfl⟩;obtain⟨T2,hT2⟩:∃ T2,T2=r*q:=⟨_,rfl⟩;obtain⟨Lw,hLw⟩:∃ Lw,Lw=q*t:=⟨_,rfl⟩;have HT:=qh (And.intro hT1 (And.intro hT2 hLw));clear hT1 hT2 hLw;have MA:=qh (fun (w':World) (hb:Below V.heap.size V w')=>mul_any (decide (p<0)) xa.1 (lenB p.natAbs) xa.2.1 (dgi p.natAbs) (decide (t<0)) yb.2.2.1 (lenB t.natAbs) yb.2.2.2 (dgi t.natAbs) w' (HXA.out.r1.rd.below hb) (by have:=HL.out;omega) HXA.out.c1 (HYB.out.r2.rd.below hb) (by have:=HL.out;omega) HYB.out.c2);rw[canon_val,canon_val,← HT.out.1] at MA;have MB:=qh (fun (w':World) (hb:Below V.heap.size V w')=>mul_any (decide (r<0)) yb.1 (lenB r.natAbs) yb.2.1 (dgi r.natAbs) (decide (q<0)) xa.2.2.1 (lenB q.natAbs) xa.2.2.2 (dgi q.natAbs) w' (HYB.out.r1.rd.below hb) (by have:=HL.out;omega) HYB.out.c1 (HXA.out.r2.rd.below hb) (by have:=HL.out;omega) HXA.out.c2);rw[canon_val,canon_val,← HT.out.2.1] at MB;have MC:=qh (fun (w':World) (hb:Below V.heap.size V w')=>mul_any (decide (q<0)) xa.2.2.1 (lenB q.natAbs) xa.2.2.2 (dgi q.natAbs) (decide (t<0)) yb.2.2.1 (lenB t.natAbs) yb.2.2.2 (dgi t.natAbs) w' (HXA.out.r2.rd.below hb) (by have:=HL.out;omega) HXA.out.c2 (HYB.out.r2.rd.below hb) (by have:=HL.out;omega) HYB.out.c2)
 rw[canon_val,canon_val,← HT.out.2.2] at MC;have HS:=qh (fun (w':World) (hb:Below V.heap.size V w')=>And.intro (frac_box (M1.out.below hb M1.out.lt)) (frac_box (M2.out.below hb M2.out.lt)))
 refine wp_region_fresh 16 (spOf [(4,Sp.made (fun x:Option Addr=>numV (decide (T1<0)) x (lenB T1.natAbs) (lenB T1.natAbs)) (fun x w'=>Own 44 w' V.heap.size x (lenB T1.natAbs) (lenB T1.natAbs) (dgi T1.natAbs))),(9,Sp.made (fun x:Option Addr=>numV (decide (T2<0)) x (lenB T2.natAbs) (lenB T2.natAbs)) (fun x w'=>Own 44 w' V.heap.size x (lenB T2.natAbs) (lenB T2.natAbs) (dgi T2.natAbs))),(15,Sp.made (fun x:Option Addr=>numV (decide (Lw<0)) x (lenB Lw.natAbs) (lenB Lw.natAbs)) (fun x w'=>Own 44 w' V.heap.size x (lenB Lw.natAbs) (lenB Lw.natAbs) (dgi Lw.natAbs)))]) (fun w'=>Below V.heap.size V w') (by kernel_rfl) (by kernel_rfl)
  (spOf_cons (Sp.made_keeps fun x w w' h hb=>h.below hb) (spOf_cons (Sp.made_keeps fun x w w' h hb=>h.below hb) (spOf_cons (Sp.made_keeps fun x w w' h hb=>h.below hb) spOf_nil))) (fun _ _ h hb=>h.trans (hb.mono h.size)) ((Below.refl _ _).drew) ?_
 simp only[List.take_succ_cons,List.take_zero,List.drop_succ_cons,List.drop_zero]
 iterate 4
  (refine wpF_reads rfl rfl ?_ (fun w' hw'=>?_) ?_;rotate_left;· (have hb':=Has.world hw';(obtain⟨x0,x1,x2,x3,x4,x5⟩:=(HS.out _ hb').1;obtain⟨x0,x1,x2,x3,x4,x5⟩:=(HS.out _ hb').2);clear hw';go_simp;try rfl))
  conv=>arg 9;simp only[Act.put,zq0,zq1,zq2]
 (refine wpF_spec rfl rfl (fun w' hw'=>?_) ?_;· (have hb':=Has.world hw';go_simp;((refine(MA.out w' hb').mono ?_;rintro e w'' ⟨a,rfl,ho,-,hb⟩;exact⟨_,rfl,⟨⟨a,rfl⟩,⟨a,rfl,ho.mono hb'.size⟩⟩,hb⟩))))
 rintro _ ⟨ma,rfl⟩
 conv=>arg 9;simp only[Act.put,zq0,zq1,zq2]
 iterate 4
  (refine wpF_reads rfl rfl ?_ (fun w' hw'=>?_) ?_;rotate_left;· (have hb':=Has.world hw';(obtain⟨x0,x1,x2,x3,x4,x5⟩:=(HS.out _ hb').2;obtain⟨x0,x1,x2,x3,x4,x5⟩:=(HS.out _ hb').1);clear hw';go_simp;try rfl))
  conv=>arg 9;simp only[Act.put,zq0,zq1,zq2]
 (refine wpF_spec rfl rfl (fun w' hw'=>?_) ?_;· (have hb':=Has.world hw';go_simp;((refine(MB.out w' hb').mono ?_;rintro e w'' ⟨a,rfl,ho,-,hb⟩;exact⟨_,rfl,⟨⟨a,rfl⟩,⟨a,rfl,ho.mono hb'.size⟩⟩,hb⟩))))
 rintro _ ⟨mb,rfl⟩
 conv=>arg 9;simp only[Act.put,zq0,zq1,zq2]
 iterate 5
  (refine wpF_reads rfl rfl ?_ (fun w' hw'=>?_) ?_;rotate_left;· (have hb':=Has.world hw';(obtain⟨x0,x1,x2,x3,x4,x5⟩:=(HS.out _ hb').1;obtain⟨x0,x1,x2,x3,x4,x5⟩:=(HS.out _ hb').2);clear hw';go_simp;try rfl))
  conv=>arg 9;simp only[Act.put,zq0,zq1,zq2]
 (refine wpF_spec rfl rfl (fun w' hw'=>?_) ?_;· (have hb':=Has.world hw';go_simp;((refine(MC.out w' hb').mono ?_;rintro e w'' ⟨a,rfl,ho,-,hb⟩;exact⟨_,rfl,⟨⟨a,rfl⟩,⟨a,rfl,ho.mono hb'.size⟩⟩,hb⟩))))
 rintro _ ⟨mc,rfl⟩
 conv=>arg 9;simp only[Act.put,zq0,zq1,zq2]
 refine wpF_nil (fun w3 hb3 hF=>?_);have HO:=qh (And.intro (own_num1 (T:=44) (b:=V.heap.size) (s:=decide (T1<0)) (L:=lenB T1.natAbs) (o:=dgi T1.natAbs) (a:=ma) (hF 4)) (And.intro (own_num1 (T:=44) (b:=V.heap.size) (s:=decide (T2<0)) (L:=lenB T2.natAbs) (o:=dgi T2.natAbs) (a:=mb) (hF 9)) (own_num1 (T:=44) (b:=V.heap.size) (s:=decide (Lw<0)) (L:=lenB Lw.natAbs) (o:=dgi Lw.natAbs) (a:=mc) (hF 15))));have N4:=qh (M4.out.below hb3 M4.out.lt);have N5:=qh (M5.out.below hb3 M5.out.lt);have KG3:=qh (KG.out.trans (hb3.mono KG.out.size));have HVS:=qh (show w.heap.size+4≤V.heap.size by have:=M5.out.lt;omega);clear hF hb3 HS MA MB MC;have z0:=N4.out.cell (i:=0) rfl;have z1:=N4.out.cell (i:=1) rfl;have z2:=N4.out.cell (i:=2) rfl;have z3:=N4.out.cell (i:=3) rfl;have zf:=N4.out.fz;have zl:=N4.out.lt;obtain⟨y0,y1,y2,y3⟩:=N5.out.bx.all;go_wp2_with fail
 have hvs:=HVS.out;rw[← HT.out.1,← HT.out.2.1,← HT.out.2.2];have k4:=((((((N4.out.put 0 (.bool (decide (T1<0)))).put 1 (.slice ma (lenB T1.natAbs) (lenB T1.natAbs))).put 2 (.bool (decide (T2<0)))).put 3 (.slice mb (lenB T2.natAbs) (lenB T2.natAbs))).other (a:=⟨w.heap.size+1+1+1,0,none⟩) (by dsimp only;omega) (.bool (decide (Lw<0)))).other (a:=⟨w.heap.size+1+1+1,1,none⟩) (by dsimp only;omega) (.slice mc (lenB Lw.natAbs) (lenB Lw.natAbs)));have k5:=((((((N5.out.other (a:=⟨w.heap.size+1+1,0,none⟩) (by dsimp only;omega) (.bool (decide (T1<0)))).other (a:=⟨w.heap.size+1+1,1,none⟩) (by dsimp only;omega) (.slice ma (lenB T1.natAbs) (lenB T1.natAbs))).other (a:=⟨w.heap.size+1+1,2,none⟩) (by dsimp only;omega) (.bool (decide (T2<0)))).other (a:=⟨w.heap.size+1+1,3,none⟩) (by dsimp only;omega) (.slice mb (lenB T2.natAbs) (lenB T2.natAbs))).put 0 (.bool (decide (Lw<0)))).put 1 (.slice mc (lenB Lw.natAbs) (lenB Lw.natAbs)));refine bodyPost_ret (results_cc rfl _ _ _ _ _ _ _ _ _ _ _ _ rfl k4 rfl k5 Tryz.underlying97 rfl (by kernel_rfl) Tryz.underlying26 rfl (by kernel_rfl)) rfl ⟨ma,mb,mc,rfl,?_,?_,?_,?_⟩
 ·exact((((((HO.out.1.other (by dsimp only;omega) _).other (by dsimp only;omega) _).other (by dsimp only;omega) _).other (by dsimp only;omega) _).other (by dsimp only;omega) _).other (by dsimp only;omega) _).mono (by omega)
 ·exact((((((HO.out.2.1.other (by dsimp only;omega) _).other (by dsimp only;omega) _).other (by dsimp only;omega) _).other (by dsimp only;omega) _).other (by dsimp only;omega) _).other (by dsimp only;omega) _).mono (by omega)
 ·exact((((((HO.out.2.2.other (by dsimp only;omega) _).other (by dsimp only;omega) _).other (by dsimp only;omega) _).other (by dsimp only;omega) _).other (by dsimp only;omega) _).other (by dsimp only;omega) _).mono (by omega)
 ·exact((((((KG3.out.setCell (by dsimp only;omega) _).setCell (by dsimp only;omega) _).setCell (by dsimp only;omega) _).setCell (by dsimp only;omega) _).setCell (by dsimp only;omega) _).setCell (by dsimp only;omega) _)
theorem lenB_mul_le (a b:Nat):lenB (a*b)≤lenB a+lenB b:=by
 refine lenB_le ?_;rw[pw_add]
 by_cases hb:b=0
 ·subst hb;have:=lt_pw_lenB a;have h2:=lt_pw_lenB 0;exact Nat.mul_pos (by omega) h2
 ·exact Nat.mul_lt_mul_of_lt_of_le (lt_pw_lenB a) (Nat.le_of_lt (lt_pw_lenB b)) (pw_pos _)
theorem make2_any (G:Nat) (cs:Array Value) (T:Int) (s1:Bool) (a1:Option Addr) (n1 c1:Nat) (o1:Nat→Int) (s2:Bool) (a2:Option Addr) (n2 c2:Nat) (o2:Nat→Int) (s3:Bool) (a3:Option Addr) (n3 c3:Nat) (o3:Nat→Int) (s4:Bool) (a4:Option Addr) (n4 c4:Nat) (o4:Nat→Int) (w:World) (x y:Rat)
  (hx:x=valF s1 n1 o1 s2 n2 o2) (hy:y=valF s3 n3 o3 s4 n4 o4)
  (h1:Rd w a1 n1 o1) (hn1:n1≤1000000) (hc1:n1≤c1) (h2:Rd w a2 n2 o2) (hn2:n2≤1000000) (hc2:n2≤c2) (h3:Rd w a3 n3 o3) (hn3:n3≤1000000) (hc3:n3≤c3) (h4:Rd w a4 n4 o4) (hn4:n4≤1000000) (hc4:n4≤c4)
  (hcf:∀ (args:Array Value) (w:World),(callFunc G args).run Tryz.prog w=.ok (.enter G args) w)
  (hT:lenB T.natAbs≤4000000)
  (hF:∀ (m1 m2:Option Addr) (w1:World),Below w.heap.size w w1→Rd w1 m1 (lenB (x.num*(y.den:Int)).natAbs) (dgi (x.num*(y.den:Int)).natAbs)→Rd w1 m2 (lenB (y.num*(x.den:Int)).natAbs) (dgi (y.num*(x.den:Int)).natAbs) →
   Calls Tryz.prog G (#[numV (decide (x.num*(y.den:Int)<0)) m1 (lenB (x.num*(y.den:Int)).natAbs) (lenB (x.num*(y.den:Int)).natAbs),numV (decide (y.num*(x.den:Int)<0)) m2 (lenB (y.num*(x.den:Int)).natAbs) (lenB (y.num*(x.den:Int)).natAbs)]++cs) w1 (ResN w1 T)) :
  Calls Tryz.prog 64 #[fracV s1 a1 n1 c1 s2 a2 n2 c2,fracV s3 a3 n3 c3 s4 a4 n4 c4,.func (.func G) #[] cs] w (FracR w (Rat.divInt T ((x.den:Int)*(y.den:Int))).num ((Rat.divInt T ((x.den:Int)*(y.den:Int))).den:Int)):=by
 have l1:=valF_len (s1:=s1) (s2:=s2) h1.rng h2.rng;have l2:=valF_len (s1:=s3) (s2:=s4) h3.rng h4.rng;rw[← hx] at l1;rw[← hy] at l2
 have HL:=qh (show lenB ((x.den:Int)*(y.den:Int)).natAbs≤4000000 by
  have:=lenB_mul_le (x.den:Int).natAbs (y.den:Int).natAbs;rw[Int.natAbs_mul]
  omega)
 have HD:=qh (show(x.den:Int)*(y.den:Int)≠0 from Int.mul_ne_zero (by have:=x.den_nz;omega) (by have:=y.den_nz;omega));have HB1:=qh (((Bxs.new w 28 [.bool s1,.slice a1 n1 c1,.bool s2,.slice a2 n2 c2]).alloc (.cells #[.bool s3,.slice a3 n3 c3,.bool s4,.slice a4 n4 c4] 28)).alloc (.cells #[.bool false,.slice none 0 0,.bool false,.slice none 0 0] 28));have HB2:=qh ((Bxs.new (w.alloc (.cells #[.bool s1,.slice a1 n1 c1,.bool s2,.slice a2 n2 c2] 28)) 28 [.bool s3,.slice a3 n3 c3,.bool s4,.slice a4 n4 c4]).alloc (.cells #[.bool false,.slice none 0 0,.bool false,.slice none 0 0] 28));have HB3:=qh (Bxs.new ((w.alloc (.cells #[.bool s1,.slice a1 n1 c1,.bool s2,.slice a2 n2 c2] 28)).alloc (.cells #[.bool s3,.slice a3 n3 c3,.bool s4,.slice a4 n4 c4] 28)) 28 [.bool false,.slice none 0 0,.bool false,.slice none 0 0]);obtain⟨W,hW⟩:∃ W,W=((w.alloc (.cells #[.bool s1,.slice a1 n1 c1,.bool s2,.slice a2 n2 c2] 28)).alloc (.cells #[.bool s3,.slice a3 n3 c3,.bool s4,.slice a4 n4 c4] 28)).alloc (.cells #[.bool false,.slice none 0 0,.bool false,.slice none 0 0] 28):=⟨_,rfl⟩;have KG:=qh (show Below w.heap.size w W by rw[hW];exact(((Below.refl _ _).alloc (Nat.le_refl _) _).alloc (by go_size) _).alloc (by go_size) _)
 have hWs:w.heap.size+3=W.heap.size:=by rw[hW];simp
 have HB1:=qh (show Bxs W w.heap.size 28 [.bool s1,.slice a1 n1 c1,.bool s2,.slice a2 n2 c2] by rw[hW];exact HB1.out);have HB2:=qh (show Bxs W (w.heap.size+1) 28 [.bool s3,.slice a3 n3 c3,.bool s4,.slice a4 n4 c4] by have h:=HB2.out;simp only[World.size_alloc] at h;rw[hW];exact h);have HB3:=qh (show Bxs W (w.heap.size+1+1) 28 [.bool false,.slice none 0 0,.bool false,.slice none 0 0] by have h:=HB3.out;simp only[World.size_alloc] at h;rw[hW];exact h);have BR:=qh (brought_any s1 a1 n1 c1 o1 s2 a2 n2 c2 o2 s3 a3 n3 c3 o3 s4 a4 n4 c4 o4 W x y hx hy (h1.below KG.out) hn1 hc1 (h2.below KG.out) hn2 hc2 (h3.below KG.out) hn3 hc3 (h4.below KG.out) hn4 hc4);obtain⟨T1,hT1⟩:∃ T1,T1=x.num*(y.den:Int):=⟨_,rfl⟩;obtain⟨T2,hT2⟩:∃ T2,T2=y.num*(x.den:Int):=⟨_,rfl⟩;obtain⟨Lw,hLw⟩:∃ Lw,Lw=(x.den:Int)*(y.den:Int):=⟨_,rfl⟩;rw[← hT1,← hT2] at hF;rw[← hT1,← hT2,← hLw] at BR;rw[← hLw] at HL HD ⊢;have HF:=qh hF;have HT:=qh hT;have HW:=qh hW;have HWS:=qh hWs;clear hF hW hWs hT1 hT2 hLw hx hy h1 h2 h3 h4 l1 l2 hT;go_enter Tryz.func64,Tryz.ntmps64
 go_upto_region 1 with (fail)
 rw[show((w.alloc (.cells #[.bool s1,.slice a1 n1 c1,.bool s2,.slice a2 n2 c2] 28)).alloc (.cells #[.bool s3,.slice a3 n3 c3,.bool s4,.slice a4 n4 c4] 28)).alloc (.cells #[.bool false,.slice none 0 0,.bool false,.slice none 0 0] 28)=W from HW.out.symm];clear HW;obtain⟨x0,x1,x2,x3,x4,x5⟩:=frac_box HB1.out;obtain⟨y0,y1,y2,y3,y4,y5⟩:=frac_box HB2.out;go_wp2_with fail
 with_reducible refine BR.out.mono ?_
 rintro e w2 ⟨m1,m2,m3,rfl,O1,O2,O3,hb⟩
 go_upto_region 2 with (fail)
 obtain⟨V,hV⟩:∃ V,V=(w2.alloc (.cells #[.bool (decide (T1<0)),.slice m1 (lenB T1.natAbs) (lenB T1.natAbs),.bool (decide (T2<0)),.slice m2 (lenB T2.natAbs) (lenB T2.natAbs)] 97)).alloc (.cells #[.bool (decide (Lw<0)),.slice m3 (lenB Lw.natAbs) (lenB Lw.natAbs)] 26):=⟨_,rfl⟩;have M4:=qh (show Bxs V w2.heap.size 97 [.bool (decide (T1<0)),.slice m1 (lenB T1.natAbs) (lenB T1.natAbs),.bool (decide (T2<0)),.slice m2 (lenB T2.natAbs) (lenB T2.natAbs)] by rw[hV];exact(Bxs.new w2 97 [.bool (decide (T1<0)),.slice m1 (lenB T1.natAbs) (lenB T1.natAbs),.bool (decide (T2<0)),.slice m2 (lenB T2.natAbs) (lenB T2.natAbs)]).alloc _);have M5:=qh (show Bxs V (w2.heap.size+1) 26 [.bool (decide (Lw<0)),.slice m3 (lenB Lw.natAbs) (lenB Lw.natAbs)] by have h:=Bxs.new (w2.alloc (.cells #[.bool (decide (T1<0)),.slice m1 (lenB T1.natAbs) (lenB T1.natAbs),.bool (decide (T2<0)),.slice m2 (lenB T2.natAbs) (lenB T2.natAbs)] 97)) 26 [.bool (decide (Lw<0)),.slice m3 (lenB Lw.natAbs) (lenB Lw.natAbs)];simp only[World.size_alloc] at h;rw[hV];exact h)
 have hbV:Below W.heap.size W V:=by rw[hV];exact(hb.alloc hb.size _).alloc (by have:=hb.size;go_size) _
 have M3:=qh (HB3.out.below hbV HB3.out.lt);have O1:=qh (show Own 44 V W.heap.size m1 (lenB T1.natAbs) (lenB T1.natAbs) (dgi T1.natAbs) by rw[hV];exact(O1.allocd _).allocd _);have O2:=qh (show Own 44 V W.heap.size m2 (lenB T2.natAbs) (lenB T2.natAbs) (dgi T2.natAbs) by rw[hV];exact(O2.allocd _).allocd _);have O3:=qh (show Own 44 V W.heap.size m3 (lenB Lw.natAbs) (lenB Lw.natAbs) (dgi Lw.natAbs) by rw[hV];exact(O3.allocd _).allocd _);have KG:=qk KG hbV;have KW:=qh hbV.size;obtain⟨b4,hb4⟩:∃ b,b=w2.heap.size:=⟨_,rfl⟩;rw[show(w2.alloc (.cells #[.bool (decide (T1<0)),.slice m1 (lenB T1.natAbs) (lenB T1.natAbs),.bool (decide (T2<0)),.slice m2 (lenB T2.natAbs) (lenB T2.natAbs)] 97)).alloc (.cells #[.bool (decide (Lw<0)),.slice m3 (lenB Lw.natAbs) (lenB Lw.natAbs)] 26)=V from hV.symm];rw[← hb4] at M4 M5 ⊢;clear hV hbV hb hb4 x0 x1 x2 x3 x4 x5 y0 y1 y2 y3 y4 y5 HB1 HB2 HB3 BR;have HS:=qh (fun (w':World) (hb:Below V.heap.size V w')=>And.intro (M4.out.below hb M4.out.lt) (M5.out.below hb M5.out.lt).bx.all);have HC:=qh (fun (w':World) (hb:Below V.heap.size V w')=>HF.out m1 m2 w' (KG.out.trans (hb.mono KG.out.size)) (O1.out.rd.below hb) (O2.out.rd.below hb))
 refine wp_region_fresh 7 (spOf [(5,Sp.made (fun x:Option Addr=>numV (decide (T<0)) x (lenB T.natAbs) (lenB T.natAbs)) (fun x w'=>Own 44 w' V.heap.size x (lenB T.natAbs) (lenB T.natAbs) (dgi T.natAbs)))]) (fun w'=>Below V.heap.size V w') (by kernel_rfl) (by kernel_rfl)
  (spOf_cons (Sp.made_keeps fun x w w' h hb=>h.below hb) spOf_nil) (fun _ _ h hb=>h.trans (hb.mono h.size)) ((Below.refl _ _).drew) ?_
 simp only[List.take_succ_cons,List.take_zero,List.drop_succ_cons,List.drop_zero]
 iterate 5
  (refine wpF_reads rfl rfl ?_ (fun w' hw'=>?_) ?_;rotate_left;· (have hb':=Has.world hw';(have hs:=(HS.out _ hb').1;have x0:=hs.cell (i:=0) rfl;have x1:=hs.cell (i:=1) rfl;have x2:=hs.cell (i:=2) rfl;have x3:=hs.cell (i:=3) rfl;have x4:=hs.fz;have x5:=hs.lt);clear hw';go_simp;try rfl))
  conv=>arg 9;simp only[Act.put,zq0,zq1,zq2]
 (refine wpF_spec rfl rfl (fun w' hw'=>?_) ?_;· (have hb':=Has.world hw';go_simp;((refine(HC.out w' hb').mono ?_;rintro e w'' ⟨a,rfl,ho,-,hb⟩;exact⟨_,rfl,⟨⟨a,rfl⟩,⟨a,rfl,ho.mono hb'.size⟩⟩,hb⟩))))
 rintro _ ⟨mt,rfl⟩
 conv=>arg 9;simp only[Act.put,zq0,zq1,zq2]
 (refine wpF_reads rfl rfl ?_ (fun w' hw'=>?_) ?_;rotate_left;· (have hb':=Has.world hw';(obtain⟨x0,x1,x2,x3⟩:=(HS.out _ hb').2);clear hw';go_simp;try rfl))
 conv=>arg 9;simp only[Act.put,zq0,zq1,zq2]
 refine wpF_nil (fun w3 hb3 hF=>?_);have HO:=qh (own_num1 (T:=44) (b:=V.heap.size) (s:=decide (T<0)) (L:=lenB T.natAbs) (o:=dgi T.natAbs) (a:=mt) (hF 5));have LO:=qh (lowest_any T Lw mt m3 (lenB T.natAbs) (lenB Lw.natAbs) w3 HO.out.rd HT.out (Nat.le_refl _) (O3.out.rd.below hb3) HL.out (Nat.le_refl _) HD.out);have M3:=qh (M3.out.below hb3 M3.out.lt);have KG:=qk KG hb3;have HWS:=qh (show w.heap.size+3≤w3.heap.size by have:=HWS.out;have:=KW.out;have:=hb3.size;omega);clear hF hb3 HS HC HF HO O1 O2 O3 M4 M5 hcf KW;go_wp2_with fail
 with_reducible refine LO.out.mono ?_
 rintro e w4 ⟨r1,r2,rfl,Q1,Q2,hap,hb⟩;have M3:=qh (M3.out.below hb M3.out.lt);have KG:=qk KG hb;have hvs:=HWS.out;clear hb LO;have z0:=M3.out.cell (i:=0) rfl;have z1:=M3.out.cell (i:=1) rfl;have z2:=M3.out.cell (i:=2) rfl;have z3:=M3.out.cell (i:=3) rfl;have zf:=M3.out.fz;have zl:=M3.out.lt;go_wp2_with fail
 refine bodyPost_ret (results_cell rfl _ _ _ _ _ _ _ rfl ((((M3.out.put 0 _).put 1 _).put 2 _).put 3 _) Tryz.underlying28 rfl (by kernel_rfl)) rfl ⟨r1,r2,rfl,?_,?_,hap,?_⟩
 ·exact((((Q1.other (by dsimp only;omega) _).other (by dsimp only;omega) _).other (by dsimp only;omega) _).other (by dsimp only;omega) _).mono (by omega)
 ·exact((((Q2.other (by dsimp only;omega) _).other (by dsimp only;omega) _).other (by dsimp only;omega) _).other (by dsimp only;omega) _).mono (by omega)
 ·exact(((KG.out.setCell (by dsimp only;omega) _).setCell (by dsimp only;omega) _).setCell (by dsimp only;omega) _).setCell (by dsimp only;omega) _
theorem rat_add (x y:Rat):Rat.divInt (x.num*(y.den:Int)+y.num*(x.den:Int)) ((x.den:Int)*(y.den:Int))=x+y:=by
 rw[Rat.add_def'];rw[← Rat.divInt_ofNat,Int.natCast_mul]
theorem lenB_succ (m n k:Nat) (hm:lenB m≤k) (hn:lenB n≤k):lenB (m+n)≤k+1:=by
 refine lenB_le ?_;have h1:=Nat.lt_of_lt_of_le (lt_pw_lenB m) (pw_le hm);have h2:=Nat.lt_of_lt_of_le (lt_pw_lenB n) (pw_le hn);rw[pw_succ];omega
theorem lenB_add (a b:Int):lenB (a+b).natAbs≤max (lenB a.natAbs) (lenB b.natAbs)+1 :=
 Nat.le_trans (lenB_mono (Int.natAbs_add_le a b)) (lenB_succ _ _ _ (by omega) (by omega))
theorem addc_any (s1:Bool) (a1:Option Addr) (n1 c1:Nat) (o1:Nat→Int) (s2:Bool) (a2:Option Addr) (n2 c2:Nat) (o2:Nat→Int) (w:World)
  (h1:Rd w a1 n1 o1) (hn1:n1≤100000000) (hc1:n1≤c1) (h2:Rd w a2 n2 o2) (hn2:n2≤100000000) (hc2:n2≤c2) :
  Calls Tryz.prog 102 #[numV s1 a1 n1 c1,numV s2 a2 n2 c2] w (ResN w (valN s1 n1 o1+valN s2 n2 o2)):=by
 have HB1:=qh (((Bxs.new w 26 [.bool s1,.slice a1 n1 c1]).alloc (.cells #[.bool s2,.slice a2 n2 c2] 26)).alloc (.cells #[.bool false,.slice none 0 0] 26));have HB2:=qh ((Bxs.new (w.alloc (.cells #[.bool s1,.slice a1 n1 c1] 26)) 26 [.bool s2,.slice a2 n2 c2]).alloc (.cells #[.bool false,.slice none 0 0] 26));have HB3:=qh (Bxs.new ((w.alloc (.cells #[.bool s1,.slice a1 n1 c1] 26)).alloc (.cells #[.bool s2,.slice a2 n2 c2] 26)) 26 [.bool false,.slice none 0 0]);obtain⟨W,hW⟩:∃ W,W=((w.alloc (.cells #[.bool s1,.slice a1 n1 c1] 26)).alloc (.cells #[.bool s2,.slice a2 n2 c2] 26)).alloc (.cells #[.bool false,.slice none 0 0] 26):=⟨_,rfl⟩;have KG:=qh (show Below w.heap.size w W by rw[hW];exact(((Below.refl _ _).alloc (Nat.le_refl _) _).alloc (by go_size) _).alloc (by go_size) _)
 have hWs:w.heap.size+3=W.heap.size:=by rw[hW];simp
 have HB1:=qh (show Bxs W w.heap.size 26 [.bool s1,.slice a1 n1 c1] by rw[hW];exact HB1.out);have HB2:=qh (show Bxs W (w.heap.size+1) 26 [.bool s2,.slice a2 n2 c2] by have h:=HB2.out;simp only[World.size_alloc] at h;rw[hW];exact h);have HB3:=qh (show Bxs W (w.heap.size+1+1) 26 [.bool false,.slice none 0 0] by have h:=HB3.out;simp only[World.size_alloc] at h;rw[hW];exact h);have BR:=qh (add_res s1 a1 n1 c1 o1 s2 a2 n2 c2 o2 W (h1.below KG.out) hn1 hc1 (h2.below KG.out) hn2 hc2);obtain⟨T,hT⟩:∃ T,T=valN s1 n1 o1+valN s2 n2 o2:=⟨_,rfl⟩;rw[← hT] at BR ⊢;have HW:=qh hW;have HWS:=qh hWs;clear hW hWs h1 h2 hT;go_enter Tryz.func102,Tryz.ntmps102
 go_upto_region 1 with (fail)
 rw[show((w.alloc (.cells #[.bool s1,.slice a1 n1 c1] 26)).alloc (.cells #[.bool s2,.slice a2 n2 c2] 26)).alloc (.cells #[.bool false,.slice none 0 0] 26)=W from HW.out.symm];clear HW;obtain⟨x0,x1,x2,x3⟩:=HB1.out.bx.all;obtain⟨y0,y1,y2,y3⟩:=HB2.out.bx.all;go_wp2_with fail
 with_reducible refine BR.out.mono ?_
 rintro e w2 ⟨m,rfl,O1,hm,hb⟩;have M3:=qh (HB3.out.below hb HB3.out.lt);have KG:=qk KG hb;have hvs:=HWS.out;have h2s:=hb.size;clear x0 x1 x2 x3 y0 y1 y2 y3 HB1 HB2 HB3 BR hb;obtain⟨z0,z1,z2,z3⟩:=M3.out.bx.all;go_wp2_with fail
 refine bodyPost_ret (results_cell rfl _ _ _ _ _ _ _ rfl ((M3.out.put 0 _).put 1 _) Tryz.underlying26 rfl (by kernel_rfl)) rfl ⟨m,rfl,?_,hm,?_⟩
 ·exact((O1.other (by dsimp only;omega) _).other (by dsimp only;omega) _).mono (by omega)
 ·exact(KG.out.setCell (by dsimp only;omega) _).setCell (by dsimp only;omega) _
theorem fadd_any (s1:Bool) (a1:Option Addr) (n1 c1:Nat) (o1:Nat→Int) (s2:Bool) (a2:Option Addr) (n2 c2:Nat) (o2:Nat→Int) (s3:Bool) (a3:Option Addr) (n3 c3:Nat) (o3:Nat→Int) (s4:Bool) (a4:Option Addr) (n4 c4:Nat) (o4:Nat→Int) (w:World) (x y:Rat)
  (hx:x=valF s1 n1 o1 s2 n2 o2) (hy:y=valF s3 n3 o3 s4 n4 o4)
  (h1:Rd w a1 n1 o1) (hn1:n1≤1000000) (hc1:n1≤c1) (h2:Rd w a2 n2 o2) (hn2:n2≤1000000) (hc2:n2≤c2) (h3:Rd w a3 n3 o3) (hn3:n3≤1000000) (hc3:n3≤c3) (h4:Rd w a4 n4 o4) (hn4:n4≤1000000) (hc4:n4≤c4) :
  Calls Tryz.prog 73 #[fracV s1 a1 n1 c1 s2 a2 n2 c2,fracV s3 a3 n3 c3 s4 a4 n4 c4] w (FracR w (x+y).num ((x+y).den:Int)):=by
 have l1:=valF_len (s1:=s1) (s2:=s2) h1.rng h2.rng;have l2:=valF_len (s1:=s3) (s2:=s4) h3.rng h4.rng;rw[← hx] at l1;rw[← hy] at l2;have hl1:=lenB_mul_le x.num.natAbs (y.den:Int).natAbs;have hl2:=lenB_mul_le y.num.natAbs (x.den:Int).natAbs;rw[← Int.natAbs_mul] at hl1 hl2;have HB1:=qh (((Bxs.new w 28 [.bool s1,.slice a1 n1 c1,.bool s2,.slice a2 n2 c2]).alloc (.cells #[.bool s3,.slice a3 n3 c3,.bool s4,.slice a4 n4 c4] 28)).alloc (.cells #[.bool false,.slice none 0 0,.bool false,.slice none 0 0] 28));have HB2:=qh ((Bxs.new (w.alloc (.cells #[.bool s1,.slice a1 n1 c1,.bool s2,.slice a2 n2 c2] 28)) 28 [.bool s3,.slice a3 n3 c3,.bool s4,.slice a4 n4 c4]).alloc (.cells #[.bool false,.slice none 0 0,.bool false,.slice none 0 0] 28));have HB3:=qh (Bxs.new ((w.alloc (.cells #[.bool s1,.slice a1 n1 c1,.bool s2,.slice a2 n2 c2] 28)).alloc (.cells #[.bool s3,.slice a3 n3 c3,.bool s4,.slice a4 n4 c4] 28)) 28 [.bool false,.slice none 0 0,.bool false,.slice none 0 0]);obtain⟨W,hW⟩:∃ W,W=((w.alloc (.cells #[.bool s1,.slice a1 n1 c1,.bool s2,.slice a2 n2 c2] 28)).alloc (.cells #[.bool s3,.slice a3 n3 c3,.bool s4,.slice a4 n4 c4] 28)).alloc (.cells #[.bool false,.slice none 0 0,.bool false,.slice none 0 0] 28):=⟨_,rfl⟩;have KG:=qh (show Below w.heap.size w W by rw[hW];exact(((Below.refl _ _).alloc (Nat.le_refl _) _).alloc (by go_size) _).alloc (by go_size) _)
 have hWs:w.heap.size+3=W.heap.size:=by rw[hW];simp
 have HB1:=qh (show Bxs W w.heap.size 28 [.bool s1,.slice a1 n1 c1,.bool s2,.slice a2 n2 c2] by rw[hW];exact HB1.out);have HB2:=qh (show Bxs W (w.heap.size+1) 28 [.bool s3,.slice a3 n3 c3,.bool s4,.slice a4 n4 c4] by have h:=HB2.out;simp only[World.size_alloc] at h;rw[hW];exact h);have HB3:=qh (show Bxs W (w.heap.size+1+1) 28 [.bool false,.slice none 0 0,.bool false,.slice none 0 0] by have h:=HB3.out;simp only[World.size_alloc] at h;rw[hW];exact h)
 have BR:=qh (make2_any 102 #[] (x.num*(y.den:Int)+y.num*(x.den:Int)) s1 a1 n1 c1 o1 s2 a2 n2 c2 o2 s3 a3 n3 c3 o3 s4 a4 n4 c4 o4 W x y hx hy (h1.below KG.out) hn1 hc1 (h2.below KG.out) hn2 hc2 (h3.below KG.out) hn3 hc3 (h4.below KG.out) hn4 hc4
  (fun _ _=>rfl)
  (by have:=lenB_add (x.num*(y.den:Int)) (y.num*(x.den:Int));omega)
  (fun m1 m2 w1 _ r1 r2=>by
   have h:=addc_any (decide (x.num*(y.den:Int)<0)) m1 _ (lenB (x.num*(y.den:Int)).natAbs) _ (decide (y.num*(x.den:Int)<0)) m2 _ (lenB (y.num*(x.den:Int)).natAbs) _ w1 r1 (by omega) (Nat.le_refl _) r2 (by omega) (Nat.le_refl _);rw[canon_val,canon_val] at h
   exact h))
 have hT:Rat.divInt (x.num*(y.den:Int)+y.num*(x.den:Int)) ((x.den:Int)*(y.den:Int))=x+y:=rat_add x y;rw[hT] at BR;obtain⟨t,ht⟩:∃ t,t=x+y:=⟨_,rfl⟩;rw[← ht] at BR ⊢;have HW:=qh hW;have HWS:=qh hWs;clear hW hWs h1 h2 h3 h4 hT ht hx hy l1 l2 hl1 hl2;go_enter Tryz.func73,Tryz.ntmps73
 go_upto_region 1 with (fail)
 rw[show((w.alloc (.cells #[.bool s1,.slice a1 n1 c1,.bool s2,.slice a2 n2 c2] 28)).alloc (.cells #[.bool s3,.slice a3 n3 c3,.bool s4,.slice a4 n4 c4] 28)).alloc (.cells #[.bool false,.slice none 0 0,.bool false,.slice none 0 0] 28)=W from HW.out.symm];clear HW;obtain⟨x0,x1,x2,x3,x4,x5⟩:=frac_box HB1.out;obtain⟨y0,y1,y2,y3,y4,y5⟩:=frac_box HB2.out;go_wp2_with fail
 with_reducible refine BR.out.mono ?_
 rintro e w4 ⟨r1,r2,rfl,Q1,Q2,hap,hb⟩;have M3:=qh (HB3.out.below hb HB3.out.lt);have KG:=qk KG hb;have hvs:=HWS.out;have h2s:=hb.size;clear x0 x1 x2 x3 x4 x5 y0 y1 y2 y3 y4 y5 HB1 HB2 HB3 BR hb;obtain⟨z0,z1,z2,z3,zf,zl⟩:=frac_box M3.out;go_wp2_with fail
 refine bodyPost_ret (results_cell rfl _ _ _ _ _ _ _ rfl ((((M3.out.put 0 _).put 1 _).put 2 _).put 3 _) Tryz.underlying28 rfl (by kernel_rfl)) rfl ⟨r1,r2,rfl,?_,?_,hap,?_⟩
 ·exact((((Q1.other (by dsimp only;omega) _).other (by dsimp only;omega) _).other (by dsimp only;omega) _).other (by dsimp only;omega) _).mono (by omega)
 ·exact((((Q2.other (by dsimp only;omega) _).other (by dsimp only;omega) _).other (by dsimp only;omega) _).other (by dsimp only;omega) _).mono (by omega)
 ·exact(((KG.out.setCell (by dsimp only;omega) _).setCell (by dsimp only;omega) _).setCell (by dsimp only;omega) _).setCell (by dsimp only;omega) _
theorem field_frac (s1:Bool) (a1:Option Addr) (n1 c1:Nat) (s2:Bool) (a2:Option Addr) (n2 c2:Nat) (w:World):(Instr.field 28 (fracV s1 a1 n1 c1 s2 a2 n2 c2) 0).run Tryz.prog w=.ok (numV s1 a1 n1 c1) w:=by kernel_rfl
theorem fsign_any (s1:Bool) (a1:Option Addr) (n1 c1:Nat) (o1:Nat→Int) (s2:Bool) (a2:Option Addr) (n2 c2:Nat) (o2:Nat→Int) (w:World) (x:Rat) (hx:x=valF s1 n1 o1 s2 n2 o2)
  (h1:Rd w a1 n1 o1) (hn1:n1≤1000000) (hc1:n1≤c1) (h2:Rd w a2 n2 o2) (hn2:n2≤1000000) (hc2:n2≤c2) :
  Calls Tryz.prog 28 #[fracV s1 a1 n1 c1 s2 a2 n2 c2] w fun e w'=>e=.returned (.int .i64 (cmpZ x.num 0))∧Below w.heap.size w w':=by
 have hfar:∀ {a:Option Addr} {n:Nat} {o:Nat→Int},Rd w a n o→0<n→∀ p,a=some p→p.block<w.heap.size:=fun h h0 p hp=>by
  obtain⟨b,off,e,hc⟩:=h.cells h0
  rw[e] at hp;cases hp
  exact block_lt_of_cell (hc 0 h0)
 have l1:=valF_len (s1:=s1) (s2:=s2) h1.rng h2.rng;rw[← hx] at l1;have HL:=qh (show lenB x.num.natAbs≤1000001 by omega);have HB1:=qh (Bxs.new w 28 [.bool s1,.slice a1 n1 c1,.bool s2,.slice a2 n2 c2]);obtain⟨W,hW⟩:∃ W,W=w.alloc (.cells #[.bool s1,.slice a1 n1 c1,.bool s2,.slice a2 n2 c2] 28):=⟨_,rfl⟩;have KG:=qh (show Below w.heap.size w W by rw[hW];exact(Below.refl _ _).alloc (Nat.le_refl _) _);have HB1:=qh (show Bxs W w.heap.size 28 [.bool s1,.slice a1 n1 c1,.bool s2,.slice a2 n2 c2] by rw[hW];exact HB1.out);have OX:=qh (fof2_any s1 a1 n1 c1 o1 s2 a2 n2 c2 o2 W w.heap.size KG.out.size (h1.below KG.out) (by omega) hc1 (hfar h1) (h2.below KG.out) (by omega) hc2 (hfar h2));rw[← hx] at OX;obtain⟨p,hp⟩:∃ p,p=x.num:=⟨_,rfl⟩;obtain⟨q,hq⟩:∃ q:Int,q=(x.den:Int):=⟨_,rfl⟩;rw[← hp,← hq] at OX;rw[← hp] at HL ⊢;have HW:=qh hW;clear hW h1 h2 l1 hfar hx hp hq;go_enter Tryz.func28,Tryz.ntmps28
 go_upto_region 1 with (fail)
 rw[show w.alloc (.cells #[.bool s1,.slice a1 n1 c1,.bool s2,.slice a2 n2 c2] 28)=W from HW.out.symm];clear HW;obtain⟨x0,x1,x2,x3,x4,x5⟩:=frac_box HB1.out;go_wp2_with fail
 with_reducible refine OX.out.mono ?_
 intro e w2 hh;obtain⟨⟨za,zc,zb,zd⟩,rfl,hi,hb⟩:=fracS_ex hh;have hff:=field_frac (decide (p<0)) za (lenB p.natAbs) zc (decide (q<0)) zb (lenB q.natAbs) zd w2;have SG:=qh (sign_any (decide (p<0)) za (lenB p.natAbs) zc (dgi p.natAbs) w2 hi.r1.rd (by have:=HL.out;omega) hi.c1);rw[canon_val] at SG;have KG:=qk KG hb;clear hh hi hb OX x0 x1 x2 x3 x4 x5 HB1;go_wp2_with fail
 with_reducible refine SG.out.mono ?_
 rintro e w3 ⟨rfl,hb⟩;have KG:=qk KG hb;clear hb SG;go_wp2_with fail
 go_ret;exact⟨rfl,KG.out⟩
theorem okF_canon (x:Rat):okF (decide (x.num<0)) (lenB x.num.natAbs) (dgi x.num.natAbs) (decide ((x.den:Int)<0)) (lenB (x.den:Int).natAbs) (dgi (x.den:Int).natAbs):=by
 refine⟨canon_ok _,canon_ok _,?_,?_⟩
 ·rw[canon_val];exact rat_pos x
 ·rw[canon_val,canon_val];exact rat_gcd x
theorem valF_canon (x:Rat):valF (decide (x.num<0)) (lenB x.num.natAbs) (dgi x.num.natAbs) (decide ((x.den:Int)<0)) (lenB (x.den:Int).natAbs) (dgi (x.den:Int).natAbs)=x:=by
 obtain⟨e1,e2⟩:=valF_ok (okF_canon x);rw[canon_val] at e1 e2;exact Rat.ext e1 (by omega)
theorem mulc_any (bx bz:Nat) (p r:Int) (a1:Option Addr) (c1:Nat) (a2:Option Addr) (n2 c2:Nat) (s2:Bool) (a3:Option Addr) (c3:Nat) (a4:Option Addr) (n4 c4:Nat) (s4:Bool) (ta tb:Bool) (ua ub:Option Addr) (na ca nb cb:Nat) (w:World)
  (hbx:Bxs w bx 28 [.bool (decide (p<0)),.slice a1 (lenB p.natAbs) c1,.bool s2,.slice a2 n2 c2]) (hbz:Bxs w bz 28 [.bool (decide (r<0)),.slice a3 (lenB r.natAbs) c3,.bool s4,.slice a4 n4 c4])
  (h1:Rd w a1 (lenB p.natAbs) (dgi p.natAbs)) (hn1:lenB p.natAbs≤100000000) (hc1:lenB p.natAbs≤c1) (h2:Rd w a3 (lenB r.natAbs) (dgi r.natAbs)) (hn2:lenB r.natAbs≤100000000) (hc2:lenB r.natAbs≤c3) :
  Calls Tryz.prog 65 #[numV ta ua na ca,numV tb ub nb cb,.pointer (some ⟨bx,0,none⟩),.pointer (some ⟨bz,0,none⟩)] w (ResN w (p*r)):=by
 have HB1:=qh (((hbx.alloc (.cells #[.bool ta,.slice ua na ca] 26)).alloc (.cells #[.bool tb,.slice ub nb cb] 26)).alloc (.cells #[.bool false,.slice none 0 0] 26));have HB2:=qh (((hbz.alloc (.cells #[.bool ta,.slice ua na ca] 26)).alloc (.cells #[.bool tb,.slice ub nb cb] 26)).alloc (.cells #[.bool false,.slice none 0 0] 26));have HB3:=qh (Bxs.new ((w.alloc (.cells #[.bool ta,.slice ua na ca] 26)).alloc (.cells #[.bool tb,.slice ub nb cb] 26)) 26 [.bool false,.slice none 0 0]);obtain⟨W,hW⟩:∃ W,W=((w.alloc (.cells #[.bool ta,.slice ua na ca] 26)).alloc (.cells #[.bool tb,.slice ub nb cb] 26)).alloc (.cells #[.bool false,.slice none 0 0] 26):=⟨_,rfl⟩;have KG:=qh (show Below w.heap.size w W by rw[hW];exact(((Below.refl _ _).alloc (Nat.le_refl _) _).alloc (by go_size) _).alloc (by go_size) _)
 have hWs:w.heap.size+3=W.heap.size:=by rw[hW];simp
 rw[← hW] at HB1 HB2;have HB3:=qh (show Bxs W (w.heap.size+1+1) 26 [.bool false,.slice none 0 0] by have h:=HB3.out;simp only[World.size_alloc] at h;rw[hW];exact h);have BR:=qh (mul_any (decide (p<0)) a1 (lenB p.natAbs) c1 (dgi p.natAbs) (decide (r<0)) a3 (lenB r.natAbs) c3 (dgi r.natAbs) W (h1.below KG.out) hn1 hc1 (h2.below KG.out) hn2 hc2);rw[canon_val,canon_val] at BR;obtain⟨T,hT⟩:∃ T,T=p*r:=⟨_,rfl⟩;rw[← hT] at BR ⊢;have HW:=qh hW;have HWS:=qh hWs;clear hW hWs h1 h2 hT hbx hbz;go_enter Tryz.func65,Tryz.ntmps65
 go_upto_region 1 with (fail)
 rw[show((w.alloc (.cells #[.bool ta,.slice ua na ca] 26)).alloc (.cells #[.bool tb,.slice ub nb cb] 26)).alloc (.cells #[.bool false,.slice none 0 0] 26)=W from HW.out.symm];clear HW;obtain⟨x0,x1,x2,x3,x4,x5⟩:=frac_box HB1.out;obtain⟨y0,y1,y2,y3,y4,y5⟩:=frac_box HB2.out;go_wp2_with fail
 with_reducible refine BR.out.mono ?_
 rintro e w2 ⟨m,rfl,O1,hm,hb⟩;have M3:=qh (HB3.out.below hb HB3.out.lt);have KG:=qk KG hb;have hvs:=HWS.out;have h2s:=hb.size;clear x0 x1 x2 x3 x4 x5 y0 y1 y2 y3 y4 y5 HB1 HB2 HB3 BR hb;obtain⟨z0,z1,z2,z3⟩:=M3.out.bx.all;go_wp2_with fail
 refine bodyPost_ret (results_cell rfl _ _ _ _ _ _ _ rfl ((M3.out.put 0 _).put 1 _) Tryz.underlying26 rfl (by kernel_rfl)) rfl ⟨m,rfl,?_,hm,?_⟩
 ·exact((O1.other (by dsimp only;omega) _).other (by dsimp only;omega) _).mono (by omega)
 ·exact(KG.out.setCell (by dsimp only;omega) _).setCell (by dsimp only;omega) _
theorem fmul_any (s1:Bool) (a1:Option Addr) (n1 c1:Nat) (o1:Nat→Int) (s2:Bool) (a2:Option Addr) (n2 c2:Nat) (o2:Nat→Int) (s3:Bool) (a3:Option Addr) (n3 c3:Nat) (o3:Nat→Int) (s4:Bool) (a4:Option Addr) (n4 c4:Nat) (o4:Nat→Int) (w:World) (x y:Rat)
  (hx:x=valF s1 n1 o1 s2 n2 o2) (hy:y=valF s3 n3 o3 s4 n4 o4)
  (h1:Rd w a1 n1 o1) (hn1:n1≤900000) (hc1:n1≤c1) (h2:Rd w a2 n2 o2) (hn2:n2≤900000) (hc2:n2≤c2) (h3:Rd w a3 n3 o3) (hn3:n3≤900000) (hc3:n3≤c3) (h4:Rd w a4 n4 o4) (hn4:n4≤900000) (hc4:n4≤c4) :
  Calls Tryz.prog 35 #[fracV s1 a1 n1 c1 s2 a2 n2 c2,fracV s3 a3 n3 c3 s4 a4 n4 c4] w (FracR w (x*y).num ((x*y).den:Int)):=by
 have hfar:∀ {a:Option Addr} {n:Nat} {o:Nat→Int},Rd w a n o→0<n→∀ p,a=some p→p.block<w.heap.size:=fun h h0 p hp=>by
  obtain⟨b,off,e,hc⟩:=h.cells h0
  rw[e] at hp;cases hp
  exact block_lt_of_cell (hc 0 h0)
 have OX:=qh (fun (w':World) (hb:Below w.heap.size w w')=>fof2_any s1 a1 n1 c1 o1 s2 a2 n2 c2 o2 w' w.heap.size hb.size (h1.below hb) (by omega) hc1 (hfar h1) (h2.below hb) (by omega) hc2 (hfar h2));have OY:=qh (fun (w':World) (hb:Below w.heap.size w w')=>fof2_any s3 a3 n3 c3 o3 s4 a4 n4 c4 o4 w' w.heap.size hb.size (h3.below hb) (by omega) hc3 (hfar h3) (h4.below hb) (by omega) hc4 (hfar h4));have l1:=valF_len (s1:=s1) (s2:=s2) h1.rng h2.rng;have l2:=valF_len (s1:=s3) (s2:=s4) h3.rng h4.rng;rw[← hx] at OX l1;rw[← hy] at OY l2;obtain⟨p,hp⟩:∃ p,p=x.num:=⟨_,rfl⟩;obtain⟨q,hq⟩:∃ q:Int,q=(x.den:Int):=⟨_,rfl⟩;obtain⟨r,hr⟩:∃ r,r=y.num:=⟨_,rfl⟩;obtain⟨t,ht⟩:∃ t:Int,t=(y.den:Int):=⟨_,rfl⟩;rw[← hp,← hq] at OX l1;rw[← hr,← ht] at OY l2;have HP:=qh (And.intro hp (And.intro hq (And.intro hr ht)));obtain⟨z,hz⟩:∃ z,z=x*y:=⟨_,rfl⟩;rw[← hz];have HZ:=qh hz;clear hz;have HL:=qh (show(lenB p.natAbs≤900001∧lenB q.natAbs≤900001)∧lenB r.natAbs≤900001∧lenB t.natAbs≤900001 by omega);clear hp hq hr ht hx hy h1 h2 h3 h4 l1 l2 hfar;have HB1:=qh (((Bxs.new w 28 [.bool s1,.slice a1 n1 c1,.bool s2,.slice a2 n2 c2]).alloc (.cells #[.bool s3,.slice a3 n3 c3,.bool s4,.slice a4 n4 c4] 28)).alloc (.cells #[.bool false,.slice none 0 0,.bool false,.slice none 0 0] 28));have HB2:=qh (((Bxs.new (w.alloc (.cells #[.bool s1,.slice a1 n1 c1,.bool s2,.slice a2 n2 c2] 28)) 28 [.bool s3,.slice a3 n3 c3,.bool s4,.slice a4 n4 c4]).alloc (.cells #[.bool false,.slice none 0 0,.bool false,.slice none 0 0] 28)));have HB4:=qh ((Bxs.new ((w.alloc (.cells #[.bool s1,.slice a1 n1 c1,.bool s2,.slice a2 n2 c2] 28)).alloc (.cells #[.bool s3,.slice a3 n3 c3,.bool s4,.slice a4 n4 c4] 28)) 28 [.bool false,.slice none 0 0,.bool false,.slice none 0 0]))
 obtain⟨W,hW⟩:∃ W,W=((w.alloc (.cells #[.bool s1,.slice a1 n1 c1,.bool s2,.slice a2 n2 c2] 28)).alloc (.cells #[.bool s3,.slice a3 n3 c3,.bool s4,.slice a4 n4 c4] 28)).alloc (.cells #[.bool false,.slice none 0 0,.bool false,.slice none 0 0] 28):=⟨_,rfl⟩;have KG:=qh (show Below w.heap.size w W by rw[hW];exact(((Below.refl _ _).alloc (Nat.le_refl _) _).alloc (by go_size) _).alloc (by go_size) _)
 have hWs:w.heap.size+3=W.heap.size:=by rw[hW];simp
 have HB1:=qh (show Bxs W w.heap.size 28 [.bool s1,.slice a1 n1 c1,.bool s2,.slice a2 n2 c2] by rw[hW];exact HB1.out);have HB2:=qh (show Bxs W (w.heap.size+1) 28 [.bool s3,.slice a3 n3 c3,.bool s4,.slice a4 n4 c4] by have h:=HB2.out;simp only[World.size_alloc] at h;rw[hW];exact h);have HB4:=qh (show Bxs W (w.heap.size+1+1) 28 [.bool false,.slice none 0 0,.bool false,.slice none 0 0] by have h:=HB4.out;simp only[World.size_alloc] at h;rw[hW];exact h);have HW:=qh hW;have HWS:=qh hWs;clear hW hWs;go_enter Tryz.func35,Tryz.ntmps35
 go_upto_region 1 with (fail)
 rw[show((w.alloc (.cells #[.bool s1,.slice a1 n1 c1,.bool s2,.slice a2 n2 c2] 28)).alloc (.cells #[.bool s3,.slice a3 n3 c3,.bool s4,.slice a4 n4 c4] 28)).alloc (.cells #[.bool false,.slice none 0 0,.bool false,.slice none 0 0] 28)=W from HW.out.symm];clear HW;have HS:=qh (fun (w':World) (hb:Below W.heap.size W w')=>And.intro (frac_box (HB1.out.below hb HB1.out.lt)) (frac_box (HB2.out.below hb HB2.out.lt)))
 refine wp_region_fresh 3 (spOf [(1,Sp.made (fracX p q) (fun x w'=>FracI w' w.heap.size (w.heap.size+3) p q x))]) (fun w'=>Below W.heap.size W w') (by kernel_rfl) (by kernel_rfl)
  (spOf_cons (Sp.made_keeps fun x w w' h hb=>h.below hb) spOf_nil) (fun _ _ h hb=>h.trans (hb.mono h.size)) ((Below.refl _ _).drew) ?_
 simp only[List.take_succ_cons,List.take_zero,List.drop_succ_cons,List.drop_zero]
 (refine wpF_reads rfl rfl ?_ (fun w' hw'=>?_) ?_;rotate_left;· (have hb':=Has.world hw';(obtain⟨x0,x1,x2,x3,x4,x5⟩:=(HS.out _ hb').1);clear hw';go_simp;try rfl))
 conv=>arg 9;simp only[Act.put,zq0,zq1,zq2]
 refine wpF_spec rfl rfl (fun w' hw'=>?_) ?_
 ·have hb':=hw'.world;go_simp;refine(OX.out w' (KG.out.trans (hb'.mono KG.out.size))).mono ?_;intro e w'' hh;obtain⟨z,rfl,hi,hb⟩:=fracS_ex hh;exact⟨_,rfl,⟨⟨z.1,z.2.1,z.2.2.1,z.2.2.2,rfl⟩,⟨z.1,z.2.1,z.2.2.1,z.2.2.2,rfl,hi.up (by have:=hb'.size;have:=HWS.out;omega)⟩⟩,hb⟩
 rintro _ ⟨xa,rfl⟩
 conv=>arg 9;simp only[Act.put,zq0,zq1,zq2]
 (refine wpF_reads rfl rfl ?_ (fun w' hw'=>?_) ?_;rotate_left;· (have hb':=Has.world hw';(obtain⟨x0,x1,x2,x3,x4,x5⟩:=(HS.out _ hb').2);clear hw';go_simp;try rfl))
 conv=>arg 9;simp only[Act.put,zq0,zq1,zq2]
 refine wpF_nil (fun w1 hb1 hF=>?_);have HXA:=qh (fracI_of (hF 1));have GB:=qh hb1;clear hF hb1;go_wp2_with fail
 have OY1:=qh (OY.out w1 (KG.out.trans (GB.out.mono KG.out.size)));clear OX OY HS;with_reducible refine OY1.out.mono ?_
 intro e w2 hh;obtain⟨yb,rfl,hi,hb⟩:=fracS_ex hh;have HYB:=qh (hi.up (show w.heap.size+3≤w1.heap.size by have:=GB.out.size;have:=HWS.out;omega));have HXA:=qh (HXA.out.below hb);have GB:=qk GB hb;clear hh hi hb OY1;have M1:=qh (HB1.out.below GB.out HB1.out.lt);have M2:=qh (HB2.out.below GB.out HB2.out.lt);have M4:=qh (HB4.out.below GB.out HB4.out.lt);obtain⟨x0,x1,x2,x3,x4,x5⟩:=frac_box M1.out;obtain⟨y0,y1,y2,y3,y4,y5⟩:=frac_box M2.out
 go_upto_region 2 with (fail)
 obtain⟨V,hV⟩:∃ V,V=((((((((w2.setCell ⟨w.heap.size,0,none⟩ (.bool (decide (p<0)))).setCell ⟨w.heap.size,1,none⟩ (.slice xa.1 (lenB p.natAbs) xa.2.1)).setCell ⟨w.heap.size,2,none⟩ (.bool (decide (q<0)))).setCell ⟨w.heap.size,3,none⟩ (.slice xa.2.2.1 (lenB q.natAbs) xa.2.2.2)).setCell ⟨w.heap.size+1,0,none⟩ (.bool (decide (r<0)))).setCell ⟨w.heap.size+1,1,none⟩ (.slice yb.1 (lenB r.natAbs) yb.2.1)).setCell ⟨w.heap.size+1,2,none⟩ (.bool (decide (t<0)))).setCell ⟨w.heap.size+1,3,none⟩ (.slice yb.2.2.1 (lenB t.natAbs) yb.2.2.2)):=⟨_,rfl⟩;have M1:=qh (show Bxs V w.heap.size 28 [.bool (decide (p<0)),.slice xa.1 (lenB p.natAbs) xa.2.1,.bool (decide (q<0)),.slice xa.2.2.1 (lenB q.natAbs) xa.2.2.2] by rw[hV];exact((((((((M1.out.put 0 _).put 1 _).put 2 _).put 3 _).other (by dsimp only;omega) _).other (by dsimp only;omega) _).other (by dsimp only;omega) _).other (by dsimp only;omega) _));have M2:=qh (show Bxs V (w.heap.size+1) 28 [.bool (decide (r<0)),.slice yb.1 (lenB r.natAbs) yb.2.1,.bool (decide (t<0)),.slice yb.2.2.1 (lenB t.natAbs) yb.2.2.2] by rw[hV];exact((((((((M2.out.other (by dsimp only;omega) _).other (by dsimp only;omega) _).other (by dsimp only;omega) _).other (by dsimp only;omega) _).put 0 _).put 1 _).put 2 _).put 3 _));have M4:=qh (show Bxs V (w.heap.size+1+1) 28 [.bool false,.slice none 0 0,.bool false,.slice none 0 0] by rw[hV];exact((((((((M4.out.other (by dsimp only;omega) _).other (by dsimp only;omega) _).other (by dsimp only;omega) _).other (by dsimp only;omega) _).other (by dsimp only;omega) _).other (by dsimp only;omega) _).other (by dsimp only;omega) _).other (by dsimp only;omega) _))
 have HXA:=qh (show FracI V w.heap.size (w.heap.size+3) p q xa by rw[hV];exact((((((((HXA.out.set (by dsimp only;omega) (by dsimp only;omega) _).set (by dsimp only;omega) (by dsimp only;omega) _).set (by dsimp only;omega) (by dsimp only;omega) _).set (by dsimp only;omega) (by dsimp only;omega) _).set (by dsimp only;omega) (by dsimp only;omega) _).set (by dsimp only;omega) (by dsimp only;omega) _).set (by dsimp only;omega) (by dsimp only;omega) _).set (by dsimp only;omega) (by dsimp only;omega) _));have HYB:=qh (show FracI V w.heap.size (w.heap.size+3) r t yb by rw[hV];exact((((((((HYB.out.set (by dsimp only;omega) (by dsimp only;omega) _).set (by dsimp only;omega) (by dsimp only;omega) _).set (by dsimp only;omega) (by dsimp only;omega) _).set (by dsimp only;omega) (by dsimp only;omega) _).set (by dsimp only;omega) (by dsimp only;omega) _).set (by dsimp only;omega) (by dsimp only;omega) _).set (by dsimp only;omega) (by dsimp only;omega) _).set (by dsimp only;omega) (by dsimp only;omega) _));have hG:=KG.out.trans (GB.out.mono KG.out.size);have KG:=qh (show Below w.heap.size w V by rw[hV];exact((((((((hG.setCell (by dsimp only;omega) _).setCell (by dsimp only;omega) _).setCell (by dsimp only;omega) _).setCell (by dsimp only;omega) _).setCell (by dsimp only;omega) _).setCell (by dsimp only;omega) _).setCell (by dsimp only;omega) _).setCell (by dsimp only;omega) _));rw[show((((((((w2.setCell ⟨w.heap.size,0,none⟩ (.bool (decide (p<0)))).setCell ⟨w.heap.size,1,none⟩ (.slice xa.1 (lenB p.natAbs) xa.2.1)).setCell ⟨w.heap.size,2,none⟩ (.bool (decide (q<0)))).setCell ⟨w.heap.size,3,none⟩ (.slice xa.2.2.1 (lenB q.natAbs) xa.2.2.2)).setCell ⟨w.heap.size+1,0,none⟩ (.bool (decide (r<0)))).setCell ⟨w.heap.size+1,1,none⟩ (.slice yb.1 (lenB r.natAbs) yb.2.1)).setCell ⟨w.heap.size+1,2,none⟩ (.bool (decide (t<0)))).setCell ⟨w.heap.size+1,3,none⟩ (.slice yb.2.2.1 (lenB t.natAbs) yb.2.2.2))=V from hV.symm]
 clear hV hG x0 x1 x2 x3 x4 x5 y0 y1 y2 y3 y4 y5 HB1 HB2 HB4 GB
 have MK:=qh (make2_any 65 #[.pointer (some ⟨w.heap.size,0,none⟩),.pointer (some ⟨w.heap.size+1,0,none⟩)] (p*r) (decide (p<0)) xa.1 (lenB p.natAbs) xa.2.1 (dgi p.natAbs) (decide (q<0)) xa.2.2.1 (lenB q.natAbs) xa.2.2.2 (dgi q.natAbs) (decide (r<0)) yb.1 (lenB r.natAbs) yb.2.1 (dgi r.natAbs) (decide (t<0)) yb.2.2.1 (lenB t.natAbs) yb.2.2.2 (dgi t.natAbs) V x y
  (by rw[HP.out.1,HP.out.2.1];exact(valF_canon x).symm) (by rw[HP.out.2.2.1,HP.out.2.2.2];exact(valF_canon y).symm)
  HXA.out.r1.rd (by have:=HL.out;omega) HXA.out.c1 HXA.out.r2.rd (by have:=HL.out;omega) HXA.out.c2 HYB.out.r1.rd (by have:=HL.out;omega) HYB.out.c1 HYB.out.r2.rd (by have:=HL.out;omega) HYB.out.c2
  (fun _ _=>rfl) (by have h:=lenB_mul_le p.natAbs r.natAbs;rw[← Int.natAbs_mul] at h;have:=HL.out;omega)
  (fun m1 m2 w1 hb _ _=>mulc_any w.heap.size (w.heap.size+1) p r _ _ _ _ _ _ _ _ _ _ _ _ _ _ _ _ _ _ _ _ w1 (M1.out.below hb M1.out.lt) (M2.out.below hb M2.out.lt) (HXA.out.r1.rd.below hb) (by have:=HL.out;omega) HXA.out.c1 (HYB.out.r1.rd.below hb) (by have:=HL.out;omega) HYB.out.c1))
 rw[show Rat.divInt (p*r) ((x.den:Int)*(y.den:Int))=x*y by rw[HP.out.1,HP.out.2.2.1,Rat.mul_def',← Rat.divInt_ofNat,Int.natCast_mul]] at MK;rw[← HZ.out] at MK;have HVS:=qh (show w.heap.size+3≤V.heap.size by have:=M4.out.lt;omega);clear HZ HP HL HXA HYB;obtain⟨x0,x1,x2,x3,x4,x5⟩:=frac_box M1.out;obtain⟨y0,y1,y2,y3,y4,y5⟩:=frac_box M2.out;go_wp2_with fail
 with_reducible refine MK.out.mono ?_
 rintro e w4 ⟨r1,r2,rfl,Q1,Q2,hap,hb⟩;have M3:=qh (M4.out.below hb M4.out.lt);have KG:=qk KG hb;have hvs:=HVS.out;have h2s:=hb.size;clear x0 x1 x2 x3 x4 x5 y0 y1 y2 y3 y4 y5 M1 M2 M4 MK hb;obtain⟨z0,z1,z2,z3,zf,zl⟩:=frac_box M3.out;go_wp2_with fail
 refine bodyPost_ret (results_cell rfl _ _ _ _ _ _ _ rfl ((((M3.out.put 0 _).put 1 _).put 2 _).put 3 _) Tryz.underlying28 rfl (by kernel_rfl)) rfl ⟨r1,r2,rfl,?_,?_,hap,?_⟩
 ·exact((((Q1.other (by dsimp only;omega) _).other (by dsimp only;omega) _).other (by dsimp only;omega) _).other (by dsimp only;omega) _).mono (by omega)
 ·exact((((Q2.other (by dsimp only;omega) _).other (by dsimp only;omega) _).other (by dsimp only;omega) _).other (by dsimp only;omega) _).mono (by omega)
 ·exact(((KG.out.setCell (by dsimp only;omega) _).setCell (by dsimp only;omega) _).setCell (by dsimp only;omega) _).setCell (by dsimp only;omega) _
theorem make_canon (z1 z2:Int) (a1 a2:Option Addr) (c1 c2:Nat) (w:World) (h1:Rd w a1 (lenB z1.natAbs) (dgi z1.natAbs)) (hn1:lenB z1.natAbs≤4000000) (hc1:lenB z1.natAbs≤c1) (h2:Rd w a2 (lenB z2.natAbs) (dgi z2.natAbs)) (hn2:lenB z2.natAbs≤4000000) (hc2:lenB z2.natAbs≤c2) :
  Calls Tryz.prog 71 #[numV (decide (z1<0)) a1 (lenB z1.natAbs) c1,numV (decide (z2<0)) a2 (lenB z2.natAbs) c2] w (MakeP w (if z2=0 then 6 else 0) (Rat.divInt z1 z2).num (if z2=0 then 0 else ((Rat.divInt z1 z2).den:Int))):=by
 by_cases hz:z2=0
 ·rw[if_pos hz,if_pos hz]
  refine(make_3 (decide (z1<0)) a1 (lenB z1.natAbs) c1 (dgi z1.natAbs) (decide (z2<0)) a2 (lenB z2.natAbs) c2 (dgi z2.natAbs) w h1 hn1 hc1 h2 hn2 hc2 (canon_ok z1) (canon_ok z2) (by rw[canon_val];exact hz)).mono fun e w' h=>?_
  rw[hz,Rat.divInt_zero];exact(makeP_err h).1
 ·rw[if_neg hz,if_neg hz];have h:=make_ok (decide (z1<0)) a1 (lenB z1.natAbs) c1 (dgi z1.natAbs) (decide (z2<0)) a2 (lenB z2.natAbs) c2 (dgi z2.natAbs) w h1 hn1 hc1 h2 hn2 hc2 (canon_ok z1) (canon_ok z2) (by rw[canon_val];exact hz);rw[canon_val,canon_val] at h;exact h
theorem rat_div (x y:Rat):Rat.divInt (x.num*(y.den:Int)) (y.num*(x.den:Int))=x/y:=by
 rw[Rat.div_def,Rat.inv_def]
 conv=>rhs;rw[← Rat.num_divInt_den x]
 rw[Rat.divInt_mul_divInt];rw[Int.mul_comm (x.den:Int)]
open Classical in
theorem fdiv_1 (s1:Bool) (a1:Option Addr) (n1 c1:Nat) (o1:Nat→Int) (s2:Bool) (a2:Option Addr) (n2 c2:Nat) (o2:Nat→Int) (s3:Bool) (a3:Option Addr) (n3 c3:Nat) (o3:Nat→Int) (s4:Bool) (a4:Option Addr) (n4 c4:Nat) (o4:Nat→Int) (w:World)
  (h1:Rd w a1 n1 o1) (hn1:n1≤900000) (hc1:n1≤c1) (h2:Rd w a2 n2 o2) (hn2:n2≤900000) (hc2:n2≤c2) (h3:Rd w a3 n3 o3) (hn3:n3≤900000) (hc3:n3≤c3) (h4:Rd w a4 n4 o4) (hn4:n4≤900000) (hc4:n4≤c4) (hk:¬okF s1 n1 o1 s2 n2 o2) :
  Calls Tryz.prog 38 #[fracV s1 a1 n1 c1 s2 a2 n2 c2,fracV s3 a3 n3 c3 s4 a4 n4 c4] w fun e w'=>e=.returned (.tuple #[fracV false none 0 0 false none 0 0,.int .i64 1])∧Below w.heap.size w w':=by
 have HB1:=qh (((Bxs.new w 28 [.bool s1,.slice a1 n1 c1,.bool s2,.slice a2 n2 c2]).alloc (.cells #[.bool s3,.slice a3 n3 c3,.bool s4,.slice a4 n4 c4] 28)).alloc (.cells #[.bool false,.slice none 0 0,.bool false,.slice none 0 0] 28));have HB2:=qh ((Bxs.new (w.alloc (.cells #[.bool s1,.slice a1 n1 c1,.bool s2,.slice a2 n2 c2] 28)) 28 [.bool s3,.slice a3 n3 c3,.bool s4,.slice a4 n4 c4]).alloc (.cells #[.bool false,.slice none 0 0,.bool false,.slice none 0 0] 28));have HB3:=qh (Bxs.new ((w.alloc (.cells #[.bool s1,.slice a1 n1 c1,.bool s2,.slice a2 n2 c2] 28)).alloc (.cells #[.bool s3,.slice a3 n3 c3,.bool s4,.slice a4 n4 c4] 28)) 28 [.bool false,.slice none 0 0,.bool false,.slice none 0 0]);obtain⟨W,hW⟩:∃ W,W=((w.alloc (.cells #[.bool s1,.slice a1 n1 c1,.bool s2,.slice a2 n2 c2] 28)).alloc (.cells #[.bool s3,.slice a3 n3 c3,.bool s4,.slice a4 n4 c4] 28)).alloc (.cells #[.bool false,.slice none 0 0,.bool false,.slice none 0 0] 28):=⟨_,rfl⟩;have KG:=qh (show Below w.heap.size w W by rw[hW];exact(((Below.refl _ _).alloc (Nat.le_refl _) _).alloc (by go_size) _).alloc (by go_size) _)
 have hWs:w.heap.size+3=W.heap.size:=by rw[hW];simp
 have HB1:=qh (show Bxs W w.heap.size 28 [.bool s1,.slice a1 n1 c1,.bool s2,.slice a2 n2 c2] by rw[hW];exact HB1.out);have HB2:=qh (show Bxs W (w.heap.size+1) 28 [.bool s3,.slice a3 n3 c3,.bool s4,.slice a4 n4 c4] by have h:=HB2.out;simp only[World.size_alloc] at h;rw[hW];exact h);have HB3:=qh (show Bxs W (w.heap.size+1+1) 28 [.bool false,.slice none 0 0,.bool false,.slice none 0 0] by have h:=HB3.out;simp only[World.size_alloc] at h;rw[hW];exact h);have HW:=qh hW;have HWS:=qh hWs;have CK1:=qh (fcheck_any s1 a1 n1 c1 o1 s2 a2 n2 c2 o2 W (h1.below KG.out) (by omega) hc1 (h2.below KG.out) (by omega) hc2);rw[decide_eq_false hk] at CK1;clear hk h1 h2 h3 h4 hW hWs;go_enter Tryz.func38,Tryz.ntmps38
 go_upto_region 1 with (fail)
 rw[show((w.alloc (.cells #[.bool s1,.slice a1 n1 c1,.bool s2,.slice a2 n2 c2] 28)).alloc (.cells #[.bool s3,.slice a3 n3 c3,.bool s4,.slice a4 n4 c4] 28)).alloc (.cells #[.bool false,.slice none 0 0,.bool false,.slice none 0 0] 28)=W from HW.out.symm];clear HW;obtain⟨x0,x1,x2,x3,x4,x5⟩:=frac_box HB1.out;go_wp2_with fail
 with_reducible refine CK1.out.mono ?_
 rintro e w1 ⟨rfl,hb1⟩;have GB:=qh hb1;clear hb1 x0 x1 x2 x3 x4 x5 CK1;have M3:=qh (HB3.out.below GB.out HB3.out.lt);have hG:=KG.out.trans (GB.out.mono KG.out.size);have hlt:=HWS.out;obtain⟨z0,z1,z2,z3,zf,zl⟩:=frac_box M3.out;go_wp2_with fail
 exact bodyPost_ret (results_ct rfl _ _ _ _ _ _ _ rfl ((((M3.out.put 0 _).put 1 _).put 2 _).put 3 _) Tryz.underlying28 rfl (by kernel_rfl)) rfl ⟨rfl,(((hG.setCell (by dsimp only;omega) _).setCell (by dsimp only;omega) _).setCell (by dsimp only;omega) _).setCell (by dsimp only;omega) _⟩
open Classical in
theorem fdiv_2 (s1:Bool) (a1:Option Addr) (n1 c1:Nat) (o1:Nat→Int) (s2:Bool) (a2:Option Addr) (n2 c2:Nat) (o2:Nat→Int) (s3:Bool) (a3:Option Addr) (n3 c3:Nat) (o3:Nat→Int) (s4:Bool) (a4:Option Addr) (n4 c4:Nat) (o4:Nat→Int) (w:World)
  (h1:Rd w a1 n1 o1) (hn1:n1≤900000) (hc1:n1≤c1) (h2:Rd w a2 n2 o2) (hn2:n2≤900000) (hc2:n2≤c2) (h3:Rd w a3 n3 o3) (hn3:n3≤900000) (hc3:n3≤c3) (h4:Rd w a4 n4 o4) (hn4:n4≤900000) (hc4:n4≤c4) (hk1:okF s1 n1 o1 s2 n2 o2) (hk:¬okF s3 n3 o3 s4 n4 o4) :
  Calls Tryz.prog 38 #[fracV s1 a1 n1 c1 s2 a2 n2 c2,fracV s3 a3 n3 c3 s4 a4 n4 c4] w fun e w'=>e=.returned (.tuple #[fracV false none 0 0 false none 0 0,.int .i64 1])∧Below w.heap.size w w':=by
 have HB1:=qh (((Bxs.new w 28 [.bool s1,.slice a1 n1 c1,.bool s2,.slice a2 n2 c2]).alloc (.cells #[.bool s3,.slice a3 n3 c3,.bool s4,.slice a4 n4 c4] 28)).alloc (.cells #[.bool false,.slice none 0 0,.bool false,.slice none 0 0] 28));have HB2:=qh ((Bxs.new (w.alloc (.cells #[.bool s1,.slice a1 n1 c1,.bool s2,.slice a2 n2 c2] 28)) 28 [.bool s3,.slice a3 n3 c3,.bool s4,.slice a4 n4 c4]).alloc (.cells #[.bool false,.slice none 0 0,.bool false,.slice none 0 0] 28));have HB3:=qh (Bxs.new ((w.alloc (.cells #[.bool s1,.slice a1 n1 c1,.bool s2,.slice a2 n2 c2] 28)).alloc (.cells #[.bool s3,.slice a3 n3 c3,.bool s4,.slice a4 n4 c4] 28)) 28 [.bool false,.slice none 0 0,.bool false,.slice none 0 0]);obtain⟨W,hW⟩:∃ W,W=((w.alloc (.cells #[.bool s1,.slice a1 n1 c1,.bool s2,.slice a2 n2 c2] 28)).alloc (.cells #[.bool s3,.slice a3 n3 c3,.bool s4,.slice a4 n4 c4] 28)).alloc (.cells #[.bool false,.slice none 0 0,.bool false,.slice none 0 0] 28):=⟨_,rfl⟩;have KG:=qh (show Below w.heap.size w W by rw[hW];exact(((Below.refl _ _).alloc (Nat.le_refl _) _).alloc (by go_size) _).alloc (by go_size) _)
 have hWs:w.heap.size+3=W.heap.size:=by rw[hW];simp
 have HB1:=qh (show Bxs W w.heap.size 28 [.bool s1,.slice a1 n1 c1,.bool s2,.slice a2 n2 c2] by rw[hW];exact HB1.out);have HB2:=qh (show Bxs W (w.heap.size+1) 28 [.bool s3,.slice a3 n3 c3,.bool s4,.slice a4 n4 c4] by have h:=HB2.out;simp only[World.size_alloc] at h;rw[hW];exact h);have HB3:=qh (show Bxs W (w.heap.size+1+1) 28 [.bool false,.slice none 0 0,.bool false,.slice none 0 0] by have h:=HB3.out;simp only[World.size_alloc] at h;rw[hW];exact h);have HW:=qh hW;have HWS:=qh hWs;have CK1:=qh (fcheck_any s1 a1 n1 c1 o1 s2 a2 n2 c2 o2 W (h1.below KG.out) (by omega) hc1 (h2.below KG.out) (by omega) hc2);have CK2:=qh (fun (w':World) (hb:Below W.heap.size W w')=>fcheck_any s3 a3 n3 c3 o3 s4 a4 n4 c4 o4 w' (h3.below (KG.out.trans (hb.mono KG.out.size))) (by omega) hc3 (h4.below (KG.out.trans (hb.mono KG.out.size))) (by omega) hc4);rw[decide_eq_true hk1] at CK1;rw[decide_eq_false hk] at CK2;clear hk hk1 h1 h2 h3 h4 hW hWs;go_enter Tryz.func38,Tryz.ntmps38
 go_upto_region 1 with (fail)
 rw[show((w.alloc (.cells #[.bool s1,.slice a1 n1 c1,.bool s2,.slice a2 n2 c2] 28)).alloc (.cells #[.bool s3,.slice a3 n3 c3,.bool s4,.slice a4 n4 c4] 28)).alloc (.cells #[.bool false,.slice none 0 0,.bool false,.slice none 0 0] 28)=W from HW.out.symm];clear HW;obtain⟨x0,x1,x2,x3,x4,x5⟩:=frac_box HB1.out;go_wp2_with fail
 with_reducible refine CK1.out.mono ?_
 rintro e w1 ⟨rfl,hb1⟩;clear CK1 x0 x1 x2 x3 x4 x5;obtain⟨y0,y1,y2,y3,y4,y5⟩:=frac_box (HB2.out.below hb1 HB2.out.lt);go_wp2_with fail
 with_reducible refine(CK2.out w1 hb1).mono ?_
 rintro e w2 ⟨rfl,hb2⟩;have GB:=qh (hb1.trans (hb2.mono hb1.size));clear hb1 hb2 CK2 y0 y1 y2 y3 y4 y5;have M3:=qh (HB3.out.below GB.out HB3.out.lt);have hG:=KG.out.trans (GB.out.mono KG.out.size);have hlt:=HWS.out;obtain⟨z0,z1,z2,z3,zf,zl⟩:=frac_box M3.out;go_wp2_with fail
 exact bodyPost_ret (results_ct rfl _ _ _ _ _ _ _ rfl ((((M3.out.put 0 _).put 1 _).put 2 _).put 3 _) Tryz.underlying28 rfl (by kernel_rfl)) rfl ⟨rfl,(((hG.setCell (by dsimp only;omega) _).setCell (by dsimp only;omega) _).setCell (by dsimp only;omega) _).setCell (by dsimp only;omega) _⟩
open Classical in
theorem fdiv_ok (s1:Bool) (a1:Option Addr) (n1 c1:Nat) (o1:Nat→Int) (s2:Bool) (a2:Option Addr) (n2 c2:Nat) (o2:Nat→Int) (s3:Bool) (a3:Option Addr) (n3 c3:Nat) (o3:Nat→Int) (s4:Bool) (a4:Option Addr) (n4 c4:Nat) (o4:Nat→Int) (w:World)
  (h1:Rd w a1 n1 o1) (hn1:n1≤900000) (hc1:n1≤c1) (h2:Rd w a2 n2 o2) (hn2:n2≤900000) (hc2:n2≤c2) (h3:Rd w a3 n3 o3) (hn3:n3≤900000) (hc3:n3≤c3) (h4:Rd w a4 n4 o4) (hn4:n4≤900000) (hc4:n4≤c4) (hk1:okF s1 n1 o1 s2 n2 o2) (hk:okF s3 n3 o3 s4 n4 o4) (x y:Rat) (hx:x=valF s1 n1 o1 s2 n2 o2) (hy:y=valF s3 n3 o3 s4 n4 o4) :
  Calls Tryz.prog 38 #[fracV s1 a1 n1 c1 s2 a2 n2 c2,fracV s3 a3 n3 c3 s4 a4 n4 c4] w (MakeP w (if y=0 then 6 else 0) (x/y).num (if y=0 then 0 else ((x/y).den:Int))):=by
 have l1:=valF_len (s1:=s1) (s2:=s2) h1.rng h2.rng;have l2:=valF_len (s1:=s3) (s2:=s4) h3.rng h4.rng;rw[← hx] at l1;rw[← hy] at l2;have hl1:=lenB_mul_le x.num.natAbs (y.den:Int).natAbs;have hl2:=lenB_mul_le y.num.natAbs (x.den:Int).natAbs;rw[← Int.natAbs_mul] at hl1 hl2;have HL:=qh (show lenB (x.num*(y.den:Int)).natAbs≤4000000∧lenB (y.num*(x.den:Int)).natAbs≤4000000 by omega)
 have hz:(y.num*(x.den:Int)=0)↔y=0:=by
  have:=rat_pos x;rw[Int.mul_eq_zero,Rat.num_eq_zero];exact⟨fun h=>h.elim id (fun h=>by omega),Or.inl⟩
 clear hl1 hl2 l1 l2;have HB1:=qh (((Bxs.new w 28 [.bool s1,.slice a1 n1 c1,.bool s2,.slice a2 n2 c2]).alloc (.cells #[.bool s3,.slice a3 n3 c3,.bool s4,.slice a4 n4 c4] 28)).alloc (.cells #[.bool false,.slice none 0 0,.bool false,.slice none 0 0] 28));have HB2:=qh ((Bxs.new (w.alloc (.cells #[.bool s1,.slice a1 n1 c1,.bool s2,.slice a2 n2 c2] 28)) 28 [.bool s3,.slice a3 n3 c3,.bool s4,.slice a4 n4 c4]).alloc (.cells #[.bool false,.slice none 0 0,.bool false,.slice none 0 0] 28));have HB3:=qh (Bxs.new ((w.alloc (.cells #[.bool s1,.slice a1 n1 c1,.bool s2,.slice a2 n2 c2] 28)).alloc (.cells #[.bool s3,.slice a3 n3 c3,.bool s4,.slice a4 n4 c4] 28)) 28 [.bool false,.slice none 0 0,.bool false,.slice none 0 0]);obtain⟨W,hW⟩:∃ W,W=((w.alloc (.cells #[.bool s1,.slice a1 n1 c1,.bool s2,.slice a2 n2 c2] 28)).alloc (.cells #[.bool s3,.slice a3 n3 c3,.bool s4,.slice a4 n4 c4] 28)).alloc (.cells #[.bool false,.slice none 0 0,.bool false,.slice none 0 0] 28):=⟨_,rfl⟩;have KG:=qh (show Below w.heap.size w W by rw[hW];exact(((Below.refl _ _).alloc (Nat.le_refl _) _).alloc (by go_size) _).alloc (by go_size) _)
 have hWs:w.heap.size+3=W.heap.size:=by rw[hW];simp
 have HB1:=qh (show Bxs W w.heap.size 28 [.bool s1,.slice a1 n1 c1,.bool s2,.slice a2 n2 c2] by rw[hW];exact HB1.out);have HB2:=qh (show Bxs W (w.heap.size+1) 28 [.bool s3,.slice a3 n3 c3,.bool s4,.slice a4 n4 c4] by have h:=HB2.out;simp only[World.size_alloc] at h;rw[hW];exact h);have HB3:=qh (show Bxs W (w.heap.size+1+1) 28 [.bool false,.slice none 0 0,.bool false,.slice none 0 0] by have h:=HB3.out;simp only[World.size_alloc] at h;rw[hW];exact h);have HW:=qh hW;have HWS:=qh hWs;have CK1:=qh (fcheck_any s1 a1 n1 c1 o1 s2 a2 n2 c2 o2 W (h1.below KG.out) (by omega) hc1 (h2.below KG.out) (by omega) hc2);have CK2:=qh (fun (w':World) (hb:Below W.heap.size W w')=>fcheck_any s3 a3 n3 c3 o3 s4 a4 n4 c4 o4 w' (h3.below (KG.out.trans (hb.mono KG.out.size))) (by omega) hc3 (h4.below (KG.out.trans (hb.mono KG.out.size))) (by omega) hc4);rw[decide_eq_true hk1] at CK1;rw[decide_eq_true hk] at CK2;have BR:=qh (fun (w':World) (hb:Below W.heap.size W w')=>brought_any s1 a1 n1 c1 o1 s2 a2 n2 c2 o2 s3 a3 n3 c3 o3 s4 a4 n4 c4 o4 w' x y hx hy (h1.below (KG.out.trans (hb.mono KG.out.size))) (by omega) hc1 (h2.below (KG.out.trans (hb.mono KG.out.size))) (by omega) hc2 (h3.below (KG.out.trans (hb.mono KG.out.size))) (by omega) hc3 (h4.below (KG.out.trans (hb.mono KG.out.size))) (by omega) hc4);have MK:=qh (fun (m1 m2:Option Addr) (w':World)=>make_canon (x.num*(y.den:Int)) (y.num*(x.den:Int)) m1 m2 (lenB (x.num*(y.den:Int)).natAbs) (lenB (y.num*(x.den:Int)).natAbs) w');rw[rat_div] at MK;simp only[hz] at MK
 obtain⟨T1,hT1⟩:∃ T1,T1=x.num*(y.den:Int):=⟨_,rfl⟩;obtain⟨T2,hT2⟩:∃ T2,T2=y.num*(x.den:Int):=⟨_,rfl⟩;obtain⟨Lw,hLw⟩:∃ Lw,Lw=(x.den:Int)*(y.den:Int):=⟨_,rfl⟩
 obtain⟨ce,hce⟩:∃ ce:Int,ce=if y=0 then 6 else 0:=⟨_,rfl⟩
 obtain⟨p,hp⟩:∃ p:Int,p=(x/y).num:=⟨_,rfl⟩
 obtain⟨q,hq⟩:∃ q:Int,q=if y=0 then 0 else ((x/y).den:Int):=⟨_,rfl⟩
 rw[← hT1,← hT2,← hLw] at BR;rw[← hT1,← hT2] at HL MK;rw[← hce,← hp,← hq] at MK ⊢;clear hk hk1 hx hy h1 h2 h3 h4 hW hWs hz hT1 hT2 hLw hce hp hq;go_enter Tryz.func38,Tryz.ntmps38
 go_upto_region 1 with (fail)
 rw[show((w.alloc (.cells #[.bool s1,.slice a1 n1 c1,.bool s2,.slice a2 n2 c2] 28)).alloc (.cells #[.bool s3,.slice a3 n3 c3,.bool s4,.slice a4 n4 c4] 28)).alloc (.cells #[.bool false,.slice none 0 0,.bool false,.slice none 0 0] 28)=W from HW.out.symm];clear HW;obtain⟨x0,x1,x2,x3,x4,x5⟩:=frac_box HB1.out;go_wp2_with fail
 with_reducible refine CK1.out.mono ?_
 rintro e w1 ⟨rfl,hb1⟩;clear CK1 x0 x1 x2 x3 x4 x5;obtain⟨y0,y1,y2,y3,y4,y5⟩:=frac_box (HB2.out.below hb1 HB2.out.lt);go_wp2_with fail
 with_reducible refine(CK2.out w1 hb1).mono ?_
 rintro e w2 ⟨rfl,hb2⟩;have GB:=qh (hb1.trans (hb2.mono hb1.size));clear hb1 hb2 CK2 y0 y1 y2 y3 y4 y5
 go_upto_region 3 with (fail)
 obtain⟨x0,x1,x2,x3,x4,x5⟩:=frac_box (HB1.out.below GB.out HB1.out.lt);obtain⟨y0,y1,y2,y3,y4,y5⟩:=frac_box (HB2.out.below GB.out HB2.out.lt);go_wp2_with fail
 with_reducible refine(BR.out w2 GB.out).mono ?_
 rintro e w3 ⟨m1,m2,m3,rfl,O1,O2,-,hb⟩
 go_upto_region 4 with (fail)
 obtain⟨V,hV⟩:∃ V,V=(w3.alloc (.cells #[.bool (decide (T1<0)),.slice m1 (lenB T1.natAbs) (lenB T1.natAbs),.bool (decide (T2<0)),.slice m2 (lenB T2.natAbs) (lenB T2.natAbs)] 97)).alloc (.cells #[.bool (decide (Lw<0)),.slice m3 (lenB Lw.natAbs) (lenB Lw.natAbs)] 26):=⟨_,rfl⟩;have M4:=qh (show Bxs V w3.heap.size 97 [.bool (decide (T1<0)),.slice m1 (lenB T1.natAbs) (lenB T1.natAbs),.bool (decide (T2<0)),.slice m2 (lenB T2.natAbs) (lenB T2.natAbs)] by rw[hV];exact(Bxs.new w3 97 [.bool (decide (T1<0)),.slice m1 (lenB T1.natAbs) (lenB T1.natAbs),.bool (decide (T2<0)),.slice m2 (lenB T2.natAbs) (lenB T2.natAbs)]).alloc _)
 have hbV:Below w2.heap.size w2 V:=by rw[hV];exact(hb.alloc hb.size _).alloc (by have:=hb.size;go_size) _
 have GB:=qk GB hbV;have O1:=qh (show Own 44 V w2.heap.size m1 (lenB T1.natAbs) (lenB T1.natAbs) (dgi T1.natAbs) by rw[hV];exact(O1.allocd _).allocd _);have O2:=qh (show Own 44 V w2.heap.size m2 (lenB T2.natAbs) (lenB T2.natAbs) (dgi T2.natAbs) by rw[hV];exact(O2.allocd _).allocd _);obtain⟨b4,hb4⟩:∃ b,b=w3.heap.size:=⟨_,rfl⟩;rw[show(w3.alloc (.cells #[.bool (decide (T1<0)),.slice m1 (lenB T1.natAbs) (lenB T1.natAbs),.bool (decide (T2<0)),.slice m2 (lenB T2.natAbs) (lenB T2.natAbs)] 97)).alloc (.cells #[.bool (decide (Lw<0)),.slice m3 (lenB Lw.natAbs) (lenB Lw.natAbs)] 26)=V from hV.symm];rw[← hb4] at M4 ⊢;have MK:=qh (MK.out m1 m2 V O1.out.rd HL.out.1 (Nat.le_refl _) O2.out.rd HL.out.2 (Nat.le_refl _));have M3:=qh (HB3.out.below GB.out HB3.out.lt);have KG:=qh (KG.out.trans (GB.out.mono KG.out.size));have HVS:=qh (Nat.le_trans (Nat.le_of_eq HWS.out) GB.out.size);clear hV hbV hb hb4 x0 x1 x2 x3 x4 x5 y0 y1 y2 y3 y4 y5 HB1 HB2 HB3 BR O1 O2 GB HWS HL;have x0:=M4.out.cell (i:=0) rfl;have x1:=M4.out.cell (i:=1) rfl;have x2:=M4.out.cell (i:=2) rfl;have x3:=M4.out.cell (i:=3) rfl;have x4:=M4.out.fz;have x5:=M4.out.lt;go_wp2_with fail
 with_reducible refine MK.out.mono ?_
 rintro e w4 ⟨r1,r2,rfl,Q1,Q2,hap,hb⟩;have M3:=qh (M3.out.below hb M3.out.lt);have KG:=qk KG hb;have hvs:=HVS.out;clear x0 x1 x2 x3 x4 x5 M4 MK hb;obtain⟨z0,z1,z2,z3,zf,zl⟩:=frac_box M3.out;go_wp2_with fail
 refine bodyPost_ret (results_ct rfl _ _ _ _ _ _ _ rfl ((((M3.out.put 0 _).put 1 _).put 2 _).put 3 _) Tryz.underlying28 rfl (by kernel_rfl)) rfl ⟨r1,r2,rfl,?_,?_,hap,?_⟩
 ·exact((((Q1.other (by dsimp only;omega) _).other (by dsimp only;omega) _).other (by dsimp only;omega) _).other (by dsimp only;omega) _).mono (by omega)
 ·exact((((Q2.other (by dsimp only;omega) _).other (by dsimp only;omega) _).other (by dsimp only;omega) _).other (by dsimp only;omega) _).mono (by omega)
 ·exact(((KG.out.setCell (by dsimp only;omega) _).setCell (by dsimp only;omega) _).setCell (by dsimp only;omega) _).setCell (by dsimp only;omega) _
theorem one_iff (s:Bool) (n:Nat) (o:Nat→Int) (h:okN s n o) (h0:∀ i,i<n→0≤o i∧o i≤4294967295):valN s n o=1↔s=false∧n=1∧o 0=1:=by
 obtain⟨f1,f2,f3⟩:=of_facts s n o h h0
 constructor
 ·intro e;rw[e] at f1 f2 f3
  have hl:lenB (Int.natAbs 1)=1:=by rw[show Int.natAbs 1=1 from rfl,lenB_pos (by decide),show 1/1000000000=0 from rfl,lenB_zero]
  have hn:n=1:=by omega
  subst hn;refine⟨by rw[← f1];rfl,rfl,?_⟩;rw[f3 0 (by omega)];show((dg 1 0:Nat):Int)=1;rw[dg_zero];rfl
 ·rintro⟨rfl,rfl,e⟩;unfold valN;rw[if_pos h,if_neg (by simp)];show(0:Int)+o 0*((pw 0:Nat):Int)=1;rw[e,pw_zero];rfl
def FracF (w:World) (p q:Int) (e:Ending) (w':World):Prop :=
 ∃ a1 c1 a2 c2,e=.returned (fracV (decide (p<0)) a1 (lenB p.natAbs) c1 (decide (q<0)) a2 (lenB q.natAbs) c2)∧Own 44 w' w.heap.size a1 (lenB p.natAbs) c1 (dgi p.natAbs) ∧
  Own 44 w' w.heap.size a2 (lenB q.natAbs) c2 (dgi q.natAbs)∧Below w.heap.size w w'
open Classical in
theorem rone_any (s1:Bool) (a1:Option Addr) (n1 c1:Nat) (o1:Nat→Int) (w:World) (h1:Rd w a1 n1 o1) (hn1:n1≤100000000) (hc1:n1≤c1) (hk:okN s1 n1 o1) :
  Calls Tryz.prog 81 #[numV s1 a1 n1 c1] w fun e w'=>e=.returned (.bool (decide (valN s1 n1 o1=1)))∧Below w.heap.size w w':=by
 have RES:=qh (one_iff s1 n1 o1 hk h1.rng);have HB1:=qh (Bxs.new (w) 26 [.bool s1,.slice a1 n1 c1]);obtain⟨W,hW⟩:∃ W,W=w.alloc (.cells #[.bool s1,.slice a1 n1 c1] 26):=⟨_,rfl⟩;have KG:=qh (show Below w.heap.size w W by rw[hW];exact(Below.refl _ _).alloc (Nat.le_refl _) _);have HWS:=qh (show w.heap.size+1≤W.heap.size by rw[hW];simp only[World.size_alloc];omega);have HB1:=qh (show Bxs W (w.heap.size) 26 [.bool s1,.slice a1 n1 c1] by have h:=HB1.out;rw[hW];exact h);have HW:=qh hW;clear hW;have HR:=qh (h1.below KG.out);clear h1 hk
 cases s1 with
 | true =>
  rw[decide_eq_false (fun h=>by cases (RES.out.1 h).1)];clear RES;go_enter Tryz.func81,Tryz.ntmps81
  go_upto_region 1 with (fail)
  rw[show w.alloc (.cells #[.bool true,.slice a1 n1 c1] 26)=W from HW.out.symm];clear HW;have b1c0:=HB1.out.cell (i:=0) rfl;have b1c1:=HB1.out.cell (i:=1) rfl;have b1f:=HB1.out.fz;have b1l:=HB1.out.lt;go_wp2_with fail
  clear b1c0 b1c1 b1f b1l;go_ret
  exact⟨rfl,KG.out⟩
 | false =>
  by_cases hn:n1=1
  ·subst hn;obtain⟨b,off,rfl,hc⟩:=HR.out.cells (by omega);have hc:=hc 0 (by omega);rw[show decide (valN false 1 o1=1)=decide (o1 0=1) from decide_eq_decide.2 ⟨fun h=>(RES.out.1 h).2.2,fun h=>RES.out.2 ⟨rfl,rfl,h⟩⟩];clear RES;change _=some (Value.int .u32 (o1 0)) at hc;obtain⟨t,ht⟩:∃ t,t=o1 0:=⟨_,rfl⟩;rw[← ht] at hc ⊢;clear ht;simp only[Nat.add_zero] at hc;go_enter Tryz.func81,Tryz.ntmps81
   go_upto_region 1 with (fail)
   rw[show w.alloc (.cells #[.bool false,.slice (some ⟨b,off,none⟩) 1 c1] 26)=W from HW.out.symm];clear HW;have b1c0:=HB1.out.cell (i:=0) rfl;have b1c1:=HB1.out.cell (i:=1) rfl;have b1f:=HB1.out.fz;have b1l:=HB1.out.lt;go_wp2_with fail
   clear b1c0 b1c1 b1f b1l;go_ret;exact⟨by first | rfl | (congr 1;simp),KG.out⟩
  ·rw[decide_eq_false (fun h=>hn (RES.out.1 h).2.1)];clear RES
   have hn':¬(n1:Int)=1:=by omega
   clear hn;go_enter Tryz.func81,Tryz.ntmps81
   go_upto_region 1 with (fail)
   rw[show w.alloc (.cells #[.bool false,.slice a1 n1 c1] 26)=W from HW.out.symm];clear HW;have b1c0:=HB1.out.cell (i:=0) rfl;have b1c1:=HB1.out.cell (i:=1) rfl;have b1f:=HB1.out.fz;have b1l:=HB1.out.lt;go_wp2_with fail
   clear b1c0 b1c1 b1f b1l;go_ret;exact⟨rfl,KG.out⟩
open Classical in
theorem rfcheck_any (s1:Bool) (a1:Option Addr) (n1 c1:Nat) (o1:Nat→Int) (s2:Bool) (a2:Option Addr) (n2 c2:Nat) (o2:Nat→Int) (w:World)
  (h1:Rd w a1 n1 o1) (hn1:n1≤5000000) (hc1:n1≤c1) (h2:Rd w a2 n2 o2) (hn2:n2≤5000000) (hc2:n2≤c2) :
  Calls Tryz.prog 44 #[fracV s1 a1 n1 c1 s2 a2 n2 c2] w fun e w'=>e=.returned (.bool (decide (okF s1 n1 o1 s2 n2 o2)))∧Below w.heap.size w w':=by
 have HB:=qh (Bxs.new w 28 [.bool s1,.slice a1 n1 c1,.bool s2,.slice a2 n2 c2]);obtain⟨W,hW⟩:∃ W,W=w.alloc (.cells #[.bool s1,.slice a1 n1 c1,.bool s2,.slice a2 n2 c2] 28):=⟨_,rfl⟩;have HBW:=qh (show Below w.heap.size w W by rw[hW];exact(Below.refl _ _).alloc (Nat.le_refl _) _);rw[show w.alloc (.cells (List.toArray [.bool s1,.slice a1 n1 c1,.bool s2,.slice a2 n2 c2]) 28)=W from hW.symm] at HB;have HW:=qh hW;have GB:=qh (Below.refl W.heap.size W);have CK1:=qh (fun (w':World) (hb:Below W.heap.size W w')=>rcheck_any s1 a1 n1 c1 o1 w' (h1.below (HBW.out.trans (hb.mono HBW.out.size))) (by omega));have CK2:=qh (fun (w':World) (hb:Below W.heap.size W w')=>rcheck_any s2 a2 n2 c2 o2 w' (h2.below (HBW.out.trans (hb.mono HBW.out.size))) (by omega));have SG:=qh (fun (w':World) (hb:Below W.heap.size W w')=>rsign_any s2 a2 n2 c2 o2 w' (h2.below (HBW.out.trans (hb.mono HBW.out.size))) (by omega) hc2);have GC:=qh (fun (w':World) (hb:Below W.heap.size W w')=>rgcd_any s1 a1 n1 c1 o1 s2 a2 n2 c2 o2 w' (h1.below (HBW.out.trans (hb.mono HBW.out.size))) (by omega) hc1 (h2.below (HBW.out.trans (hb.mono HBW.out.size))) (by omega) hc2)
 have HGL:=qh (show lenB (Int.gcd (valN s1 n1 o1) (valN s2 n2 o2))≤10000000 from by
  obtain⟨_,_,_,l1,_⟩:=fit_any s1 a1 n1 c1 o1 w h1 (by omega) hc1;obtain⟨_,_,_,l2,_⟩:=fit_any s2 a2 n2 c2 o2 w h2 (by omega) hc2;have:=gcd_len (valN s1 n1 o1) (valN s2 n2 o2)
  omega)
 have HRD:=qh (fun (w':World) (hb:Below W.heap.size W w')=>h2.below (HBW.out.trans (hb.mono HBW.out.size)));clear h1 h2 hW
 by_cases k1:okN s1 n1 o1
 ·rw[decide_eq_true k1] at CK1
  by_cases k2:okN s2 n2 o2
  ·rw[decide_eq_true k2] at CK2;obtain⟨cs,hcs⟩:∃ cs,cs=cmpZ (valN s2 n2 o2) 0:=⟨_,rfl⟩;rw[← hcs] at SG
   by_cases k3:0<valN s2 n2 o2
   ·have hc3:decide (0<cs)=true:=by rw[hcs,cmpZ_gt k3];rfl
    obtain⟨G,hG⟩:∃ G:Int,G=((Int.gcd (valN s1 n1 o1) (valN s2 n2 o2):Nat):Int):=⟨_,rfl⟩;rw[← hG] at GC;have HGN:=qh (show lenB G.natAbs≤10000000 by rw[hG,Int.natAbs_natCast];exact HGL.out);have RES:=qh (okF_dec s1 n1 o1 s2 n2 o2 k1 k2 k3);rw[← hG] at RES;have RO:=qh (fun (w':World) (hb:Below W.heap.size W w')=>rone_any s2 a2 n2 c2 o2 w' (HRD.out w' hb) (by omega) hc2 k2)
    have HD:=qh (show(decide (valN s2 n2 o2=1)=true∧decide (okF s1 n1 o1 s2 n2 o2)=true)∨decide (valN s2 n2 o2=1)=false by
     by_cases h1:valN s2 n2 o2=1
     ·exact Or.inl ⟨decide_eq_true h1,by rw[RES.out,hG,h1];exact decide_eq_true (by rw[Int.gcd_one_right];rfl)⟩
     ·exact Or.inr (decide_eq_false h1))
    obtain⟨dv,hdv⟩:∃ dv,dv=decide (valN s2 n2 o2=1):=⟨_,rfl⟩;rw[← hdv] at RO HD;clear hdv hG hcs k1 k2 k3 HRD;go_enter Tryz.func44,Tryz.ntmps44
    go_upto_region 1 with (fail)
    rw[show w.alloc (.cells #[.bool s1,.slice a1 n1 c1,.bool s2,.slice a2 n2 c2] 28)=W from HW.out.symm];obtain⟨x0,x1,x2,x3,x4,x5⟩:=frac_box HB.out;go_wp2_with fail
    refine(CK1.out _ GB.out).mono ?_;rintro e w' ⟨rfl,hb⟩;have GB:=qk GB hb;clear hb x0 x1 x2 x3 x4 x5;obtain⟨x0,x1,x2,x3,x4,x5⟩:=frac_box (HB.out.below GB.out HB.out.lt);obtain⟨w1,rfl⟩:∃ w1,w1=w':=⟨_,rfl⟩;go_wp2_with fail
    refine(CK2.out _ GB.out).mono ?_;rintro e w' ⟨rfl,hb⟩;have GB:=qk GB hb;clear hb x0 x1 x2 x3 x4 x5;obtain⟨x0,x1,x2,x3,x4,x5⟩:=frac_box (HB.out.below GB.out HB.out.lt);obtain⟨w1,rfl⟩:∃ w1,w1=w':=⟨_,rfl⟩;go_wp2_with fail
    refine(SG.out _ GB.out).mono ?_;rintro e w' ⟨rfl,hb⟩;have GB:=qk GB hb;clear hb x0 x1 x2 x3 x4 x5;obtain⟨x0,x1,x2,x3,x4,x5⟩:=frac_box (HB.out.below GB.out HB.out.lt);obtain⟨w1,rfl⟩:∃ w1,w1=w':=⟨_,rfl⟩;go_wp2_with fail
    refine(RO.out _ GB.out).mono ?_;rintro e w' ⟨rfl,hb⟩;have GB:=qk GB hb;clear hb RO x0 x1 x2 x3 x4 x5
    rcases HD.out with ⟨h1,hr⟩ | h1
    ·subst h1;have RES:=qh hr;clear hr HD;go_wp2_with fail
     go_ret;exact⟨by rw[RES.out];rfl,HBW.out.trans (GB.out.mono HBW.out.size)⟩
    ·subst h1;clear HD;obtain⟨x0,x1,x2,x3,x4,x5⟩:=frac_box (HB.out.below GB.out HB.out.lt);go_wp2_with fail
     refine(GC.out _ GB.out).mono ?_;rintro e w2 ⟨x,xc,rfl,ho,hb⟩;have UN:=qh (rone_any (decide (G<0)) x (lenB G.natAbs) xc (dgi G.natAbs) w2 ho.rd (by have:=HGN.out;omega) ho.le (canon_ok G));rw[canon_val] at UN;have GB:=qk GB hb;clear hb ho x0 x1 x2 x3 x4 x5;go_wp2_with fail
     refine UN.out.mono ?_;rintro e w3 ⟨rfl,hb⟩;have GB:=qk GB hb;clear hb UN;go_wp2_with fail
     go_ret;exact⟨by rw[RES.out];first | rfl | (congr 1;simp),HBW.out.trans (GB.out.mono HBW.out.size)⟩
   ·have hc3:decide (0<cs)=false:=by
     rw[hcs];refine decide_eq_false ?_
     rcases Int.lt_trichotomy (valN s2 n2 o2) 0 with h | h | h
     ·rw[cmpZ_lt h];omega
     ·rw[cmpZ_eq h];omega
     ·exact absurd h k3
    have RES:=qh (show decide (okF s1 n1 o1 s2 n2 o2)=false from decide_eq_false fun h=>k3 h.2.2.1);clear hcs k1 k2 k3;go_enter Tryz.func44,Tryz.ntmps44
    go_upto_region 1 with (fail)
    rw[show w.alloc (.cells #[.bool s1,.slice a1 n1 c1,.bool s2,.slice a2 n2 c2] 28)=W from HW.out.symm];obtain⟨x0,x1,x2,x3,x4,x5⟩:=frac_box HB.out;go_wp2_with fail
    refine(CK1.out _ GB.out).mono ?_;rintro e w' ⟨rfl,hb⟩;have GB:=qk GB hb;clear hb x0 x1 x2 x3 x4 x5;obtain⟨x0,x1,x2,x3,x4,x5⟩:=frac_box (HB.out.below GB.out HB.out.lt);obtain⟨w1,rfl⟩:∃ w1,w1=w':=⟨_,rfl⟩;go_wp2_with fail
    refine(CK2.out _ GB.out).mono ?_;rintro e w' ⟨rfl,hb⟩;have GB:=qk GB hb;clear hb x0 x1 x2 x3 x4 x5;obtain⟨x0,x1,x2,x3,x4,x5⟩:=frac_box (HB.out.below GB.out HB.out.lt);obtain⟨w1,rfl⟩:∃ w1,w1=w':=⟨_,rfl⟩;go_wp2_with fail
    refine(SG.out _ GB.out).mono ?_;rintro e w' ⟨rfl,hb⟩;have GB:=qk GB hb;clear hb x0 x1 x2 x3 x4 x5;obtain⟨x0,x1,x2,x3,x4,x5⟩:=frac_box (HB.out.below GB.out HB.out.lt);obtain⟨w1,rfl⟩:∃ w1,w1=w':=⟨_,rfl⟩;go_wp2_with fail
    go_ret;exact⟨by rw[RES.out];rfl,HBW.out.trans (GB.out.mono HBW.out.size)⟩
  ·rw[decide_eq_false k2] at CK2;have RES:=qh (show decide (okF s1 n1 o1 s2 n2 o2)=false from decide_eq_false fun h=>k2 h.2.1);clear k1 k2;go_enter Tryz.func44,Tryz.ntmps44
   go_upto_region 1 with (fail)
   rw[show w.alloc (.cells #[.bool s1,.slice a1 n1 c1,.bool s2,.slice a2 n2 c2] 28)=W from HW.out.symm];obtain⟨x0,x1,x2,x3,x4,x5⟩:=frac_box HB.out;go_wp2_with fail
   refine(CK1.out _ GB.out).mono ?_;rintro e w' ⟨rfl,hb⟩;have GB:=qk GB hb;clear hb x0 x1 x2 x3 x4 x5;obtain⟨x0,x1,x2,x3,x4,x5⟩:=frac_box (HB.out.below GB.out HB.out.lt);obtain⟨w1,rfl⟩:∃ w1,w1=w':=⟨_,rfl⟩;go_wp2_with fail
   refine(CK2.out _ GB.out).mono ?_;rintro e w' ⟨rfl,hb⟩;have GB:=qk GB hb;clear hb x0 x1 x2 x3 x4 x5;obtain⟨x0,x1,x2,x3,x4,x5⟩:=frac_box (HB.out.below GB.out HB.out.lt);obtain⟨w1,rfl⟩:∃ w1,w1=w':=⟨_,rfl⟩;go_wp2_with fail
   go_ret;exact⟨by rw[RES.out];rfl,HBW.out.trans (GB.out.mono HBW.out.size)⟩
 ·rw[decide_eq_false k1] at CK1;have RES:=qh (show decide (okF s1 n1 o1 s2 n2 o2)=false from decide_eq_false fun h=>k1 h.1);clear k1;go_enter Tryz.func44,Tryz.ntmps44
  go_upto_region 1 with (fail)
  rw[show w.alloc (.cells #[.bool s1,.slice a1 n1 c1,.bool s2,.slice a2 n2 c2] 28)=W from HW.out.symm];obtain⟨x0,x1,x2,x3,x4,x5⟩:=frac_box HB.out;go_wp2_with fail
  refine(CK1.out _ GB.out).mono ?_;rintro e w' ⟨rfl,hb⟩;have GB:=qk GB hb;clear hb x0 x1 x2 x3 x4 x5;obtain⟨x0,x1,x2,x3,x4,x5⟩:=frac_box (HB.out.below GB.out HB.out.lt);obtain⟨w1,rfl⟩:∃ w1,w1=w':=⟨_,rfl⟩;go_wp2_with fail
  go_ret;exact⟨by rw[RES.out];rfl,HBW.out.trans (GB.out.mono HBW.out.size)⟩
open Classical in
theorem rfof_any (n:Int) (w:World) (h1:-9223372036854775808≤n) (h2:n≤9223372036854775807) :
  Calls Tryz.prog 21 #[.int .i64 n] w (FracF w n 1):=by
 obtain⟨one,hone⟩:∃ one:Int,one=1:=⟨_,rfl⟩;have OF1:=qh (fun (w':World)=>rof64_any n w' h1 h2);have OF2:=qh (show ∀ w',Calls Tryz.prog 51 #[.int .i64 1] w' (ResF w' one) from fun w'=>by rw[hone];exact rof64_any 1 w' (by omega) (by omega));rw[← hone];have HB:=qh (Bxs.new w 28 [.bool false,.slice none 0 0,.bool false,.slice none 0 0]);have HBW:=qh (show Below w.heap.size w (w.alloc (.cells #[.bool false,.slice none 0 0,.bool false,.slice none 0 0] 28)) from(Below.refl _ _).alloc (Nat.le_refl _) _);obtain⟨W,hW⟩:∃ W,W=w.alloc (.cells #[.bool false,.slice none 0 0,.bool false,.slice none 0 0] 28):=⟨_,rfl⟩;rw[show w.alloc (.cells (List.toArray [.bool false,.slice none 0 0,.bool false,.slice none 0 0]) 28)=W from hW.symm] at HB;rw[← hW] at HBW;have HW:=qh hW;clear h1 h2 hone hW;go_enter Tryz.func21,Tryz.ntmps21
 go_upto_region 1 with (fail)
 rw[show w.alloc (.cells #[.bool false,.slice none 0 0,.bool false,.slice none 0 0] 28)=W from HW.out.symm];go_wp2_with fail
 refine(OF1.out _).mono ?_;rintro e w1 ⟨a1,d1,rfl,ho1,hb1⟩;have HO1:=qh ho1;have GB:=qh hb1;clear ho1 hb1;go_wp2_with fail
 refine(OF2.out _).mono ?_;rintro e w2 ⟨a2,d2,rfl,ho2,hb2⟩;have HO1:=qh (HO1.out.below hb2);have HO2:=qh (ho2.mono GB.out.size);have GB:=qk GB hb2;have HB2:=qh (HB.out.below GB.out HB.out.lt);clear ho2 hb2;obtain⟨x0,x1,x2,x3,x4,x5⟩:=frac_box HB2.out;go_wp2_with fail
 have hlt:=HB.out.lt;have hG:=HBW.out.trans (GB.out.mono HBW.out.size);refine bodyPost_ret (results_cell rfl _ _ _ _ _ _ _ rfl ((((HB2.out.put 0 _).put 1 _).put 2 _).put 3 _) Tryz.underlying28 rfl (by kernel_rfl)) rfl ⟨a1,d1,a2,d2,rfl,?_,?_,?_⟩
 ·exact((((HO1.out.other (by dsimp only;omega) _).other (by dsimp only;omega) _).other (by dsimp only;omega) _).other (by dsimp only;omega) _).mono (by omega)
 ·exact((((HO2.out.other (by dsimp only;omega) _).other (by dsimp only;omega) _).other (by dsimp only;omega) _).other (by dsimp only;omega) _).mono (by omega)
 ·exact(((hG.setCell (by dsimp only;omega) _).setCell (by dsimp only;omega) _).setCell (by dsimp only;omega) _).setCell (by dsimp only;omega) _
open Classical in
theorem rfit_ok (s1:Bool) (a1:Option Addr) (n1 c1:Nat) (o1:Nat→Int) (s2:Bool) (a2:Option Addr) (n2 c2:Nat) (o2:Nat→Int) (w:World) (B0:Nat) (hB0:B0≤w.heap.size)
  (h1:Rd w a1 n1 o1) (hn1:n1≤5000000) (hc1:n1≤c1) (f1:0<n1→∀ p,a1=some p→p.block<B0) (h2:Rd w a2 n2 o2) (hn2:n2≤5000000) (hc2:n2≤c2) (f2:0<n2→∀ p,a2=some p→p.block<B0) (hk:okF s1 n1 o1 s2 n2 o2) :
  Calls Tryz.prog 49 #[fracV s1 a1 n1 c1 s2 a2 n2 c2] w (FracS w B0 (valN s1 n1 o1) (valN s2 n2 o2)):=by
 have CK:=qh (fun (w':World) (hb:Below w.heap.size w w')=>rfcheck_any s1 a1 n1 c1 o1 s2 a2 n2 c2 o2 w' (h1.below hb) hn1 hc1 (h2.below hb) hn2 hc2);rw[decide_eq_true hk] at CK;obtain⟨t1,t2,t3⟩:=of_facts s1 n1 o1 hk.1 h1.rng;obtain⟨u1,u2,u3⟩:=of_facts s2 n2 o2 hk.2.1 h2.rng
 generalize valN s1 n1 o1=z1 at t1 t2 t3 ⊢
 generalize valN s2 n2 o2=z2 at u1 u2 u3 ⊢
 have HR:=qh (And.intro (And.intro h1 f1) (And.intro h2 f2));have HT:=qh (And.intro (And.intro t1 (And.intro t2 t3)) (And.intro u1 (And.intro u2 u3)));clear hk h1 h2 f1 f2 t1 t2 t3 u1 u2 u3;have HB:=qh ((Bxs.new w 28 [.bool s1,.slice a1 n1 c1,.bool s2,.slice a2 n2 c2]).alloc (.cells #[.bool false,.slice none 0 0,.bool false,.slice none 0 0] 28));have HBR:=qh (Bxs.new (w.alloc (.cells #[.bool s1,.slice a1 n1 c1,.bool s2,.slice a2 n2 c2] 28)) 28 [.bool false,.slice none 0 0,.bool false,.slice none 0 0]);obtain⟨W,hW⟩:∃ W,W=(w.alloc (.cells #[.bool s1,.slice a1 n1 c1,.bool s2,.slice a2 n2 c2] 28)).alloc (.cells #[.bool false,.slice none 0 0,.bool false,.slice none 0 0] 28):=⟨_,rfl⟩;have HBW:=qh (show Below w.heap.size w W by rw[hW];exact((Below.refl _ _).alloc (Nat.le_refl _) _).alloc (by simp) _);rw[show(w.alloc (.cells (List.toArray [.bool s1,.slice a1 n1 c1,.bool s2,.slice a2 n2 c2]) 28)).alloc (.cells #[.bool false,.slice none 0 0,.bool false,.slice none 0 0] 28)=W from hW.symm] at HB;rw[show(w.alloc (.cells #[.bool s1,.slice a1 n1 c1,.bool s2,.slice a2 n2 c2] 28)).alloc (.cells (List.toArray [.bool false,.slice none 0 0,.bool false,.slice none 0 0]) 28)=W from hW.symm,World.size_alloc] at HBR;have HW:=qh hW;clear hW;go_enter Tryz.func49,Tryz.ntmps49
 go_upto_region 1 with (fail)
 rw[show(w.alloc (.cells #[.bool s1,.slice a1 n1 c1,.bool s2,.slice a2 n2 c2] 28)).alloc (.cells #[.bool false,.slice none 0 0,.bool false,.slice none 0 0] 28)=W from HW.out.symm];obtain⟨x0,x1,x2,x3,x4,x5⟩:=frac_box HB.out;go_wp2_with fail
 refine(CK.out _ HBW.out).mono ?_;rintro e w1 ⟨rfl,hb1⟩;have GB:=qh hb1;have HB1:=qh (HB.out.below hb1 HB.out.lt);have HR1:=qh (HBR.out.below hb1 HBR.out.lt);clear hb1 CK x0 x1 x2 x3 x4 x5;obtain⟨x0,x1,x2,x3,x4,x5⟩:=frac_box HB1.out;obtain⟨y0,y1,y2,y3,y4,y5⟩:=frac_box HR1.out;go_wp2_with fail
 have hlt:=HB.out.lt;have hlt2:=HBR.out.lt;have hG:=HBW.out.trans (GB.out.mono HBW.out.size);refine bodyPost_ret (results_cell rfl _ _ _ _ _ _ _ rfl ((((HR1.out.put 0 _).put 1 _).put 2 _).put 3 _) Tryz.underlying28 rfl (by kernel_rfl)) rfl ⟨a1,c1,a2,c2,?_,?_,?_,?_,?_,?_⟩
 ·rw[HT.out.1.1,HT.out.1.2.1,HT.out.2.1,HT.out.2.2.1];rfl
 ·rw[HT.out.1.2.1];have r:RdS w1 B0 (w.heap.size+2) a1 n1 (dgi z1.natAbs):=⟨(HR.out.1.1.congr HT.out.1.2.2).below hG,fun h0 p hp=>Or.inl (HR.out.1.2 h0 p hp)⟩;exact((((r.set (by dsimp only;omega) (by dsimp only;omega) _).set (by dsimp only;omega) (by dsimp only;omega) _).set (by dsimp only;omega) (by dsimp only;omega) _).set (by dsimp only;omega) (by dsimp only;omega) _).up (by omega)
 ·rw[HT.out.1.2.1];exact hc1
 ·rw[HT.out.2.2.1];have r:RdS w1 B0 (w.heap.size+2) a2 n2 (dgi z2.natAbs):=⟨(HR.out.2.1.congr HT.out.2.2.2).below hG,fun h0 p hp=>Or.inl (HR.out.2.2 h0 p hp)⟩;exact((((r.set (by dsimp only;omega) (by dsimp only;omega) _).set (by dsimp only;omega) (by dsimp only;omega) _).set (by dsimp only;omega) (by dsimp only;omega) _).set (by dsimp only;omega) (by dsimp only;omega) _).up (by omega)
 ·rw[HT.out.2.2.1];exact hc2
 ·exact(((hG.setCell (by dsimp only;omega) _).setCell (by dsimp only;omega) _).setCell (by dsimp only;omega) _).setCell (by dsimp only;omega) _
open Classical in
theorem rfit_not (s1:Bool) (a1:Option Addr) (n1 c1:Nat) (o1:Nat→Int) (s2:Bool) (a2:Option Addr) (n2 c2:Nat) (o2:Nat→Int) (w:World) (B0:Nat)
  (h1:Rd w a1 n1 o1) (hn1:n1≤5000000) (hc1:n1≤c1) (h2:Rd w a2 n2 o2) (hn2:n2≤5000000) (hc2:n2≤c2) (hk:¬okF s1 n1 o1 s2 n2 o2) :
  Calls Tryz.prog 49 #[fracV s1 a1 n1 c1 s2 a2 n2 c2] w (FracS w B0 0 1):=by
 have CK:=qh (fun (w':World) (hb:Below w.heap.size w w')=>rfcheck_any s1 a1 n1 c1 o1 s2 a2 n2 c2 o2 w' (h1.below hb) hn1 hc1 (h2.below hb) hn2 hc2);rw[decide_eq_false hk] at CK;obtain⟨one,hone⟩:∃ one:Int,one=1:=⟨_,rfl⟩;obtain⟨zer,hzer⟩:∃ zer:Int,zer=0:=⟨_,rfl⟩;have OF:=qh (fun (w':World)=>rfof_any 0 w' (by omega) (by omega));rw[← hone,← hzer];have OF:=qh (show ∀ w',Calls Tryz.prog 21 #[.int .i64 0] w' (FracF w' zer one) from fun w'=>by rw[hone,hzer];exact OF.out w');clear hk h1 h2 hone hzer;have HB:=qh ((Bxs.new w 28 [.bool s1,.slice a1 n1 c1,.bool s2,.slice a2 n2 c2]).alloc (.cells #[.bool false,.slice none 0 0,.bool false,.slice none 0 0] 28));have HBR:=qh (Bxs.new (w.alloc (.cells #[.bool s1,.slice a1 n1 c1,.bool s2,.slice a2 n2 c2] 28)) 28 [.bool false,.slice none 0 0,.bool false,.slice none 0 0]);obtain⟨W,hW⟩:∃ W,W=(w.alloc (.cells #[.bool s1,.slice a1 n1 c1,.bool s2,.slice a2 n2 c2] 28)).alloc (.cells #[.bool false,.slice none 0 0,.bool false,.slice none 0 0] 28):=⟨_,rfl⟩;have HBW:=qh (show Below w.heap.size w W by rw[hW];exact((Below.refl _ _).alloc (Nat.le_refl _) _).alloc (by simp) _);rw[show(w.alloc (.cells (List.toArray [.bool s1,.slice a1 n1 c1,.bool s2,.slice a2 n2 c2]) 28)).alloc (.cells #[.bool false,.slice none 0 0,.bool false,.slice none 0 0] 28)=W from hW.symm] at HB;rw[show(w.alloc (.cells #[.bool s1,.slice a1 n1 c1,.bool s2,.slice a2 n2 c2] 28)).alloc (.cells (List.toArray [.bool false,.slice none 0 0,.bool false,.slice none 0 0]) 28)=W from hW.symm,World.size_alloc] at HBR
 have HW:=qh hW;clear hW;go_enter Tryz.func49,Tryz.ntmps49
 go_upto_region 1 with (fail)
 rw[show(w.alloc (.cells #[.bool s1,.slice a1 n1 c1,.bool s2,.slice a2 n2 c2] 28)).alloc (.cells #[.bool false,.slice none 0 0,.bool false,.slice none 0 0] 28)=W from HW.out.symm];obtain⟨x0,x1,x2,x3,x4,x5⟩:=frac_box HB.out;go_wp2_with fail
 refine(CK.out _ HBW.out).mono ?_;rintro e w1 ⟨rfl,hb1⟩;have GB:=qh hb1;clear hb1 CK x0 x1 x2 x3 x4 x5;go_wp2_with fail
 refine(OF.out w1).mono ?_;rintro e w2 ⟨t1,d1,t2,d2,rfl,ho1,ho2,hb2⟩;have HO:=qh (And.intro ho1 ho2);have hs1:=GB.out.size;have GB:=qk GB hb2;have HR1:=qh (HBR.out.below GB.out HBR.out.lt);have HS1:=qh hs1;clear ho1 ho2 hb2 hs1;obtain⟨y0,y1,y2,y3,y4,y5⟩:=frac_box HR1.out;go_wp2_with fail
 have hlt:=HB.out.lt;have hlt2:=HBR.out.lt;have hs1:=HS1.out;have hG:=HBW.out.trans (GB.out.mono HBW.out.size);refine bodyPost_ret (results_cell rfl _ _ _ _ _ _ _ rfl ((((HR1.out.put 0 _).put 1 _).put 2 _).put 3 _) Tryz.underlying28 rfl (by kernel_rfl)) rfl ⟨t1,d1,t2,d2,rfl,?_,HO.out.1.le,?_,HO.out.2.le,?_⟩
 ·exact(((((HO.out.1.other (by dsimp only;omega) _).other (by dsimp only;omega) _).other (by dsimp only;omega) _).other (by dsimp only;omega) _).rdS B0 w.heap.size (by omega))
 ·exact(((((HO.out.2.other (by dsimp only;omega) _).other (by dsimp only;omega) _).other (by dsimp only;omega) _).other (by dsimp only;omega) _).rdS B0 w.heap.size (by omega))
 ·exact(((hG.setCell (by dsimp only;omega) _).setCell (by dsimp only;omega) _).setCell (by dsimp only;omega) _).setCell (by dsimp only;omega) _
theorem rfit_any (s1:Bool) (a1:Option Addr) (n1 c1:Nat) (o1:Nat→Int) (s2:Bool) (a2:Option Addr) (n2 c2:Nat) (o2:Nat→Int) (w:World) (B0:Nat) (hB0:B0≤w.heap.size)
  (h1:Rd w a1 n1 o1) (hn1:n1≤5000000) (hc1:n1≤c1) (f1:0<n1→∀ p,a1=some p→p.block<B0) (h2:Rd w a2 n2 o2) (hn2:n2≤5000000) (hc2:n2≤c2) (f2:0<n2→∀ p,a2=some p→p.block<B0) :
  Calls Tryz.prog 49 #[fracV s1 a1 n1 c1 s2 a2 n2 c2] w (FracS w B0 (valF s1 n1 o1 s2 n2 o2).num ((valF s1 n1 o1 s2 n2 o2).den:Int)):=by
 by_cases hk:okF s1 n1 o1 s2 n2 o2
 ·obtain⟨e1,e2⟩:=valF_ok hk;rw[e1,e2];exact rfit_ok s1 a1 n1 c1 o1 s2 a2 n2 c2 o2 w B0 hB0 h1 hn1 hc1 f1 h2 hn2 hc2 f2 hk
 ·rw[valF_not hk];exact rfit_not s1 a1 n1 c1 o1 s2 a2 n2 c2 o2 w B0 h1 hn1 hc1 h2 hn2 hc2 hk
end Go.Proofs.YtjcmanikkcfnmaaGreat.Limb
