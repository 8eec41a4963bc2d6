/-
  The law PolysAt: whatever it is handed, it returns true, and what it was handed reads behind the call as it read before; the card ties the listed tables to the program's text.
-/
import Derived.Test.YtgkkbkoiaccmfaaGreatDoorPzQQ
import Derived.Test.YtgkkbkoiaccmfaaGreatDoorCards
import Derived.Test.YtgkkbkoiaccmfaaGreatDoorTie
import Derived.WalkKit
import Derived.ProofKit
import Derived.OpenShut
import Derived.Deep.DeepHandedRow
import Derived.Lib.LaidTab
set_option linter.unusedSimpArgs false
set_option linter.unusedVariables false
set_option maxHeartbeats 16000000
set_option maxRecDepth 100000
namespace Go.Proofs.YtgkkbkoiaccmfaaGreatDoor
namespace Pol
open Go.RowKit Go.Sort Limb Book
theorem run_load {o:Oper} {a:Act} {w:World} {T:TypeId} {x:Operand} {p v:Value} (hop:o.op=.load T x) (hx:a.eval x=p) (h:(Instr.loadAt T p).run Tryz.prog w=.ok v w):(execOp a.eval o).run Tryz.prog w=.ok (.value v) w:=by
 unfold execOp;rw[hop];simp only[hx];show Sem.run _ (Instr.loadAt T p >>= fun x=>pure (Next.value x)) _=_;rw[Sem.run_bind,h];rfl
theorem Yw {ops:Array Oper} {Q:Exit->Act->World->Prop} {rest:List Oper} {o:Oper} {a:Act} {w:World} {T:TypeId} {x:Operand} {p v:Value} (hg:o.guard=none) (hop:o.op=.load T x) (hx:a.eval x=p) (h:(Instr.loadAt T p).run Tryz.prog w=.ok v w) (hK:wpList Tryz.prog ops Q rest (a.put o.dst v) w):wpList Tryz.prog ops Q (o :: rest) a w :=
 wpList_plain hg fun K hn=>by
  unfold Oper.wp;rw[run_load hop hx h];exact hn _ _ hK
theorem load16 {w:World} {b:Nat} {v0 v1 v2 v3 v4 v5 v6 v7 v8 v9 v10 v11 v12 v13 v14 v15:Value} (h:Bxs w b 58 [v0,v1,v2,v3,v4,v5,v6,v7,v8,v9,v10,v11,v12,v13,v14,v15]) :
  (Instr.loadAt 58 (.pointer (some ⟨b,0,none⟩))).run Tryz.prog w=.ok (.agg #[v0,v1,v2,v3,v4,v5,v6,v7,v8,v9,v10,v11,v12,v13,v14,v15]) w:=by
 have h0:=h.ce 0;have h1:=h.ce 1;have h2:=h.ce 2;have h3:=h.ce 3;have h4:=h.ce 4;have h5:=h.ce 5;have h6:=h.ce 6;have h7:=h.ce 7;have h8:=h.ce 8;have h9:=h.ce 9;have h10:=h.ce 10;have h11:=h.ce 11;have h12:=h.ce 12;have h13:=h.ce 13;have h14:=h.ce 14;have h15:=h.ce 15;have hf:=h.fz;have hl:=h.lt;clear h;go_simp
def LowL (L:List TO) (E:Nat):Prop:=∀ e∈L,e.1.m.le E
theorem bxs_rows {w w':World} {b:Nat} {T:TypeId} {l:List Value} {row:TypeId->Bool} (h:Bxs w b T l) (hs:∀ (b:Nat) (c:Array Value) (T:TypeId),w.heap[b]?=some (.cells c T (0,0))->row T=true->w'.heap[b]?=w.heap[b]?) (ht:row T=true):Bxs w' b T l:=(hs b _ T h ht).trans h
theorem jam {x:FV} {z:Int} {K:Nat} (hK:K<=60) (h:FZ x z) (hz:z<=K):LF x K:=by
 obtain⟨g1,g2⟩:=h.is (by omega);have:=h.lo;exact⟨by omega,by omega⟩
theorem ja4 (x1:PV) (L1:List TO) (pl0 pl1 pl2 pl3:FV) (n:Int) (w:World) (h1:KE w x1 L1) (hq:AQ w pl0/\AQ w pl1/\AQ w pl2/\AQ w pl3) (_hn1:-9223372036854775808<=n) (_hn2:n<=9223372036854775807) :
  Calls Tryz.prog 4 #[.slice x1.a x1.n x1.c,.agg #[.bool pl0.t.s,.slice pl0.t.a pl0.t.n pl0.t.c,.bool pl0.l.s,.slice pl0.l.a pl0.l.n pl0.l.c,.bool pl1.t.s,.slice pl1.t.a pl1.t.n pl1.t.c,.bool pl1.l.s,.slice pl1.l.a pl1.l.n pl1.l.c,.bool pl2.t.s,.slice pl2.t.a pl2.t.n pl2.t.c,.bool pl2.l.s,.slice pl2.l.a pl2.l.n pl2.l.c,.bool pl3.t.s,.slice pl3.t.a pl3.t.n pl3.t.c,.bool pl3.l.s,.slice pl3.l.a pl3.l.n pl3.l.c],.int .i64 n] w fun e w'=>e=.returned (.bool true)/\Below w.heap.size w w':=by
 have KG:=qh (Below.refl w.heap.size w);have N1:=qh h1;obtain⟨ha0,ha1,ha2,ha3⟩:=hq;have HA0:=qh ha0;have HA1:=qh ha1;have HA2:=qh ha2;have HA3:=qh ha3;clear ha0 ha1 ha2 ha3 h1 _hn1 _hn2;go_enter Tryz.func4,Tryz.ntmps4
 go_upto_region 1 with (fail)
 obtain⟨v2,hV⟩:∃ V,V=w.alloc (.cells #[.bool pl0.t.s,.slice pl0.t.a pl0.t.n pl0.t.c,.bool pl0.l.s,.slice pl0.l.a pl0.l.n pl0.l.c,.bool pl1.t.s,.slice pl1.t.a pl1.t.n pl1.t.c,.bool pl1.l.s,.slice pl1.l.a pl1.l.n pl1.l.c,.bool pl2.t.s,.slice pl2.t.a pl2.t.n pl2.t.c,.bool pl2.l.s,.slice pl2.l.a pl2.l.n pl2.l.c,.bool pl3.t.s,.slice pl3.t.a pl3.t.n pl3.t.c,.bool pl3.l.s,.slice pl3.l.a pl3.l.n pl3.l.c] 58):=⟨_,rfl⟩
 have hbV:Below w.heap.size w v2:=by rw[hV];exact(zk.alloc zj _)
 have BX1:=qh (show Bxs v2 (w.heap.size) 58 [.bool pl0.t.s,.slice pl0.t.a pl0.t.n pl0.t.c,.bool pl0.l.s,.slice pl0.l.a pl0.l.n pl0.l.c,.bool pl1.t.s,.slice pl1.t.a pl1.t.n pl1.t.c,.bool pl1.l.s,.slice pl1.l.a pl1.l.n pl1.l.c,.bool pl2.t.s,.slice pl2.t.a pl2.t.n pl2.t.c,.bool pl2.l.s,.slice pl2.l.a pl2.l.n pl2.l.c,.bool pl3.t.s,.slice pl3.t.a pl3.t.n pl3.t.c,.bool pl3.l.s,.slice pl3.l.a pl3.l.n pl3.l.c] by have h:=Bxs.new (w) 58 [.bool pl0.t.s,.slice pl0.t.a pl0.t.n pl0.t.c,.bool pl0.l.s,.slice pl0.l.a pl0.l.n pl0.l.c,.bool pl1.t.s,.slice pl1.t.a pl1.t.n pl1.t.c,.bool pl1.l.s,.slice pl1.l.a pl1.l.n pl1.l.c,.bool pl2.t.s,.slice pl2.t.a pl2.t.n pl2.t.c,.bool pl2.l.s,.slice pl2.l.a pl2.l.n pl2.l.c,.bool pl3.t.s,.slice pl3.t.a pl3.t.n pl3.t.c,.bool pl3.l.s,.slice pl3.l.a pl3.l.n pl3.l.c];rw[hV];exact h);rw[show w.alloc (.cells #[.bool pl0.t.s,.slice pl0.t.a pl0.t.n pl0.t.c,.bool pl0.l.s,.slice pl0.l.a pl0.l.n pl0.l.c,.bool pl1.t.s,.slice pl1.t.a pl1.t.n pl1.t.c,.bool pl1.l.s,.slice pl1.l.a pl1.l.n pl1.l.c,.bool pl2.t.s,.slice pl2.t.a pl2.t.n pl2.t.c,.bool pl2.l.s,.slice pl2.l.a pl2.l.n pl2.l.c,.bool pl3.t.s,.slice pl3.t.a pl3.t.n pl3.t.c,.bool pl3.l.s,.slice pl3.l.a pl3.l.n pl3.l.c] 58)=v2 from hV.symm];have KG:=qk KG hbV;clear hV hbV
 go_upto_region 1 with (fail)
 refine FS.Jc 24 [] (FS.JM [(1,FS.Sp.made (fun b:Nat=>Value.slice (some ⟨b,0,none⟩) 1 1) (fun b w'=>Bxs w' b 23 [.slice x1.a x1.n x1.c]) (fun _ _=>False)),(2,FS.Sp.made (fun b:Bool=>.bool b) (fun b _=>b=false->(Qs 20 (L1.map Prod.fst))) (fun _ _=>False)),(5,FS.Sp.made (fun b:Bool=>.bool b) (fun b _=>b=false->(LowL L1 12)) (fun _ _=>False)),(10,FS.Sp.made (fun z:Int=>.int .i64 z) (fun z _=>FZ pl0 z) (fun _ _=>False)),(13,FS.Sp.made (fun z:Int=>.int .i64 z) (fun z _=>FZ pl1 z) (fun _ _=>False)),(17,FS.Sp.made (fun z:Int=>.int .i64 z) (fun z _=>FZ pl2 z) (fun _ _=>False)),(21,FS.Sp.made (fun z:Int=>.int .i64 z) (fun z _=>FZ pl3 z) (fun _ _=>False))])
  (fun w'=>Below v2.heap.size v2 w') (by kernel_rfl) (by kernel_rfl) (by kernel_rfl)
  (FS.Jd (FS.Sp.Qu _ (fun T=>T==23) (fun _ _ _ h hs=>bxs_rows h hs rfl) (by kernel_rfl) (FS.JJ (by kernel_rfl))) (FS.Jd (FS.Sp.Qu _ (fun _=>false) (fun _ _ _ h _=>h) (by kernel_rfl) (FS.JJ (by kernel_rfl))) (FS.Jd (FS.Sp.Qu _ (fun _=>false) (fun _ _ _ h _=>h) (by kernel_rfl) (FS.JJ (by kernel_rfl))) (FS.Jd (FS.Sp.Qu _ (fun _=>false) (fun _ _ _ h _=>h) (by kernel_rfl) (FS.JJ (by kernel_rfl))) (FS.Jd (FS.Sp.Qu _ (fun _=>false) (fun _ _ _ h _=>h) (by kernel_rfl) (FS.JJ (by kernel_rfl))) (FS.Jd (FS.Sp.Qu _ (fun _=>false) (fun _ _ _ h _=>h) (by kernel_rfl) (FS.JJ (by kernel_rfl))) (FS.Jd (FS.Sp.Qu _ (fun _=>false) (fun _ _ _ h _=>h) (by kernel_rfl) (FS.JJ (by kernel_rfl))) (FS.Jl)))))))) (fun _ _ h hb=>h.trans (hb.mono h.size)) (zk.drew) ?_
 simp only[zu,zi,ze,zx,zy,zv,zw];refine FS.Jb rfl rfl rfl ?_ (fun w' hw'=>?_) ?_;rotate_left
 ·have hb':=hw'.world;skip;clear hw';go_simp
  try rfl
 conv=>arg 10;simp only[Act.put,zq0,zq1,zq2]
 refine FS.Jf rfl rfl rfl (fun w' hw'=>?_) ?_
 ·have hb':=hw'.world;refine FS.Jo (FS.PM (fun b:Nat=>Value.slice (some ⟨b,0,none⟩) 1 1) (fun b w'=>Bxs w' b 23 [.slice x1.a x1.n x1.c]) (fun _ _=>False) w'.heap.size) ?_ (fun _ _ h=>h.post (fun _ _ h=>by cases h;rfl));go_simp;exact⟨⟨w'.heap.size,rfl,Bxs.new w' _ _,fun _ h=>False.elim h⟩,zk.alloc zj _⟩
 rintro _ ⟨y1,rfl⟩
 conv=>arg 10;simp only[Act.put,zq0,zq1,zq2]
 refine FS.Jf rfl rfl rfl (fun w' hw'=>?_) ?_
 ·have hb':=hw'.world;refine FS.Jo (FS.PM (fun b:Bool=>.bool b) (fun b _=>b=false->(Qs 20 (L1.map Prod.fst))) (fun _ _=>False) w'.heap.size) ?_ (fun _ _ h=>h.post (fun _ _ h=>by cases h;rfl));go_simp;have f1:=FS.JE (val:=(fun b:Nat=>Value.slice (some ⟨b,0,none⟩) 1 1)) (Φ:=fun b w'=>Bxs w' b 23 [.slice x1.a x1.n x1.c]) (fun _ _ h=>by cases h;rfl) (hw'.fact 1 (by kernel_rfl));have CT:=show Calls Tryz.prog 10 #[.int .i64 20,.slice (some ⟨y1,0,none⟩) 1 1] w' _ from great1P (m:=20) f1 (N1.o.below (KG.o.trans (hb'.mono KG.o.size))) (by decide);refine CT.mono ?_;rintro e w'' ⟨b,rfl,hn,hb⟩;exact⟨_,rfl,⟨b,rfl,hn,fun _ h=>False.elim h⟩,hb⟩
 rintro _ ⟨y2,rfl⟩
 conv=>arg 10;simp only[Act.put,zq0,zq1,zq2]
 rcases Bool.eq_false_or_eq_true y2 with rfl | rfl
 ·refine FS.Jb rfl rfl rfl ?_ (fun w' hw'=>?_) ?_;rotate_left
  ·have hb':=hw'.world;skip;clear hw';go_simp
   try rfl
  conv=>arg 10;simp only[Act.put,zq0,zq1,zq2]
  iterate 2
   refine FS.Qf (by rfl) rfl ?_
   conv=>arg 10;simp only[Act.put,zq0,zq1,zq2]
  iterate 2
   refine FS.Jb rfl rfl rfl ?_ (fun w' hw'=>?_) ?_;rotate_left
   ·have hb':=hw'.world;skip;clear hw';go_simp
    try rfl
   conv=>arg 10;simp only[Act.put,zq0,zq1,zq2]
  iterate 16
   refine FS.Qf (by rfl) rfl ?_
   conv=>arg 10;simp only[Act.put,zq0,zq1,zq2]
  refine FS.Jn (fun w3 hb hF=>?_);clear hF;have BX1:=qh (BX1.o.bl hb);have KG:=qk KG hb;clear hb;go_wp2_with fail
  go_ret;exact⟨rfl,KG.o⟩
 ·refine FS.Jb rfl rfl rfl ?_ (fun w' hw'=>?_) ?_;rotate_left
  ·have hb':=hw'.world;skip;clear hw';go_simp
   try rfl
  conv=>arg 10;simp only[Act.put,zq0,zq1,zq2]
  refine FS.Jk (by rfl) rfl rfl ?_ (fun w' hw'=>?_) ?_;rotate_left
  ·have hb':=hw'.world;skip;clear hw';go_simp
   try rfl
  conv=>arg 10;simp only[Act.put,zq0,zq1,zq2]
  refine FS.JA (by rfl) rfl rfl (fun w' hw'=>?_) ?_
  ·have hb':=hw'.world;refine FS.Jo (FS.PM (fun b:Bool=>.bool b) (fun b _=>b=false->(LowL L1 12)) (fun _ _=>False) w'.heap.size) ?_ (fun _ _ h=>h.post (fun _ _ h=>by cases h;rfl));go_simp;have CT:=ptall (N1.o.below (KG.o.trans (hb'.mono KG.o.size))) (FS.JE (w:=w) (val:=fun b:Bool=>.bool b) (Φ:=fun b _=>b=false->(Qs 20 (L1.map Prod.fst))) (fun _ _ h=>by cases h;rfl) (hw'.2 2 (.more (j:=3) (by kernel_rfl) (.one (by kernel_rfl)))) rfl) (by decide);refine CT.mono ?_;rintro e w'' ⟨b,rfl,hn,hb⟩;exact⟨_,rfl,⟨b,rfl,hn,fun _ h=>False.elim h⟩,hb⟩
  rintro _ ⟨y5,rfl⟩
  conv=>arg 10;simp only[Act.put,zq0,zq1,zq2]
  refine FS.Jb rfl rfl rfl ?_ (fun w' hw'=>?_) ?_;rotate_left
  ·have hb':=hw'.world;skip;clear hw';go_simp
   try rfl
  conv=>arg 10;simp only[Act.put,zq0,zq1,zq2]
  rcases Bool.eq_false_or_eq_true y5 with rfl | rfl
  ·refine FS.Jb rfl rfl rfl ?_ (fun w' hw'=>?_) ?_;rotate_left
   ·have hb':=hw'.world;skip;clear hw';go_simp
    try rfl
   conv=>arg 10;simp only[Act.put,zq0,zq1,zq2]
   iterate 16
    refine FS.Qf (by rfl) rfl ?_
    conv=>arg 10;simp only[Act.put,zq0,zq1,zq2]
   refine FS.Jn (fun w4 hb hF=>?_);clear hF;have BX1:=qh (BX1.o.bl hb);have KG:=qk KG hb;clear hb;go_wp2_with fail
   go_ret;exact⟨rfl,KG.o⟩
  ·refine FS.Jb rfl rfl rfl ?_ (fun w' hw'=>?_) ?_;rotate_left
   ·have hb':=hw'.world;skip;clear hw';go_simp
    try rfl
   conv=>arg 10;simp only[Act.put,zq0,zq1,zq2]
   iterate 2
    refine FS.Jk (by rfl) rfl rfl ?_ (fun w' hw'=>?_) ?_;rotate_left
    ·have hb':=hw'.world;have hs0:=(BX1.o.bl hb').ce 0;have hs1:=(BX1.o.bl hb').ce 1;have hs2:=(BX1.o.bl hb').ce 2;have hs3:=(BX1.o.bl hb').ce 3;have hs4:=(BX1.o.bl hb').ce 4;have hs5:=(BX1.o.bl hb').ce 5;have hs6:=(BX1.o.bl hb').ce 6;have hs7:=(BX1.o.bl hb').ce 7;have hs8:=(BX1.o.bl hb').ce 8;have hs9:=(BX1.o.bl hb').ce 9;have hs10:=(BX1.o.bl hb').ce 10;have hs11:=(BX1.o.bl hb').ce 11;have hs12:=(BX1.o.bl hb').ce 12;have hs13:=(BX1.o.bl hb').ce 13;have hs14:=(BX1.o.bl hb').ce 14;have hs15:=(BX1.o.bl hb').ce 15;have hsf:=(BX1.o.bl hb').fz;have hsl:=(BX1.o.bl hb').lt;clear hw';go_simp
     try rfl
    conv=>arg 10;simp only[Act.put,zq0,zq1,zq2]
   refine FS.JA (by rfl) rfl rfl (fun w' hw'=>?_) ?_
   ·have hb':=hw'.world;refine FS.Jo (FS.PM (fun z:Int=>.int .i64 z) (fun z _=>FZ pl0 z) (fun _ _=>False) w'.heap.size) ?_ (fun _ _ h=>h.post (fun _ _ h=>by cases h;rfl));go_simp;have CT:=Za pl0 w' HA0.o.t HA0.o.l;refine CT.mono ?_;rintro e w'' ⟨z,rfl,hz,hb⟩;exact⟨_,rfl,⟨z,rfl,hz,fun _ h=>False.elim h⟩,hb⟩
   rintro _ ⟨y10,rfl⟩
   conv=>arg 10;simp only[Act.put,zq0,zq1,zq2]
   iterate 2
    refine FS.Jk (by rfl) rfl rfl ?_ (fun w' hw'=>?_) ?_;rotate_left
    ·have hb':=hw'.world;have hs0:=(BX1.o.bl hb').ce 0;have hs1:=(BX1.o.bl hb').ce 1;have hs2:=(BX1.o.bl hb').ce 2;have hs3:=(BX1.o.bl hb').ce 3;have hs4:=(BX1.o.bl hb').ce 4;have hs5:=(BX1.o.bl hb').ce 5;have hs6:=(BX1.o.bl hb').ce 6;have hs7:=(BX1.o.bl hb').ce 7;have hs8:=(BX1.o.bl hb').ce 8;have hs9:=(BX1.o.bl hb').ce 9;have hs10:=(BX1.o.bl hb').ce 10;have hs11:=(BX1.o.bl hb').ce 11;have hs12:=(BX1.o.bl hb').ce 12;have hs13:=(BX1.o.bl hb').ce 13;have hs14:=(BX1.o.bl hb').ce 14;have hs15:=(BX1.o.bl hb').ce 15;have hsf:=(BX1.o.bl hb').fz;have hsl:=(BX1.o.bl hb').lt;clear hw';go_simp
     try rfl
    conv=>arg 10;simp only[Act.put,zq0,zq1,zq2]
   refine FS.JA (by rfl) rfl rfl (fun w' hw'=>?_) ?_
   ·have hb':=hw'.world;refine FS.Jo (FS.PM (fun z:Int=>.int .i64 z) (fun z _=>FZ pl1 z) (fun _ _=>False) w'.heap.size) ?_ (fun _ _ h=>h.post (fun _ _ h=>by cases h;rfl));go_simp;have CT:=Za pl1 w' HA1.o.t HA1.o.l;refine CT.mono ?_;rintro e w'' ⟨z,rfl,hz,hb⟩;exact⟨_,rfl,⟨z,rfl,hz,fun _ h=>False.elim h⟩,hb⟩
   rintro _ ⟨y13,rfl⟩
   conv=>arg 10;simp only[Act.put,zq0,zq1,zq2]
   refine FS.Jk (by rfl) rfl rfl ?_ (fun w' hw'=>?_) ?_;rotate_left
   ·have hb':=hw'.world;have z0:=(FS.JE (w:=w) (val:=fun z:Int=>.int .i64 z) (Φ:=fun z _=>FZ pl0 z) (fun _ _ h=>by cases h;rfl) (hw'.2 10 (.one (by kernel_rfl))));have z1:=(FS.JE (w:=w) (val:=fun z:Int=>.int .i64 z) (Φ:=fun z _=>FZ pl1 z) (fun _ _ h=>by cases h;rfl) (hw'.2 13 (.one (by kernel_rfl))));have ew:IntKind.i64.wrap (y10+y13)=y10+y13:=IntWalk.i64_in _ (by have a0:=z0.lo;have b0:=z0.hi;have a1:=z1.lo;have b1:=z1.hi;omega);clear hw';go_simp
    try rfl
   conv=>arg 10;simp only[Act.put,zq0,zq1,zq2]
   iterate 2
    refine FS.Jk (by rfl) rfl rfl ?_ (fun w' hw'=>?_) ?_;rotate_left
    ·have hb':=hw'.world;have hs0:=(BX1.o.bl hb').ce 0;have hs1:=(BX1.o.bl hb').ce 1;have hs2:=(BX1.o.bl hb').ce 2;have hs3:=(BX1.o.bl hb').ce 3;have hs4:=(BX1.o.bl hb').ce 4;have hs5:=(BX1.o.bl hb').ce 5;have hs6:=(BX1.o.bl hb').ce 6;have hs7:=(BX1.o.bl hb').ce 7;have hs8:=(BX1.o.bl hb').ce 8;have hs9:=(BX1.o.bl hb').ce 9;have hs10:=(BX1.o.bl hb').ce 10;have hs11:=(BX1.o.bl hb').ce 11;have hs12:=(BX1.o.bl hb').ce 12;have hs13:=(BX1.o.bl hb').ce 13;have hs14:=(BX1.o.bl hb').ce 14;have hs15:=(BX1.o.bl hb').ce 15;have hsf:=(BX1.o.bl hb').fz;have hsl:=(BX1.o.bl hb').lt;clear hw';go_simp
     try rfl
    conv=>arg 10;simp only[Act.put,zq0,zq1,zq2]
   refine FS.JA (by rfl) rfl rfl (fun w' hw'=>?_) ?_
   ·have hb':=hw'.world;refine FS.Jo (FS.PM (fun z:Int=>.int .i64 z) (fun z _=>FZ pl2 z) (fun _ _=>False) w'.heap.size) ?_ (fun _ _ h=>h.post (fun _ _ h=>by cases h;rfl));go_simp;have CT:=Za pl2 w' HA2.o.t HA2.o.l;refine CT.mono ?_;rintro e w'' ⟨z,rfl,hz,hb⟩;exact⟨_,rfl,⟨z,rfl,hz,fun _ h=>False.elim h⟩,hb⟩
   rintro _ ⟨y17,rfl⟩
   conv=>arg 10;simp only[Act.put,zq0,zq1,zq2]
   refine FS.Jk (by rfl) rfl rfl ?_ (fun w' hw'=>?_) ?_;rotate_left
   ·have hb':=hw'.world;have z0:=(FS.JE (w:=w) (val:=fun z:Int=>.int .i64 z) (Φ:=fun z _=>FZ pl0 z) (fun _ _ h=>by cases h;rfl) (hw'.2 10 (.more (j:=14) (by kernel_rfl) (.one (by kernel_rfl)))));have z1:=(FS.JE (w:=w) (val:=fun z:Int=>.int .i64 z) (Φ:=fun z _=>FZ pl1 z) (fun _ _ h=>by cases h;rfl) (hw'.2 13 (.more (j:=14) (by kernel_rfl) (.one (by kernel_rfl)))));have z2:=(FS.JE (w:=w) (val:=fun z:Int=>.int .i64 z) (Φ:=fun z _=>FZ pl2 z) (fun _ _ h=>by cases h;rfl) (hw'.2 17 (.one (by kernel_rfl))));have ew:IntKind.i64.wrap (y10+y13+y17)=y10+y13+y17:=IntWalk.i64_in _ (by have a0:=z0.lo;have b0:=z0.hi;have a1:=z1.lo;have b1:=z1.hi;have a2:=z2.lo;have b2:=z2.hi;omega);clear hw';go_simp
    try rfl
   conv=>arg 10;simp only[Act.put,zq0,zq1,zq2]
   iterate 2
    refine FS.Jk (by rfl) rfl rfl ?_ (fun w' hw'=>?_) ?_;rotate_left
    ·have hb':=hw'.world;have hs0:=(BX1.o.bl hb').ce 0;have hs1:=(BX1.o.bl hb').ce 1;have hs2:=(BX1.o.bl hb').ce 2;have hs3:=(BX1.o.bl hb').ce 3;have hs4:=(BX1.o.bl hb').ce 4;have hs5:=(BX1.o.bl hb').ce 5;have hs6:=(BX1.o.bl hb').ce 6;have hs7:=(BX1.o.bl hb').ce 7;have hs8:=(BX1.o.bl hb').ce 8;have hs9:=(BX1.o.bl hb').ce 9;have hs10:=(BX1.o.bl hb').ce 10;have hs11:=(BX1.o.bl hb').ce 11;have hs12:=(BX1.o.bl hb').ce 12;have hs13:=(BX1.o.bl hb').ce 13;have hs14:=(BX1.o.bl hb').ce 14;have hs15:=(BX1.o.bl hb').ce 15;have hsf:=(BX1.o.bl hb').fz;have hsl:=(BX1.o.bl hb').lt;clear hw';go_simp
     try rfl
    conv=>arg 10;simp only[Act.put,zq0,zq1,zq2]
   refine FS.JA (by rfl) rfl rfl (fun w' hw'=>?_) ?_
   ·have hb':=hw'.world;refine FS.Jo (FS.PM (fun z:Int=>.int .i64 z) (fun z _=>FZ pl3 z) (fun _ _=>False) w'.heap.size) ?_ (fun _ _ h=>h.post (fun _ _ h=>by cases h;rfl));go_simp;have CT:=Za pl3 w' HA3.o.t HA3.o.l;refine CT.mono ?_;rintro e w'' ⟨z,rfl,hz,hb⟩;exact⟨_,rfl,⟨z,rfl,hz,fun _ h=>False.elim h⟩,hb⟩
   rintro _ ⟨y21,rfl⟩
   conv=>arg 10;simp only[Act.put,zq0,zq1,zq2]
   refine FS.Jk (by rfl) rfl rfl ?_ (fun w' hw'=>?_) ?_;rotate_left
   ·have hb':=hw'.world;have z0:=(FS.JE (w:=w) (val:=fun z:Int=>.int .i64 z) (Φ:=fun z _=>FZ pl0 z) (fun _ _ h=>by cases h;rfl) (hw'.2 10 (.more (j:=18) (by kernel_rfl) (.more (j:=14) (by kernel_rfl) (.one (by kernel_rfl))))));have z1:=(FS.JE (w:=w) (val:=fun z:Int=>.int .i64 z) (Φ:=fun z _=>FZ pl1 z) (fun _ _ h=>by cases h;rfl) (hw'.2 13 (.more (j:=18) (by kernel_rfl) (.more (j:=14) (by kernel_rfl) (.one (by kernel_rfl))))));have z2:=(FS.JE (w:=w) (val:=fun z:Int=>.int .i64 z) (Φ:=fun z _=>FZ pl2 z) (fun _ _ h=>by cases h;rfl) (hw'.2 17 (.more (j:=18) (by kernel_rfl) (.one (by kernel_rfl)))));have z3:=(FS.JE (w:=w) (val:=fun z:Int=>.int .i64 z) (Φ:=fun z _=>FZ pl3 z) (fun _ _ h=>by cases h;rfl) (hw'.2 21 (.one (by kernel_rfl))));have ew:IntKind.i64.wrap (y10+y13+y17+y21)=y10+y13+y17+y21:=IntWalk.i64_in _ (by have a0:=z0.lo;have b0:=z0.hi;have a1:=z1.lo;have b1:=z1.hi;have a2:=z2.lo;have b2:=z2.hi;have a3:=z3.lo;have b3:=z3.hi;omega);clear hw';go_simp
    try rfl
   conv=>arg 10;simp only[Act.put,zq0,zq1,zq2]
   refine FS.Jk (by rfl) rfl rfl ?_ (fun w' hw'=>?_) ?_;rotate_left
   ·have hb':=hw'.world;skip;clear hw';go_simp
    try rfl
   conv=>arg 10;simp only[Act.put,zq0,zq1,zq2]
   refine FS.Jn (fun w5 hb hF=>?_);have Gx1:=qh (FS.JE (w:=w) (val:=fun b:Bool=>.bool b) (Φ:=fun b _=>b=false->(Qs 20 (L1.map Prod.fst))) (fun _ _ h=>by cases h;rfl) (hF.all 2) rfl);have Wx1:=qh (FS.JE (w:=w) (val:=fun b:Bool=>.bool b) (Φ:=fun b _=>b=false->(LowL L1 12)) (fun _ _ h=>by cases h;rfl) (hF.all 5) rfl);have Z0:=qh (FS.JE (w:=w) (val:=fun z:Int=>.int .i64 z) (Φ:=fun z _=>FZ pl0 z) (fun _ _ h=>by cases h;rfl) (hF.all 10));have Z1:=qh (FS.JE (w:=w) (val:=fun z:Int=>.int .i64 z) (Φ:=fun z _=>FZ pl1 z) (fun _ _ h=>by cases h;rfl) (hF.all 13));have Z2:=qh (FS.JE (w:=w) (val:=fun z:Int=>.int .i64 z) (Φ:=fun z _=>FZ pl2 z) (fun _ _ h=>by cases h;rfl) (hF.all 17));have Z3:=qh (FS.JE (w:=w) (val:=fun z:Int=>.int .i64 z) (Φ:=fun z _=>FZ pl3 z) (fun _ _ h=>by cases h;rfl) (hF.all 21));clear hF;have BX1:=qh (BX1.o.bl hb);have KG:=qk KG hb;clear hb;by_cases h30:y10+y13+y17+y21>40
   ·have h30b:40<y10+y13+y17+y21:=h30;go_wp2_with fail
    go_ret;exact⟨rfl,KG.o⟩
   have h30b:¬(40<y10+y13+y17+y21):=h30
   go_upto_region 3 with (fail)
   have LF0:=qh (show LF pl0 40 from jam (K:=40) (by decide) Z0.o (by have a0:=Z0.o.lo;have a1:=Z1.o.lo;have a2:=Z2.o.lo;have a3:=Z3.o.lo;omega));have LF1:=qh (show LF pl1 40 from jam (K:=40) (by decide) Z1.o (by have a0:=Z0.o.lo;have a1:=Z1.o.lo;have a2:=Z2.o.lo;have a3:=Z3.o.lo;omega));have LF2:=qh (show LF pl2 40 from jam (K:=40) (by decide) Z2.o (by have a0:=Z0.o.lo;have a1:=Z1.o.lo;have a2:=Z2.o.lo;have a3:=Z3.o.lo;omega));have LF3:=qh (show LF pl3 40 from jam (K:=40) (by decide) Z3.o (by have a0:=Z0.o.lo;have a1:=Z1.o.lo;have a2:=Z2.o.lo;have a3:=Z3.o.lo;omega));clear h30 h30b;obtain⟨l,okl,hl⟩:=la_ofK (by decide) HA0.o HA1.o HA2.o HA3.o LF0.o LF1.o LF2.o LF3.o;have HL4:=qh (hl.below KG.o);clear hl;clear HA0 HA1 HA2 HA3 LF0 LF1 LF2 LF3 Z0 Z1 Z2 Z3;obtain⟨P1,ok1,hsa⟩:=sa_of (E:=12) N1.o Gx1.o (fun e he=>Wx1.o e he) (by decide);have HXN1:=qh (show x1.n<=20 from by have h1:=(Gx1.o).1;have h2:=N1.o.2.1;rw[List.length_map] at h1;omega);have HPC1:=qh hsa.b;have HA1:=qh (hsa.below KG.o);clear hsa;obtain⟨o,c1,hlo,hb1,hb2⟩:=both_at HA1.o HL4.o (by decide) (by decide) (by decide) (by decide) (by decide);have LO1:=qh hlo;have BA1:=qh hb1;have BA2:=qh hb2;clear hlo hb1 hb2;obtain⟨R,c2,hrq,hrn,hs1,hs2⟩:=jdo HA1.o (by decide) (by decide) (by decide) (by decide) n;have RQ:=qh hrq;have RN:=qh hrn;have BS1:=qh hs1;have BS2:=qh hs2;clear hrq hrn hs1 hs2 N1 Gx1 Wx1;have W1:=qh (show Bt w5 w5 from⟨zk⟩)
   have IG1:=qh (KG.o.size);have CT:=qh (show Calls Tryz.prog 12 #[.slice x1.a x1.n x1.c] w5 _ from twin_sa HA1.o (by decide));go_wp2_with fail
   with_reducible refine CT.o.mono ?_
   rintro e w1 ⟨y1,rfl,hyn,hya,htw,hb⟩;clear CT;have KG:=qk KG hb;have BX1:=qh (BX1.o.bl hb);have HL4:=qh (HL4.o.below hb);have HA1:=qh (HA1.o.below hb);have W1:=qh (W1.o.below hb);have HYN1:=qh hyn;have HY1:=qh hya;have HT1:=qh htw;clear hyn hya;have G1:=qh (show GP w1 y1 (0) w5.heap.size w1.heap.size from Tw2.gp htw (by have:=HXN1.o;omega) hb.size (by have:=HXN1.o;omega));clear hb;clear htw;have cL:=load16 BX1.o;have IG2:=qh (G1.o.le);have CT:=qh (show Calls Tryz.prog 27 #[.slice y1.a y1.n y1.c,.agg #[.bool pl0.t.s,.slice pl0.t.a pl0.t.n pl0.t.c,.bool pl0.l.s,.slice pl0.l.a pl0.l.n pl0.l.c,.bool pl1.t.s,.slice pl1.t.a pl1.t.n pl1.t.c,.bool pl1.l.s,.slice pl1.l.a pl1.l.n pl1.l.c,.bool pl2.t.s,.slice pl2.t.a pl2.t.n pl2.t.c,.bool pl2.l.s,.slice pl2.l.a pl2.l.n pl2.l.c,.bool pl3.t.s,.slice pl3.t.a pl3.t.n pl3.t.c,.bool pl3.l.s,.slice pl3.l.a pl3.l.n pl3.l.c]] w1 _ from BA1.o _ y1 HY1.o HL4.o);go_wp2_with (refine Yw rfl rfl rfl cL ?_)
   with_reducible refine CT.o.mono ?_
   rintro e w2 ⟨z1,rfl,hz,hb⟩;clear CT cL;have KG:=qk KG hb;have BX1:=qh (BX1.o.bl hb);have HL4:=qh (HL4.o.below hb);have HA1:=qh (HA1.o.below hb);have W1:=qh (W1.o.below hb);have G1:=qh (G1.o.below hb);have HY1:=qh (HY1.o.below hb);have HT1:=qh (HT1.o.below hb);have D1:=qh hz;have G2:=qh (show GF w2 z1 (0+2*y1.n+1) w1.heap.size w2.heap.size from DO.gf hz LO1.o hb.size (by have:=HXN1.o;have:=HYN1.o;omega));clear hb;clear hz
   go_upto_region 5 with (fail)
   obtain⟨w3,hV⟩:∃ V,V=w2.alloc (.cells #[.bool z1.t.s,.slice z1.t.a z1.t.n z1.t.c,.bool z1.l.s,.slice z1.l.a z1.l.n z1.l.c] 28):=⟨_,rfl⟩
   have hb:Below w2.heap.size w2 w3:=by rw[hV];exact zk.alloc zj _
   have BX8:=qh (show Bxs w3 w2.heap.size 28 [.bool z1.t.s,.slice z1.t.a z1.t.n z1.t.c,.bool z1.l.s,.slice z1.l.a z1.l.n z1.l.c] by rw[hV];exact Bxs.new w2 28 [.bool z1.t.s,.slice z1.t.a z1.t.n z1.t.c,.bool z1.l.s,.slice z1.l.a z1.l.n z1.l.c]);obtain⟨ABX8,hA⟩:∃ A,A=w2.heap.size:=⟨_,rfl⟩;rw[<- hV,<- hA];rw[<- hA] at BX8;have HBX8:=qh hA;clear hA hV;have KG:=qk KG hb;have BX1:=qh (BX1.o.bl hb);have HL4:=qh (HL4.o.below hb);have HA1:=qh (HA1.o.below hb);have W1:=qh (W1.o.below hb);have G1:=qh (G1.o.below hb);have HY1:=qh (HY1.o.below hb);have HT1:=qh (HT1.o.below hb);have G2:=qh (G2.o.below hb);have D1:=qh (D1.o.below hb);clear hb;have Qz2:=qh (show ∀ t∈R,LQ t.2 900000 from fun t ht=>(RQ.o t ht).up (by decide));have Lz2:=qh (show R.length<=20 from RN.o);have IG3:=qh (G2.o.le);have cBX80:=BX8.o.ce 0;have cBX81:=BX8.o.ce 1;have cBX82:=BX8.o.ce 2;have cBX83:=BX8.o.ce 3;have CT:=qh (show Calls Tryz.prog 28 #[.slice y1.a y1.n y1.c,.int .i64 n] w3 _ from BS1.o _ y1 HY1.o);go_wp2_with fail
   with_reducible refine CT.o.mono ?_
   rintro e w4 ⟨z2,rfl,hz,hb⟩;clear CT cBX80 cBX81 cBX82 cBX83;have KG:=qk KG hb;have BX1:=qh (BX1.o.bl hb);have HL4:=qh (HL4.o.below hb);have HA1:=qh (HA1.o.below hb);have W1:=qh (W1.o.below hb);have G1:=qh (G1.o.below hb);have HY1:=qh (HY1.o.below hb);have HT1:=qh (HT1.o.below hb);have G2:=qh (G2.o.below hb);have D1:=qh (D1.o.below hb);have BX8:=qh (BX8.o.bl hb);have Dz2:=qh hz;have HNz2:=qh hz.k.len;have G3:=qh (show GP w4 z2 (0+2*y1.n+1+2) w3.heap.size w4.heap.size from DP.gp hz Qz2.o (by have:=HXN1.o;have:=HYN1.o;have:=Lz2.o;omega) hb.size (by have:=hz.k.len;have:=HXN1.o;have:=HYN1.o;have:=Lz2.o;omega));clear hb;clear hz;have cL:=load16 BX1.o;have cBX80:=BX8.o.ce 0;have cBX81:=BX8.o.ce 1;have cBX82:=BX8.o.ce 2;have cBX83:=BX8.o.ce 3;have CT:=qh (show Calls Tryz.prog 29 #[.slice x1.a x1.n x1.c,.agg #[.bool pl0.t.s,.slice pl0.t.a pl0.t.n pl0.t.c,.bool pl0.l.s,.slice pl0.l.a pl0.l.n pl0.l.c,.bool pl1.t.s,.slice pl1.t.a pl1.t.n pl1.t.c,.bool pl1.l.s,.slice pl1.l.a pl1.l.n pl1.l.c,.bool pl2.t.s,.slice pl2.t.a pl2.t.n pl2.t.c,.bool pl2.l.s,.slice pl2.l.a pl2.l.n pl2.l.c,.bool pl3.t.s,.slice pl3.t.a pl3.t.n pl3.t.c,.bool pl3.l.s,.slice pl3.l.a pl3.l.n pl3.l.c]] w4 _ from BA2.o _ x1 HA1.o HL4.o);go_wp2_with (refine Yw rfl rfl rfl cL ?_)
   with_reducible refine CT.o.mono ?_
   rintro e w5 ⟨u1,rfl,hu,hb⟩;clear CT cL cBX80 cBX81 cBX82 cBX83;have KG:=qk KG hb;have BX1:=qh (BX1.o.bl hb);have HL4:=qh (HL4.o.below hb);have HA1:=qh (HA1.o.below hb);have W1:=qh (W1.o.below hb);have G1:=qh (G1.o.below hb);have HY1:=qh (HY1.o.below hb);have HT1:=qh (HT1.o.below hb);have G2:=qh (G2.o.below hb);have D1:=qh (D1.o.below hb);have BX8:=qh (BX8.o.bl hb);have G3:=qh (G3.o.below hb);have Dz2:=qh (Dz2.o.below hb);have E1:=qh hu;clear hu;clear hb;have cBX80:=BX8.o.ce 0;have cBX81:=BX8.o.ce 1;have cBX82:=BX8.o.ce 2;have cBX83:=BX8.o.ce 3
   go_upto_region 7 with (fail)
   obtain⟨w6,hV⟩:∃ V,V=w5.alloc (.cells #[.bool u1.t.s,.slice u1.t.a u1.t.n u1.t.c,.bool u1.l.s,.slice u1.l.a u1.l.n u1.l.c] 28):=⟨_,rfl⟩
   have hb:Below w5.heap.size w5 w6:=by rw[hV];exact zk.alloc zj _
   have BX12:=qh (show Bxs w6 w5.heap.size 28 [.bool u1.t.s,.slice u1.t.a u1.t.n u1.t.c,.bool u1.l.s,.slice u1.l.a u1.l.n u1.l.c] by rw[hV];exact Bxs.new w5 28 [.bool u1.t.s,.slice u1.t.a u1.t.n u1.t.c,.bool u1.l.s,.slice u1.l.a u1.l.n u1.l.c]);obtain⟨ABX12,hA⟩:∃ A,A=w5.heap.size:=⟨_,rfl⟩;rw[<- hV,<- hA];rw[<- hA] at BX12;have HBX12:=qh hA;clear hA hV cBX80 cBX81 cBX82 cBX83;have KG:=qk KG hb;have BX1:=qh (BX1.o.bl hb);have HL4:=qh (HL4.o.below hb);have HA1:=qh (HA1.o.below hb);have W1:=qh (W1.o.below hb);have G1:=qh (G1.o.below hb);have HY1:=qh (HY1.o.below hb);have HT1:=qh (HT1.o.below hb);have G2:=qh (G2.o.below hb);have D1:=qh (D1.o.below hb);have BX8:=qh (BX8.o.bl hb);have G3:=qh (G3.o.below hb);have Dz2:=qh (Dz2.o.below hb);have E1:=qh (E1.o.below hb);clear hb;have cBX80:=BX8.o.ce 0;have cBX81:=BX8.o.ce 1;have cBX82:=BX8.o.ce 2;have cBX83:=BX8.o.ce 3;have cBX120:=BX12.o.ce 0;have cBX121:=BX12.o.ce 1;have cBX122:=BX12.o.ce 2;have cBX123:=BX12.o.ce 3;have CT:=qh (show Calls Tryz.prog 30 #[.slice x1.a x1.n x1.c,.int .i64 n] w6 _ from BS2.o _ x1 HA1.o);go_wp2_with fail
   with_reducible refine CT.o.mono ?_
   rintro e w7 ⟨u2,rfl,hu,hb⟩;clear CT cBX80 cBX81 cBX82 cBX83 cBX120 cBX121 cBX122 cBX123;have KG:=qk KG hb;have BX1:=qh (BX1.o.bl hb);have HL4:=qh (HL4.o.below hb);have HA1:=qh (HA1.o.below hb);have W1:=qh (W1.o.below hb);have G1:=qh (G1.o.below hb);have HY1:=qh (HY1.o.below hb);have HT1:=qh (HT1.o.below hb);have G2:=qh (G2.o.below hb);have D1:=qh (D1.o.below hb);have BX8:=qh (BX8.o.bl hb);have G3:=qh (G3.o.below hb);have Dz2:=qh (Dz2.o.below hb);have E1:=qh (E1.o.below hb);have BX12:=qh (BX12.o.bl hb);have Eu2:=qh hu.k;clear hu;clear hb
   have e1:(c1 != c1)=false:=by simp
   have e2:(c2 != c2)=false:=by simp
   have cBX80:=BX8.o.ce 0;have cBX81:=BX8.o.ce 1;have cBX82:=BX8.o.ce 2;have cBX83:=BX8.o.ce 3;have cBX120:=BX12.o.ce 0;have cBX121:=BX12.o.ce 1;have cBX122:=BX12.o.ce 2;have cBX123:=BX12.o.ce 3;have CT:=qh (show Calls Tryz.prog 31 #[.agg #[.bool z1.t.s,.slice z1.t.a z1.t.n z1.t.c,.bool z1.l.s,.slice z1.l.a z1.l.n z1.l.c],.agg #[.bool u1.t.s,.slice u1.t.a u1.t.n u1.t.c,.bool u1.l.s,.slice u1.l.a u1.l.n u1.l.c]] w7 _ from DO.same D1.o E1.o LO1.o);go_wp2_with fail
   with_reducible refine CT.o.mono ?_
   rintro e w8 ⟨rfl,hb⟩;clear CT cBX80 cBX81 cBX82 cBX83 cBX120 cBX121 cBX122 cBX123;have KG:=qk KG hb;have BX1:=qh (BX1.o.bl hb);have HL4:=qh (HL4.o.below hb);have HA1:=qh (HA1.o.below hb);have W1:=qh (W1.o.below hb);have G1:=qh (G1.o.below hb);have HY1:=qh (HY1.o.below hb);have HT1:=qh (HT1.o.below hb);have G2:=qh (G2.o.below hb);have D1:=qh (D1.o.below hb);have BX8:=qh (BX8.o.bl hb);have G3:=qh (G3.o.below hb);have Dz2:=qh (Dz2.o.below hb);have E1:=qh (E1.o.below hb);have BX12:=qh (BX12.o.bl hb);have Eu2:=qh (Eu2.o.below hb);clear hb;have cBX80:=BX8.o.ce 0;have cBX81:=BX8.o.ce 1;have cBX82:=BX8.o.ce 2;have cBX83:=BX8.o.ce 3;have cBX120:=BX12.o.ce 0;have cBX121:=BX12.o.ce 1;have cBX122:=BX12.o.ce 2;have cBX123:=BX12.o.ce 3;have CT:=qh (show Calls Tryz.prog 18 #[.slice z2.a z2.n z2.c,.slice u2.a u2.n u2.c] w8 _ from same_k z2 u2 _ w8 Dz2.o.k Eu2.o Qz2.o (by have:=Lz2.o;omega));go_wp2_with fail
   with_reducible refine CT.o.mono ?_
   rintro e w9 ⟨rfl,hb⟩;clear CT cBX80 cBX81 cBX82 cBX83 cBX120 cBX121 cBX122 cBX123;have KG:=qk KG hb;have BX1:=qh (BX1.o.bl hb);have HL4:=qh (HL4.o.below hb);have HA1:=qh (HA1.o.below hb);have W1:=qh (W1.o.below hb);have G1:=qh (G1.o.below hb);have HY1:=qh (HY1.o.below hb);have HT1:=qh (HT1.o.below hb);have G2:=qh (G2.o.below hb);have D1:=qh (D1.o.below hb);have BX8:=qh (BX8.o.bl hb);have G3:=qh (G3.o.below hb);have Dz2:=qh (Dz2.o.below hb);have E1:=qh (E1.o.below hb);have BX12:=qh (BX12.o.bl hb);have Eu2:=qh (Eu2.o.below hb);clear hb;have cBX80:=BX8.o.ce 0;have cBX81:=BX8.o.ce 1;have cBX82:=BX8.o.ce 2;have cBX83:=BX8.o.ce 3;have cBX120:=BX12.o.ce 0;have cBX121:=BX12.o.ce 1;have cBX122:=BX12.o.ce 2;have cBX123:=BX12.o.ce 3;have CT:=qh (show Calls Tryz.prog 21 #[.slice y1.a y1.n y1.c,.slice x1.a x1.n x1.c] w9 _ from HT1.o.left W1.o.b (by have:=HXN1.o;omega));go_wp2_with fail
   with_reducible refine CT.o.mono ?_
   rintro e w10 ⟨rfl,hb⟩;clear CT cBX80 cBX81 cBX82 cBX83 cBX120 cBX121 cBX122 cBX123;have KG:=qk KG hb;have BX1:=qh (BX1.o.bl hb);have HL4:=qh (HL4.o.below hb);have HA1:=qh (HA1.o.below hb);have W1:=qh (W1.o.below hb);have G1:=qh (G1.o.below hb);have HY1:=qh (HY1.o.below hb);have HT1:=qh (HT1.o.below hb);have G2:=qh (G2.o.below hb);have D1:=qh (D1.o.below hb);have BX8:=qh (BX8.o.bl hb);have G3:=qh (G3.o.below hb);have Dz2:=qh (Dz2.o.below hb);have E1:=qh (E1.o.below hb);have BX12:=qh (BX12.o.bl hb);have Eu2:=qh (Eu2.o.below hb);clear hb;clear BX12 D1 E1 Dz2 Eu2 HT1 HA1 HY1 W1 HL4 BX1;have HKW:=qh (show w.heap.size<=w10.heap.size from KG.o.size);have JG1:=qh G1.o.le;have JG2:=qh G2.o.le;have JG3:=qh G3.o.le;have cBX80:=BX8.o.ce 0;have cBX81:=BX8.o.ce 1;have cBX82:=BX8.o.ce 2;have cBX83:=BX8.o.ce 3
   go_upto_region 11 with (fail)
   obtain⟨w11,hV⟩:∃ V,V=w10.alloc (.cells book0 53):=⟨_,rfl⟩
   have hb:Below w10.heap.size w10 w11:=by rw[hV];exact zk.alloc zj _
   have HB:=qh (show BG w11 w10.heap.size w10.heap.size 0 w.heap.size w.heap.size 0 0 by rw[hV];exact BG.new w10 KG.o.size);rw[show w10.alloc (.cells #[.int .i64 0,.slice none 0 0,.slice none 0 0,.slice none 0 0,.slice none 0 0,.slice none 0 0,.slice none 0 0,.slice none 0 0,.slice none 0 0,.slice none 0 0,.slice none 0 0,.slice none 0 0,.slice none 0 0] 53)=w11 from hV.symm];have KG:=qk KG hb;have G1:=qh (G1.o.below hb);have G2:=qh (G2.o.below hb);have BX8:=qh (BX8.o.bl hb);have G3:=qh (G3.o.below hb);obtain⟨bs,hbs⟩:∃ b,b=w10.heap.size:=⟨_,rfl⟩;rw[<- hbs] at JG1;rw[<- hbs] at JG2;rw[<- hbs] at JG3;have HBW:=qh (show w.heap.size<=bs by rw[hbs];exact(show w.heap.size<=w10.heap.size from HKW.o));rw[<- hbs] at HB ⊢;clear hbs hV hb HKW cBX80 cBX81 cBX82 cBX83;have cBX80:=BX8.o.ce 0;have cBX81:=BX8.o.ce 1;have cBX82:=BX8.o.ce 2;have cBX83:=BX8.o.ce 3;have CT:=qh (show Calls Tryz.prog 23 #[.pointer (some ⟨bs,0,none⟩),.slice y1.a y1.n y1.c] w11 _ from HB.o.polyP G1.o IG1.o JG1.o (by have:=HXN1.o;have:=HYN1.o;have:=Lz2.o;have:=HNz2.o;omega));go_wp2_with fail
   with_reducible refine CT.o.mono ?_
   rintro e w12 ⟨⟨r,rfl⟩,hB,hk⟩;have HB:=qh hB;have KG:=qh (KG.o.trans (hk.bel.mono HBW.o));have G2:=qh (G2.o.Q4 hk JG2.o);have G3:=qh (G3.o.Q4 hk JG3.o);have BX8:=qh (Bxs.Q4 BX8.o hk (by decide));clear CT hB hk G1 IG1 cBX80 cBX81 cBX82 cBX83;have cBX80:=BX8.o.ce 0;have cBX81:=BX8.o.ce 1;have cBX82:=BX8.o.ce 2;have cBX83:=BX8.o.ce 3;have CT:=qh (show Calls Tryz.prog 24 #[.pointer (some ⟨bs,0,none⟩),.agg #[.bool z1.t.s,.slice z1.t.a z1.t.n z1.t.c,.bool z1.l.s,.slice z1.l.a z1.l.n z1.l.c]] w12 _ from HB.o.fracP G2.o IG2.o JG2.o (by have:=HXN1.o;have:=HYN1.o;have:=Lz2.o;have:=HNz2.o;omega));go_wp2_with fail
   with_reducible refine CT.o.mono ?_
   rintro e w13 ⟨⟨r,rfl⟩,hB,hk⟩;have HB:=qh hB;have KG:=qh (KG.o.trans (hk.bel.mono HBW.o));have G3:=qh (G3.o.Q4 hk JG3.o);have BX8:=qh (Bxs.Q4 BX8.o hk (by decide));clear CT hB hk G2 IG2 cBX80 cBX81 cBX82 cBX83;have cBX80:=BX8.o.ce 0;have cBX81:=BX8.o.ce 1;have cBX82:=BX8.o.ce 2;have cBX83:=BX8.o.ce 3;have CT:=qh (show Calls Tryz.prog 23 #[.pointer (some ⟨bs,0,none⟩),.slice z2.a z2.n z2.c] w13 _ from HB.o.polyP G3.o IG3.o JG3.o (by have:=HXN1.o;have:=HYN1.o;have:=Lz2.o;have:=HNz2.o;omega));go_wp2_with fail
   with_reducible refine CT.o.mono ?_
   rintro e w14 ⟨⟨r,rfl⟩,hB,hk⟩;have HB:=qh hB;have KG:=qh (KG.o.trans (hk.bel.mono HBW.o));have BX8:=qh (Bxs.Q4 BX8.o hk (by decide));clear CT hB hk G3 IG3 cBX80 cBX81 cBX82 cBX83;have CT:=qh (show Calls Tryz.prog 25 #[.pointer (some ⟨bs,0,none⟩)] w14 _ from HB.o.apartA (by omega) (by have:=HXN1.o;have:=HYN1.o;have:=Lz2.o;have:=HNz2.o;omega));go_wp2_with fail
   with_reducible refine CT.o.mono ?_
   rintro e w15 ⟨rfl,hb⟩;go_wp2_with fail
   go_ret;exact⟨rfl,KG.o.trans hb⟩
end Pol
namespace Limb
open Go.RowKit Go.Sort Pol
open Go.ChangeShapes Go.WideShapes Go.ChangeAt
namespace PolysAtC
theorem own:ownKnob Tryz.prog.godebug=none:=by kernel_rfl
theorem laidOut:laidOutB Tryz.prog=true:=by kernel_rfl
noncomputable def Yd (os:Os):World :=
 { World.holding Tryz.prog os ⟨#[],#[],[]⟩ with heap:=((((World.holding Tryz.prog os ⟨#[],#[],[]⟩).heap.modify 0 fun
   | .cells _ t frozen=>.cells #[.int .u64 1,.int .u64 10,.int .u64 100,.int .u64 1000,.int .u64 10000,.int .u64 100000,.int .u64 1000000,.int .u64 10000000,.int .u64 100000000,.int .u64 1000000000,.int .u64 10000000000,.int .u64 100000000000,.int .u64 1000000000000,.int .u64 10000000000000,.int .u64 100000000000000,.int .u64 1000000000000000,.int .u64 10000000000000000,.int .u64 100000000000000000,.int .u64 1000000000000000000,.int .u64 10000000000000000000] t frozen
   | o=>o).modify 1 fun
   | .cells _ t frozen=>.cells #[.int .u8 0,.int .u8 1,.int .u8 28,.int .u8 2,.int .u8 29,.int .u8 14,.int .u8 24,.int .u8 3,.int .u8 30,.int .u8 22,.int .u8 20,.int .u8 15,.int .u8 25,.int .u8 17,.int .u8 4,.int .u8 8,.int .u8 31,.int .u8 27,.int .u8 13,.int .u8 23,.int .u8 21,.int .u8 19,.int .u8 16,.int .u8 7,.int .u8 26,.int .u8 12,.int .u8 18,.int .u8 6,.int .u8 11,.int .u8 5,.int .u8 10,.int .u8 9] t frozen
   | o=>o).modify 2 fun
   | .cells _ t frozen=>.cells #[.int .u8 0,.int .u8 1,.int .u8 56,.int .u8 2,.int .u8 57,.int .u8 49,.int .u8 28,.int .u8 3,.int .u8 61,.int .u8 58,.int .u8 42,.int .u8 50,.int .u8 38,.int .u8 29,.int .u8 17,.int .u8 4,.int .u8 62,.int .u8 47,.int .u8 59,.int .u8 36,.int .u8 45,.int .u8 43,.int .u8 51,.int .u8 22,.int .u8 53,.int .u8 39,.int .u8 33,.int .u8 30,.int .u8 24,.int .u8 18,.int .u8 12,.int .u8 5,.int .u8 63,.int .u8 55,.int .u8 48,.int .u8 27,.int .u8 60,.int .u8 41,.int .u8 37,.int .u8 16,.int .u8 46,.int .u8 35,.int .u8 44,.int .u8 21,.int .u8 52,.int .u8 32,.int .u8 23,.int .u8 11,.int .u8 54,.int .u8 26,.int .u8 40,.int .u8 15,.int .u8 34,.int .u8 20,.int .u8 31,.int .u8 10,.int .u8 25,.int .u8 14,.int .u8 19,.int .u8 9,.int .u8 13,.int .u8 8,.int .u8 7,.int .u8 6] t frozen
   | o=>o) }
noncomputable def Vb:Array Value:=#[.slice none 0 0,.agg #[.bool false,.slice none 0 0,.bool false,.slice none 0 0,.bool false,.slice none 0 0,.bool false,.slice none 0 0,.bool false,.slice none 0 0,.bool false,.slice none 0 0,.bool false,.slice none 0 0,.bool false,.slice none 0 0],.int .i64 0]
theorem laid_met (os:Os):laidMet Tryz.prog Rows.polysAtRow.laid ((Yd os).forCall (fun _ _=>0) ⟨#[],Vb,[]⟩).memory :=
 laidMet_of_run' 8 (by kernel_rfl) (by kernel_rfl)
theorem reads (os:Os) {H:Type} (enc:TypeId × Value->H):∃ places,DataW.whole enc Tryz.prog ((Yd os).forCall (fun _ _=>0) ⟨#[],Vb,[]⟩).memory Tryz.f4.params.toList Rows.polysAtSpec.vars false Vb.toList 8=some ([.nil,.agg [.agg [.agg [.lit (.bool false),.nil],.agg [.lit (.bool false),.nil]],.agg [.agg [.lit (.bool false),.nil],.agg [.lit (.bool false),.nil]],.agg [.agg [.lit (.bool false),.nil],.agg [.lit (.bool false),.nil]],.agg [.agg [.lit (.bool false),.nil],.agg [.lit (.bool false),.nil]]],.lit (.int .i64 0)],[],places) :=
 ⟨[],by kernel_rfl⟩
theorem lifted (os:Os) (started:os.Started) (H:Type) (enc:TypeId × Value->H) (F:Stop.Interp) :
  ReturnsInHanded {} Tryz.checked os 4 .any ((OpenSpec.ofChange Rows.polysAtSpec).preRow enc Tryz.prog Tryz.f4 Rows.polysAtRow.domain false Rows.polysAtRow.laid) (((OpenSpec.ofChange Rows.polysAtSpec).at F).post enc Tryz.prog Tryz.f4 false true false false):=by
 obtain⟨places,hx⟩:=reads os enc
 refine returnsInHanded_of_row (C:=Tryz.checked) (s:=OpenSpec.ofChange Rows.polysAtSpec) own started (by kernel_rfl) Tryz.func4
  (witness_row_at (enc:=enc) (C:=Tryz.checked) false (Yd os) Vb rfl (by kernel_rfl) (by kernel_rfl) (by kernel_rfl)
   (OpenSpec.preRow_of_cond 8 hx (by kernel_rfl) (fun k hk=>by cases hk) (by kernel_rfl) (laid_met os))) ?_
 intro W base args ds gs before hval0 hW _ _ hwt _ _ _;have hval:∀ (j:Nat) t v,Tryz.f4.params[j]?=some t->args[j]?=some v->Value.okWide Tryz.prog W .any base t v:=hval0;have hW':=hW;obtain⟨p,q,hA0,hV,rfl,hfz,hnd⟩:=hW;have hA:DataW.TrodAll enc Tryz.prog W 0 (fun _=>true) true Tryz.f4.params.toList args.toList ds p:=hA0;rw[Tryz.params4] at hA hval;obtain⟨v0,v1,v2,d0,d1,d2,p0,p1,p2,rfl,rfl,rfl,h0,h1,h2⟩:=trodAll_three hA;obtain⟨rfl,rfl⟩:=trodVars_none hV;obtain⟨x0,L0,rfl,r0⟩:=jf7 (hval 0 23 v0 rfl rfl) h0;obtain⟨y10,y11,y12,y13,rfl,r1⟩:=jdl (hval 1 58 v1 rfl rfl) h1 (ja2 hwt (j:=1) (by kernel_rfl) rfl);obtain⟨z2,rfl,-,-,wz2⟩:=open_int Tryz.underlying3 (hval 2 3 v2 rfl rfl) h2
 refine(ja4 x0 L0 y10 y11 y12 y13 z2 W r0 r1 (bounds_i64 wz2).1 (bounds_i64 wz2).2).mono fun e W' ⟨he,hg⟩=>?_
 subst he;exact⟨_,rfl,LawPost.law_post laidOut (by kernel_rfl) (by kernel_rfl) Tryz.underlying4 hW' rfl rfl hg⟩
theorem k4:mapsRowed Tryz.prog=true:=by kernel_rfl
theorem k10:(Rows.polysAtRow.inPlace==Tryz.prog.inPlace 4)=true:=by kernel_rfl
theorem k11:(Rows.polysAtRow.unfollowed==Tryz.prog.unfollowed 4)=true:=by kernel_rfl
theorem k12:(Rows.polysAtRow.recurses==Tryz.prog.recurses 4)=true:=by kernel_rfl
theorem k13:(Rows.polysAtRow.named==Tryz.prog.varsNamed 4)=true:=by kernel_rfl
theorem closed:joinedFacts Tryz.prog 4 Tryz.f4 (OpenSpec.ofChange Rows.polysAtSpec).bare Rows.polysAtRow=true:=by
 unfold joinedFacts;rw[laidOut,k4,k10,k11,k12,k13]
 kernel_rfl
theorem said:Rows.PolysAtSaid :=
 OpenClaim.holds_of_cond 4 Tryz.f4 rfl rfl rfl rfl rfl rfl rfl ⟨rfl,rfl,rfl,rfl,rfl⟩ rfl rfl rfl rfl rfl (by kernel_rfl) Tryz.func4 closed
  (of_decide_eq_true (by kernel_rfl)) (by unfold Func.isWrapper;first | (rw[if_pos (by decide +kernel)];kernel_rfl) | (rw[if_neg (by decide +kernel)];exact⟨rfl,rfl⟩))
  (fun os started H enc _ F=>by rw[OpenClaim.pre_eq_preRow];exact lifted os started H enc F)
theorem plain (f : FuncId) (fn : Func) (hf : Tryz.pinned.checked.prog.funcNamed "reckoner/reckonerlaw04.PolysAt" = some f) (hfn : Tryz.pinned.checked.prog.funcs[f]? = some fn) :
  false=Tryz.pinned.checked.prog.looks []/\∀ (j:Nat) t,fn.params[j]?=some t->Tryz.pinned.checked.prog.wantsStandIn t=false:=by
 obtain rfl : f = 4 := Option.some.inj ((show Tryz.prog.funcNamed "reckoner/reckonerlaw04.PolysAt" = some 4 by kernel_rfl).symm.trans hf) |>.symm
 obtain rfl:fn=Tryz.f4:=(Option.some.inj (Tryz.func4.symm.trans hfn)).symm;refine⟨by kernel_rfl,fun j t ht=>?_⟩;rw[Tryz.params4] at ht
 have hm:t=23\/t=58\/t=3:=by simpa using Array.mem_of_getElem? ht
 rcases hm with rfl | rfl | rfl
 ·exact(show Tryz.prog.wantsStandIn 23=false by kernel_rfl)
 ·exact(show Tryz.prog.wantsStandIn 58=false by kernel_rfl)
 ·exact(show Tryz.prog.wantsStandIn 3=false by kernel_rfl)
theorem card:Rows.PolysAtCardSaid :=
 Claim7.holds_tied_plain_at .later [] _ _ _ _ said (fun _ h=>by cases h) (by kernel_rfl) (fun _ h=>by cases h) polysAt_row_tie rfl ⟨rfl,rfl⟩ (by kernel_rfl) rfl plain (by kernel_rfl)
#print axioms card
end PolysAtC
end Limb
end Go.Proofs.YtgkkbkoiaccmfaaGreatDoor
