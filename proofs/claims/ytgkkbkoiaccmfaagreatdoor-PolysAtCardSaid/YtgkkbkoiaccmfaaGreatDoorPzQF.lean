/-
  A Book's rows, one list or one row of terms longer (both kinds counted together).
-/
import Derived.Test.YtgkkbkoiaccmfaaGreatDoorPzQE
import Derived.WalkMore
import Derived.Laws.MakeOwn
import Derived.RegionTactic
import Derived.Deep.CutBlock
set_option linter.unusedSimpArgs false
set_option linter.unusedVariables false
set_option maxHeartbeats 16000000
set_option maxRecDepth 100000
namespace Go.Proofs.YtgkkbkoiaccmfaaGreatDoor
namespace Book
open Go.RowKit Go.Sort Go.Fresh Limb
theorem isT_eq (j:Nat) (w:World):(binOp BinOp.eql 69 (.agg #[.int .u16 ((j:Int)+2),.int .u16 0,.int .u16 0,.int .u16 0]) (.agg #[.int .u16 ((j:Int)+2),.int .u16 0,.int .u16 0,.int .u16 0])).run Tryz.prog w=.ok (.bool true) w:=by
 have h:=Mono.jd0 ((j:Int)+2) 0 0 0 ((j:Int)+2) 0 0 0 w;have e:binOp BinOp.eql 69 (Mono.mv ((j:Int)+2) 0 0 0) (Mono.mv ((j:Int)+2) 0 0 0)=(do pure (.bool (<- Op.equal 69 (Mono.mv ((j:Int)+2) 0 0 0) (Mono.mv ((j:Int)+2) 0 0 0)))):=rfl;show(binOp BinOp.eql 69 (Mono.mv ((j:Int)+2) 0 0 0) (Mono.mv ((j:Int)+2) 0 0 0)).run Tryz.prog w=_;rw[e,Sem.run_bind];rw[show(Op.equal 69 (Mono.mv ((j:Int)+2) 0 0 0) (Mono.mv ((j:Int)+2) 0 0 0)).run Tryz.prog w=_ from h];simp
theorem U0 (j:Nat) (w:World) (h:j<=30000):Calls Tryz.prog 196 #[.agg #[.bool false,.slice none 0 0,.bool false,.slice none 0 0,.int .u16 ((j:Int)+2),.int .u16 0,.int .u16 0,.int .u16 0],.int .i64 ((j:Int)+1)] w fun e w'=>e=.returned (.bool true)/\Below w.heap.size w w':=by
 have e1:=IntWalk.i64_in ((j:Int)+1) (by omega);have e2:=IntWalk.i64_in (1+((j:Int)+1)) (by omega);have e3:=IntWalk.u16_in (1+((j:Int)+1)) (by omega);have e4:((j:Int)+1).tmod 60000=(j:Int)+1:=Int.tmod_eq_of_lt (by omega) (by omega);have e5:((j:Int)+1).tdiv 60000=0:=Int.tdiv_eq_zero_of_lt (by omega) (by omega)
 have e6:1+((j:Int)+1)=(j:Int)+2:=by omega
 have hqe:=isT_eq j;go_enter Tryz.func196,Tryz.ntmps196;go_wp2_with fail
 go_ret;exact⟨rfl,zk.alloc zj _⟩
theorem mark8 {w:World} {base g n cap j:Nat} (h:J5 w base (some ⟨g,0,none⟩) n cap (mcf j)) {t:Nat} (ht:t<n) :
  w.cell? ⟨g,t*8,none⟩=some (.bool false)/\w.cell? ⟨g,t*8+1,none⟩=some (.slice none 0 0)/\w.cell? ⟨g,t*8+2,none⟩=some (.bool false)/\w.cell? ⟨g,t*8+3,none⟩=some (.slice none 0 0)/\w.cell? ⟨g,t*8+4,none⟩=some (.int .u16 ((j:Int)+2)) /\
  w.cell? ⟨g,t*8+5,none⟩=some (.int .u16 0)/\w.cell? ⟨g,t*8+6,none⟩=some (.int .u16 0)/\w.cell? ⟨g,t*8+7,none⟩=some (.int .u16 0):=by
 have k:∀ r,r<8->w.cell? ⟨g,t*8+r,none⟩=some (mc j r):=fun r hr=>by
  rw[h.cell (i:=t*8+r) (by omega)];unfold mcf;rw[show(t*8+r)%8=r by omega]
 exact⟨k 0 (by decide),k 1 (by decide),k 2 (by decide),k 3 (by decide),k 4 (by decide),k 5 (by decide),k 6 (by decide),k 7 (by decide)⟩
theorem Ub (b vb k cap:Nat) (A LA:Nat->Option Addr) (N C LC:Nat->Nat) (f:Nat->Value) (ν:Nat->Nat) (w:World) (hk:k<=30000) (hν:∀ j,j<k->ν j<=30000) (hB:w.rowIs b 53 13 f) (hf:f 6=.slice (some ⟨vb,0,none⟩) k cap)
  (hA:ZL ν w vb k A N C (fun j=>.slice (LA j) (N j+40) (LC j))) (hO:∀ j,j<k->J5 w 0 (A j) (N j) (C j) (mcf (ν j))) (hL:∀ j,j<k->J5 w 0 (LA j) (N j+40) (LC j) (mcf (ν j))) (hN:∀ j,j<k->N j<=100000000) :
  Calls Tryz.prog 115 #[.pointer (some ⟨b,0,none⟩)] w fun e w'=>e=.returned (.bool true)/\Below w.heap.size w w':=by
 have HF:=qh hf;have HNU:=qh hν;have HB:=qh hB;have HA:=qh hA;have HO:=qh hO;have HL:=qh hL;have HN:=qh hN;clear hB hA hO hL hN hf hν;go_enter Tryz.func115,Tryz.ntmps115;go_wp2_with fail
 go_loopw [3] (fun v wr=>∃ i:Nat,i<=k/\v=.int .i64 i/\Below w.heap.size w wr) (fun v _=>k-(intOf v).toNat)
 case atStart=>exact⟨0,by omega,rfl,zk⟩
 case round =>
  obtain⟨w1,rfl⟩:∃ w1,w1=wr:=⟨_,rfl⟩;obtain⟨i,hik,rfl,hG⟩:=hrel;have KG:=qh hG;have KB:=qh (HB.o.of_block (hG.block _ HB.o.lt));have KA:=qh (HA.o.keep (hG.block _ HA.o.lt));clear hG
  have b2:w1.cell? ⟨b,6,none⟩=some (.slice (some ⟨vb,0,none⟩) k cap):=by rw[<- HF.o];exact KB.o.cell (i:=6) (by omega)
  by_cases hi:i<k
  ·obtain⟨a0,a1,a2,-,hvb⟩:=KA.o.cells hi;have O1:=(HO.o i hi).below KG.o;have L1:=(HL.o i hi).below KG.o;obtain⟨n,hn⟩:∃ n,n=N i:=⟨_,rfl⟩;obtain⟨ai,ha⟩:∃ ai,ai=A i:=⟨_,rfl⟩;obtain⟨ci,hc⟩:∃ ci,ci=C i:=⟨_,rfl⟩;obtain⟨lc,hlc⟩:∃ lc,lc=LC i:=⟨_,rfl⟩;obtain⟨gq,hlg⟩:=L1.Qi (by omega);rw[<- hlc,hlg,<- hn] at L1 a1;rw[<- ha,<- hn,<- hc] at a0 O1
   have hnb:n<=100000000:=by rw[hn];exact HN.o i hi
   have LO:=qh O1;have LL:=qh L1;obtain⟨W,hW⟩:∃ W,W=w1.alloc (.cells #[.slice ai n ci,.slice (some ⟨gq,0,none⟩) (n+40) lc,.int .i64 ((ν i:Int)+1)] 152):=⟨_,rfl⟩
   have R:=World.rowIs_alloc w1 #[Value.slice ai n ci,Value.slice (some ⟨gq,0,none⟩) (n+40) lc,Value.int IntKind.i64 ((ν i:Int)+1)] 152 (hcell ai n ci (.slice (some ⟨gq,0,none⟩) (n+40) lc) ((ν i:Int)+1)) (fun q hq=>by
     match q,hq with
     | 0,_=>rfl
     | 1,_=>rfl
     | 2,_=>rfl)
   rw[<- hW] at R;have WB:=qh (show Below w1.heap.size w1 W by rw[hW];exact zk.alloc zj _);have WR:=qh (show W.rowIs w1.heap.size 152 3 (hcell ai n ci (.slice (some ⟨gq,0,none⟩) (n+40) lc) ((ν i:Int)+1)) from R);have HW:=qh hW;have e40:=IntWalk.i64_in ((n:Int)+40) (by omega)
   have ec:((n+40:Nat):Int)=(n:Int)+40:=by omega
   clear ha hn hc hlc O1 L1 R hW hlg
   go_upto_region 5 with (fail)
   rw[show(w1.alloc (.cells #[.slice ai n ci,.slice (some ⟨gq,0,none⟩) (n+40) lc,.int .i64 ((ν i:Int)+1)] 152))=W from HW.o.symm];have h0:W.cell? ⟨w1.heap.size,0,none⟩=some (.slice ai n ci):=WR.o.cell (i:=0) (by omega);have h1:W.cell? ⟨w1.heap.size,1,none⟩=some (.slice (some ⟨gq,0,none⟩) (n+40) lc):=WR.o.cell (i:=1) (by omega);have h2:W.cell? ⟨w1.heap.size,2,none⟩=some (.int .i64 ((ν i:Int)+1)):=WR.o.cell (i:=2) (by omega);go_wp2_with fail
   have HI1:=qh (HNU.o i hi);have HE:=qh (And.intro e40 ec);clear h0 h1 h2;go_loopw [5] (fun v wr=>∃ t:Nat,t<=n+40/\v=.int .i64 t/\Below W.heap.size W wr) (fun v _=>n+40-(intOf v).toNat)
   case atStart=>exact⟨0,by omega,rfl,zk⟩
   case round =>
    obtain⟨t,htn,rfl,hm⟩:=hrel;have HM:=qh hm;clear hm
    have HWC:=qh (fun (w':World) (hb:Below wr.heap.size wr w')=>(show w'.cell? ⟨w1.heap.size,0,none⟩=some (.slice ai n ci)/\w'.cell? ⟨w1.heap.size,1,none⟩=some (.slice (some ⟨gq,0,none⟩) (n+40) lc)/\w'.cell? ⟨w1.heap.size,2,none⟩=some (.int .i64 ((ν i:Int)+1)) from by
     have hb1:Below W.heap.size W w':=HM.o.trans (hb.mono HM.o.size);have R:=WR.o.of_block (hb1.block _ WR.o.lt)
     exact⟨R.cell (i:=0) (by omega),R.cell (i:=1) (by omega),R.cell (i:=2) (by omega)⟩))
    obtain⟨g0,g1,g2⟩:=HWC.o wr zk;by_cases ht:t<n+40
    ·have HX1:=qh (show t<n+40 from ht);have HLC:=qh (fun (w':World) (hb:Below wr.heap.size wr w')=>mark8 ((LL.o.below WB.o).below (HM.o.trans (hb.mono HM.o.size))) ht)
     have x1:(t:Int)<(n:Int)+40:=by omega
     by_cases ht2:t<n
     ·obtain⟨g,rfl⟩:=LO.o.Qi (by omega);have HX2:=qh (show t<n from ht2);have HLA:=qh (fun (w':World) (hb:Below wr.heap.size wr w')=>mark8 ((LO.o.below WB.o).below (HM.o.trans (hb.mono HM.o.size))) ht2)
      have x2:(t:Int)<(n:Int):=by omega
      go_wp2_with fail
      refine FS.Jc 26 [] (FS.JM [(7,FS.Sp.know (.bool true)),(23,FS.Sp.know (.bool true))])
       (fun w'=>Below wr.heap.size wr w') (by kernel_rfl) (by kernel_rfl) (by kernel_rfl)
       (FS.Jd (FS.Sp.Jm _ _) (FS.Jd (FS.Sp.Jm _ _) (FS.Jl))) (fun _ _ h hb=>h.trans (hb.mono h.size)) (zk.drew) ?_
      simp only[zu,zi,ze,zx,zy,zv,zw]
      iterate 7
       refine FS.Jb rfl rfl rfl ?_ (fun w' hw'=>?_) ?_;rotate_left
       ·have hb':=hw'.world;have hs:=HWC.o w' hb';have hx:=HX1.o;obtain⟨hc0,hc1,hc2,hc3,hc4,hc5,hc6,hc7⟩:=HLC.o w' hb';clear hw';go_simp
        try rfl
       conv=>arg 10;simp only[Act.put,zq0,zq1,zq2]
      refine FS.Jf rfl rfl rfl (fun w' hw'=>?_) ?_
      ·have hb':=hw'.world;refine FS.Jo (FS.PK (.bool true)) ?_ (fun _ _ h=>h.post);go_simp;have CT:=U0 (ν i) w' HI1.o;refine CT.mono ?_;rintro e w'' ⟨rfl,hb⟩;exact⟨_,rfl,rfl,hb⟩
      rintro _ rfl
      conv=>arg 10;simp only[Act.put,zq0,zq1,zq2]
      iterate 2
       refine FS.Jb rfl rfl rfl ?_ (fun w' hw'=>?_) ?_;rotate_left
       ·have hb':=hw'.world;skip;clear hw';go_simp
        try rfl
       conv=>arg 10;simp only[Act.put,zq0,zq1,zq2]
      iterate 13
       refine FS.Jk (by rfl) rfl rfl ?_ (fun w' hw'=>?_) ?_;rotate_left
       ·have hb':=hw'.world;have hs:=HWC.o w' hb';have hx:=HX2.o;obtain⟨hc0,hc1,hc2,hc3,hc4,hc5,hc6,hc7⟩:=HLA.o w' hb';clear hw';go_simp
        try rfl
       conv=>arg 10;simp only[Act.put,zq0,zq1,zq2]
      refine FS.JA (by rfl) rfl rfl (fun w' hw'=>?_) ?_
      ·have hb':=hw'.world;refine FS.Jo (FS.PK (.bool true)) ?_ (fun _ _ h=>h.post);go_simp;have CT:=U0 (ν i) w' HI1.o;refine CT.mono ?_;rintro e w'' ⟨rfl,hb⟩;exact⟨_,rfl,rfl,hb⟩
      rintro _ rfl
      conv=>arg 10;simp only[Act.put,zq0,zq1,zq2]
      iterate 2
       refine FS.Jk (by rfl) rfl rfl ?_ (fun w' hw'=>?_) ?_;rotate_left
       ·have hb':=hw'.world;skip;clear hw';go_simp
        try rfl
       conv=>arg 10;simp only[Act.put,zq0,zq1,zq2]
      refine FS.Jn (fun w101 hb hF=>?_);clear hF;have BWR:=qh hb;clear hb;have HM:=qh (HM.o.trans (BWR.o.mono HM.o.size));go_wp2_with fail
      go_roundw
      case rel=>exact⟨t+1,by omega,by go_num,HM.o⟩
      case measure=>simp[intOf];omega
     ·have HX2:=qh (show ¬(t:Int)<(n:Int) by omega)
      have x2:¬(t:Int)<(n:Int):=by omega
      go_wp2_with fail
      refine FS.Jc 26 [] (FS.JM [(7,FS.Sp.know (.bool true))])
       (fun w'=>Below wr.heap.size wr w') (by kernel_rfl) (by kernel_rfl) (by kernel_rfl)
       (FS.Jd (FS.Sp.Jm _ _) (FS.Jl)) (fun _ _ h hb=>h.trans (hb.mono h.size)) (zk.drew) ?_
      simp only[zu,zi,ze,zx,zy,zv,zw]
      iterate 7
       refine FS.Jb rfl rfl rfl ?_ (fun w' hw'=>?_) ?_;rotate_left
       ·have hb':=hw'.world;have hs:=HWC.o w' hb';have hx:=HX1.o;obtain⟨hc0,hc1,hc2,hc3,hc4,hc5,hc6,hc7⟩:=HLC.o w' hb';clear hw';go_simp
        try rfl
       conv=>arg 10;simp only[Act.put,zq0,zq1,zq2]
      refine FS.Jf rfl rfl rfl (fun w' hw'=>?_) ?_
      ·have hb':=hw'.world;refine FS.Jo (FS.PK (.bool true)) ?_ (fun _ _ h=>h.post);go_simp;have CT:=U0 (ν i) w' HI1.o;refine CT.mono ?_;rintro e w'' ⟨rfl,hb⟩;exact⟨_,rfl,rfl,hb⟩
      rintro _ rfl
      conv=>arg 10;simp only[Act.put,zq0,zq1,zq2]
      iterate 2
       refine FS.Jb rfl rfl rfl ?_ (fun w' hw'=>?_) ?_;rotate_left
       ·have hb':=hw'.world;skip;clear hw';go_simp
        try rfl
       conv=>arg 10;simp only[Act.put,zq0,zq1,zq2]
      iterate 6
       refine FS.Jk (by rfl) rfl rfl ?_ (fun w' hw'=>?_) ?_;rotate_left
       ·have hb':=hw'.world;have hs:=HWC.o w' hb';have hx:=HX2.o;clear hw';go_simp
        try rfl
       conv=>arg 10;simp only[Act.put,zq0,zq1,zq2]
      iterate 9
       refine FS.Qf (by rfl) rfl ?_
       conv=>arg 10;simp only[Act.put,zq0,zq1,zq2]
      refine FS.Jk (by rfl) rfl rfl ?_ (fun w' hw'=>?_) ?_;rotate_left
      ·have hb':=hw'.world;skip;clear hw';go_simp
       try rfl
      conv=>arg 10;simp only[Act.put,zq0,zq1,zq2]
      refine FS.Jn (fun w101 hb hF=>?_);clear hF;have BWR:=qh hb;clear hb;have HM:=qh (HM.o.trans (BWR.o.mono HM.o.size));go_wp2_with fail
      go_roundw
      case rel=>exact⟨t+1,by omega,by go_num,HM.o⟩
      case measure=>simp[intOf];omega
    ·have x1:¬(t:Int)<(n:Int)+40:=by omega
     obtain rfl:t=n+40:=by omega
     go_wp2_with fail
     go_roundw
     case rel=>exact⟨i+1,by omega,by go_num,by have h:=KG.o.trans (WB.o.mono KG.o.size);exact h.trans (HM.o.mono h.size)⟩
     case measure=>simp[intOf];omega
  ·obtain rfl:i=k:=by omega
   go_wp2_with fail
   go_ret;exact⟨rfl,KG.o⟩
end Book
namespace Limb
open Go.RowKit Go.Sort Go.Fresh
theorem top_any (a:Option Addr) (n c m:Nat) (o:Nat->Int) (w:World) (hx:Rd w a n o) (dx:Dig o n) (hn:n<=200000000) (hm:m<n) :
  Calls Tryz.prog 262 #[.slice a n c,.int .i64 ((m:Int)+1)] w fun e w'=>e=.returned (.int .u64 (YF o n m))/\w'=w:=by
 obtain⟨b,off,rfl,hc⟩:=hx.cells (by omega);have c1:=hc m hm;have d1:=dx m hm;have w1:=IntWalk.u64_in (o m) (by omega);by_cases h:m+1<n
 ·have c2:=hc (m+1) h;have d2:=dx (m+1) h;have w2:=IntWalk.u64_in (o (m+1)) (by omega);have w3:=IntWalk.u64_in (1000000000*o (m+1)) (by omega);have w4:=IntWalk.u64_in (1000000000*o (m+1)+o m) (by omega);have E:=qh (show YF o n m=1000000000*o (m+1)+o m by unfold YF part;rw[if_pos h,if_pos hm])
  have h1:(m:Int)+1<(n:Int):=by omega
  have h2:(m:Int)<(n:Int):=by omega
  have e1:(m:Int)+1-1=(m:Int):=by omega
  have e2:((m:Int)+1).toNat=m+1:=by omega
  have x1:=IntWalk.i64_in ((m:Int)+1-1) (by omega)
  have h0:0<=(m:Int)+1:=by omega
  clear hc hx;go_enter Tryz.func262,Tryz.ntmps262;go_wp2;go_ret;exact⟨by rw[E.o];rfl,rfl⟩
 ·have w3:=IntWalk.u64_in (0+o m) (by omega);have E:=qh (show YF o n m=o m by unfold YF part;rw[if_neg h,if_pos hm];omega)
  have h1:¬(m:Int)+1<(n:Int):=by omega
  have h2:(m:Int)<(n:Int):=by omega
  have e1:(m:Int)+1-1=(m:Int):=by omega
  have x1:=IntWalk.i64_in ((m:Int)+1-1) (by omega);clear hc hx;go_enter Tryz.func262,Tryz.ntmps262;go_wp2;go_ret;exact⟨by rw[E.o];rfl,rfl⟩
def Only (g:Nat) (w w':World):Prop:=(∀ k,k≠g->w'.heap[k]?=w.heap[k]?)/\w'.heap.size=w.heap.size
theorem Only.refl (g:Nat) (w:World):Only g w w:=⟨fun _ _=>rfl,rfl⟩
theorem Only.set {g:Nat} {w w':World} (h:Only g w w') (i:Nat) (v:Value):Only g w (w'.setCell ⟨g,i,none⟩ v) :=
 ⟨fun k hk=>(Below.heap_setCell _ _ _ _ hk).trans (h.1 k hk),by rw[World.size_setCell];exact h.2⟩
theorem Rd.only {g:Nat} {w w':World} {a:Option Addr} {n:Nat} {o:Nat->Int} (h:Rd w a n o) (ho:Only g w w') (hg:0<n->∀ p,a=some p->p.block≠g):Rd w' a n o:=by
 refine⟨fun hn=>?_,h.rng⟩;obtain⟨b,off,ha,hc⟩:=h.cells hn;exact⟨b,off,ha,fun i hi=>(World.cell?_of_block (ho.1 b (hg hn _ ha))).trans (hc i hi)⟩
theorem jea (o:Nat->Int) (j:Nat) (u v:Int):upd (upd o j u) j v=upd o j v:=by
 funext i;unfold upd
 split <;> rfl
theorem K9 (g n cap base at' lb cb m:Nat) (b:Option Addr) (p ob:Nat->Int) (often:Int) (w:World) (hp:Own 160 w base (some ⟨g,0,none⟩) n cap p) (hb:Rd w b lb ob) (hbg:0<lb->∀ q,b=some q->q.block≠g)
  (dp:Dig p n) (db:Dig ob lb) (hn:n=at' + m) (hn2:n<=200000000) (hm:lb<=m) (ho:0<=often/\often<=999999999) :
  Calls Tryz.prog 263 #[.slice (some ⟨g,0,none⟩) n cap,.slice b lb cb,.int .i64 (at':Int),.int .u64 often] w fun e w'=>e=.returned (.tuple #[]) /\
   Own 160 w' base (some ⟨g,0,none⟩) n cap (Xg p ob lb at' often m)/\Only g w w'/\Below base w w':=by
 have HP:=qh hp;have HB:=qh hb;have DP:=qh dp;have DB:=qh db;have HBG:=qh hbg;have HN:=qh hn;have HBS:=qh (hp.blk rfl).2.1;clear hp hb dp db hbg hn;go_enter Tryz.func263,Tryz.ntmps263;go_wp2_with fail
 go_loopw [8,9] (fun ow i wr=>∃ k:Nat,k<=m/\i=.int .i64 k/\ow=.int .u64 (- cS (Yi p ob at' lb often) k)/\Own 160 wr base (some ⟨g,0,none⟩) n cap (Xg p ob lb at' often k)/\Only g w wr/\Below base w wr) (fun _ i _=>m-(intOf i).toNat)
 case atStart=>exact⟨0,by omega,rfl,rfl,by rw[jcg];exact HP.o,Only.refl _ _,zk⟩
 case round =>
  obtain⟨k,hk,rfl,rfl,hO,hOn,hBl⟩:=hrel;have HO:=qh hO;have HON:=qh hOn;have HBL:=qh hBl;clear hO hOn hBl;have hnn:=HN.o;have x0:=IntWalk.i64_in ((at':Int)+(k:Int)) (by omega);by_cases hkm:k<m
  ·have hlt:at' + k<n:=by omega
   have hlt':(at':Int)+(k:Int)<(n:Int):=by omega
   have etn:((at':Int)+(k:Int)).toNat=at' + k:=by omega
   have h0':0<=(at':Int)+(k:Int):=by omega
   obtain⟨x,hx⟩:∃ x,x=p (at' + k):=⟨_,rfl⟩
   have hxb:0<=x/\x<1000000000:=by rw[hx];exact DP.o _ hlt
   have cx:wr.cell? ⟨g,at' + k,none⟩=some (.int .u32 x):=by
    have:=HO.o.cell (i:=at' + k) (by omega);rw[this,jch,hx]
   have fx:=HO.o.fz;obtain⟨D,hD⟩:∃ D,D = - cS (Yi p ob at' lb often) k:=⟨_,rfl⟩;obtain⟨y,hy⟩:∃ y,y=part ob lb k:=⟨_,rfl⟩
   have hpart:∀ j,0<=part ob lb j/\part ob lb j<=999999999:=by
    intro j;unfold part;split
    ·have:=DB.o j (by omega);omega
    ·omega
   have hyb:0<=y/\y<=999999999:=by rw[hy];exact hpart k
   have hoy:0<=often*y/\often*y<=999999999*999999999:=⟨Int.mul_nonneg ho.1 hyb.1,Int.mul_le_mul ho.2 hyb.2 hyb.1 (by omega)⟩
   have hcs:=cS_neg (f:=Yi p ob at' lb often) (lo:=-999999999) (n:=k) (by omega) (fun i hi=>by
    have h1:=DP.o (at' + i) (by omega);have h2:=hpart i;have h3:often*part ob lb i<=999999999*999999999:=Int.mul_le_mul ho.2 h2.2 h2.1 (by omega);have h4:0<=often*part ob lb i:=Int.mul_nonneg ho.1 h2.1;unfold Yi
    omega)
   have hDb:0<=D/\D<=999999999:=by omega
   have eF:Yi p ob at' lb often k=x-often*y:=by rw[hx,hy];rfl
   have e1:cS (Yi p ob at' lb often) (k+1)=(x-(D+often*y))/1000000000:=by rw[cS,eF];congr 1;omega
   have e2:cD (Yi p ob at' lb often) k=(x-(D+often*y))%1000000000:=by unfold cD;rw[eF];congr 1;omega
   clear eF;obtain⟨t,ht⟩:∃ t,t=D+often*y:=⟨_,rfl⟩
   have htb:0<=t/\t<=999999999999999999:=by omega
   rw[<- ht] at e1 e2;obtain⟨s1,s2⟩:=je2 (a:=x) (n:=t) hxb htb.1;rw[<- e1,<- e2] at s1 s2;have ES:=qh (jci p ob lb at' often k);have HCD:=qh (Ql (Yi p ob at' lb often) (k+1) k (by omega));obtain⟨cd,hcd⟩:∃ cd,cd=cD (Yi p ob at' lb often) k:=⟨_,rfl⟩;obtain⟨c',hc'⟩:∃ c',c' = - cS (Yi p ob at' lb often) (k+1):=⟨_,rfl⟩;rw[<- hcd,<- hc'] at s1 s2;rw[<- hcd] at ES HCD;clear hcd;obtain⟨tm,htm⟩:∃ tm,tm=t%1000000000:=⟨_,rfl⟩;obtain⟨td,htd⟩:∃ td,td=t/1000000000:=⟨_,rfl⟩;rw[<- htm,<- htd] at s1 s2
   have r1:t.tmod 1000000000=tm:=by rw[Int.tmod_eq_emod_of_nonneg htb.1,htm]
   have r2:t.tdiv 1000000000=td:=by rw[Int.tdiv_eq_ediv_of_nonneg htb.1,htd]
   have tmb:0<=tm/\tm<=999999999:=by omega
   have tdb:0<=td/\td<=999999999:=by omega
   have w1:=IntWalk.u64_in tm (by omega);have w2:=IntWalk.u32_in tm (by omega);have w3:=IntWalk.u64_in td (by omega);have w4:=IntWalk.u32_in (x+1000000000) (by omega);have w5:=IntWalk.u64_in (td+1) (by omega);have HC':=qh hc';rw[<- hD];have HT:=qh (And.intro ht (And.intro hy hyb));clear e1 e2 hcs hpart hD htm htd hc' hx;by_cases hkl:k<lb
   ·have hkl':(k:Int)<(lb:Int):=by omega
    obtain⟨bb,bo,rfl,hcb⟩:=(HB.o.only HON.o HBG.o).cells (by omega)
    have cy:wr.cell? ⟨bb,bo+k,none⟩=some (.int .u32 y):=by
     rw[hcb k hkl,hy];show some (Value.int .u32 (ob k))=some (.int .u32 (part ob lb k));unfold part;rw[if_pos hkl]
    have wy:=IntWalk.u64_in y (by omega);have wo1:=IntWalk.u64_in (often*y) (by omega);have wo2:=IntWalk.u64_in (D+often*y) (by omega);rw[<- ht] at wo2;have et:D+often*y=t:=ht.symm;clear hcb hy ht;by_cases hxt:x<tm
    ·obtain⟨s1a,s1b⟩:=s1 hxt;have w6:=IntWalk.u32_in (x+1000000000-tm) (by omega);rw[s1a] at w6;rw[s1b] at w5;have S1:=qh (And.intro s1a s1b);have O1:=qh (HO.o.put (t:=at' + k) (v:=x+1000000000) hlt (by omega));have O2:=qh (O1.o.put (t:=at' + k) (v:=cd) hlt (by have:=HCD.o;omega));have hcd0:=HCD.o;clear s1 s2;go_wp2_with fail
     go_roundw
     case rel=>exact⟨k+1,by omega,by go_num,by rw[HC'.o],by rw[<- ES.o,<- jea _ _ (x+1000000000) cd];exact O2.o,(HON.o.set _ _).set _ _,(HBL.o.setCell HBS.o _).setCell HBS.o _⟩
     case measure=>simp[intOf];omega
    ·obtain⟨s1a,s1b⟩:=s2 hxt;have w6:=IntWalk.u32_in (x-tm) (by omega);rw[s1a] at w6;have S1:=qh (And.intro s1a s1b);have O2:=qh (HO.o.put (t:=at' + k) (v:=cd) hlt (by have:=HCD.o;omega));clear s1 s2;go_wp2_with fail
     go_roundw
     case rel=>exact⟨k+1,by omega,by go_num,by rw[HC'.o],by rw[<- ES.o];exact O2.o,HON.o.set _ _,HBL.o.setCell HBS.o _⟩
     case measure=>simp[intOf];omega
   ·have hkl':¬(k:Int)<(lb:Int):=by omega
    have hy0:y=0:=by rw[hy];unfold part;rw[if_neg hkl]
    have et:D=t:=by rw[ht,hy0,Int.mul_zero];omega
    subst et;clear hy ht;by_cases hxt:x<tm
    ·obtain⟨s1a,s1b⟩:=s1 hxt;have w6:=IntWalk.u32_in (x+1000000000-tm) (by omega);rw[s1a] at w6;rw[s1b] at w5;have S1:=qh (And.intro s1a s1b);have O1:=qh (HO.o.put (t:=at' + k) (v:=x+1000000000) hlt (by omega));have O2:=qh (O1.o.put (t:=at' + k) (v:=cd) hlt (by have:=HCD.o;omega));have hcd0:=HCD.o;clear s1 s2;go_wp2_with fail
     go_roundw
     case rel=>exact⟨k+1,by omega,by go_num,by rw[HC'.o],by rw[<- ES.o,<- jea _ _ (x+1000000000) cd];exact O2.o,(HON.o.set _ _).set _ _,(HBL.o.setCell HBS.o _).setCell HBS.o _⟩
     case measure=>simp[intOf];omega
    ·obtain⟨s1a,s1b⟩:=s2 hxt;have w6:=IntWalk.u32_in (x-tm) (by omega);rw[s1a] at w6;have S1:=qh (And.intro s1a s1b);have O2:=qh (HO.o.put (t:=at' + k) (v:=cd) hlt (by have:=HCD.o;omega));clear s1 s2;go_wp2_with fail
     go_roundw
     case rel=>exact⟨k+1,by omega,by go_num,by rw[HC'.o],by rw[<- ES.o];exact O2.o,HON.o.set _ _,HBL.o.setCell HBS.o _⟩
     case measure=>simp[intOf];omega
  ·obtain rfl:k=m:=by omega
   have hlt':¬(at':Int)+(k:Int)<(n:Int):=by omega
   clear hnn;go_wp2_with fail
   go_end0;exact⟨rfl,HO.o,HON.o,HBL.o⟩
theorem Own.made (w:World) (n:Nat) (o:Nat->Int):Own 160 (w.alloc (.cells (madeCells #[Value.int .u32 0] n) 160)) w.heap.size (some ⟨w.heap.size,0,none⟩) 0 n o :=
 ⟨Nat.zero_le _,Or.inr ⟨_,_,rfl,zj,heap_alloc_new w _,by rw[size_madeCells];exact zj,fun i hi=>by omega⟩,fun i hi=>by omega⟩
theorem jfo {w wr w2:World} {base g k N:Nat} {o:Nat->Int} {a':Option Addr} {c':Nat} {x:Obj} {v:Int} (hG:Below base w wr) (hbw:base<=wr.heap.size) (hg:base<=g)
  (hown:Own 160 w2 base a' (k+1) c' (upd o k v)) (hk:k+1<=N)
  (hcase:(a'=some ⟨g,0,none⟩/\c'=N/\(wr.alloc x).grownBy w2 (some g))\/((∃ g',a'=some ⟨g',0,none⟩/\wr.heap.size+1<=g')/\(wr.alloc x).grownBy w2 none/\N<k+1)) :
  a'=some ⟨g,0,none⟩/\c'=N/\Below base w w2:=by
 rcases hcase with ⟨rfl,rfl,h⟩ | ⟨_,_,h⟩
 ·exact⟨rfl,rfl,(hG.alloc hbw x).grown h (by simp;omega) (fun q hq=>by cases hq;exact hg)⟩
 ·omega
theorem Vw (a:Option Addr) (n ca:Nat) (o:Nat->Int) (w:World) (ha:Rd w a n o) (hn:n<=100000000) :
  Calls Tryz.prog 170 #[.slice a n ca] w fun e w'=>∃ g,e=.returned (.slice (some ⟨g,0,none⟩) n (n+1))/\Own 160 w' w.heap.size (some ⟨g,0,none⟩) (n+1) (n+1) (tw o n)/\Below w.heap.size w w':=by
 obtain⟨i0,hi,hz0,hz1,hz2⟩:=info_parts Qt;have e1:=IntWalk.i64_in ((n:Int)+1) (by omega)
 have hmk:∀ w:World,(Instr.makeSlice 24 (.int .i64 0) (.int .i64 ((n:Int)+1))).run Tryz.prog w=.ok (.slice (some ⟨w.heap.size,0,none⟩) 0 (n+1)) (w.alloc (.cells (madeCells #[Value.int .u32 0] (n+1)) 160)):=by
  intro w;have h:=run_make (P:=Tryz.prog) w 24 160 i0 _ Tryz.underlying24 hi hz0 .i64 .i64 0 ((n:Int)+1) (by omega) (by omega) (by rw[hz2];omega) (by omega);rw[hz1,show((n:Int)+1).toNat=n+1 by omega,Nat.mul_one] at h;exact h
 have HA:=qh ha;clear ha hz0 hz1 hz2 hi;go_enter Tryz.func170,Tryz.ntmps170;go_wp2_with fail
 go_loopw [3,4] (fun t i wr=>∃ k:Nat,k<=n/\i=.int .i64 k/\t=.slice (some ⟨w.heap.size,0,none⟩) k (n+1)/\(∃ p,(∀ q,q<k->p q=o q)/\Own 160 wr w.heap.size (some ⟨w.heap.size,0,none⟩) k (n+1) p)/\Below w.heap.size w wr) (fun _ i _=>n-(intOf i).toNat)
 case atStart=>exact⟨0,by omega,rfl,rfl,⟨o,fun _ _=>rfl,Own.made w (n+1) o⟩,qg⟩
 case round =>
  obtain⟨k,hk,rfl,rfl,⟨p,hp,hO⟩,hG⟩:=hrel;have HP:=qh hp;have HO:=qh hO;have HG:=qh hG;clear hp hO hG hmk;by_cases hkn:k<n
  ·obtain⟨b1,o1,rfl,hc1⟩:=(HA.o.below HG.o).cells (by omega);have c1:wr.cell? ⟨b1,o1+k,none⟩=some (.int .u32 (o k)):=hc1 k hkn;have rng:=HA.o.rng k hkn;clear hc1
   go_wp2_with (first
    | (at_builtin;refine Book.Zm rfl _ _ rfl (by rfl) (HO.o.JK _) (by omega) (by have:=HG.o.size;simp;omega) (v:=o k) (by rfl) ?c1 rng (by rfl) ?_))
   case c1=>simp
   intro a' c' w2 hown hcase;obtain⟨rfl,rfl,hb2⟩:=jfo (N:=n+1) HG.o HG.o.size zj hown (by omega) (hcase.imp id fun ⟨h1,h2,h3⟩=>⟨h1,h2,by omega⟩);have NO:=qh hown;have NG:=qh hb2;clear hown hcase hb2;go_wp2_with fail
   go_roundw
   case rel =>
    refine⟨k+1,by omega,by go_num,rfl,⟨_,fun q hq=>?_,NO.o⟩,NG.o⟩;by_cases e:q=k
    ·subst e;exact upd_same _ _ _
    ·rw[upd_ne _ _ e];exact HP.o q (by omega)
   case measure=>simp[intOf];omega
  ·obtain rfl:k=n:=by omega
   go_wp2_with (first
    | (at_builtin;refine Book.Zm rfl _ _ rfl (by rfl) (HO.o.JK _) (by omega) (by have:=HG.o.size;simp;omega) (v:=77) (by rfl) ?c1 (by omega) (by rfl) ?_))
   case c1=>simp
   intro a' c' w2 hown q1 q2 q3;subst q1;subst q2;have NO:=qh hown;have NG:=qh ((HG.o.alloc HG.o.size (.cells #[Value.int .u32 77] 160)).grown q3 (by have:=HG.o.size;simp;omega) (fun q hq=>by cases hq;exact zj))
   have x1:(k:Int)<=(k:Int)+1:=by omega
   clear hown q3;go_wp2_with fail
   go_ret;refine⟨_,rfl,NO.o.congr fun i hi=>?_,NG.o⟩
   show _=if i<k then o i else 77
   by_cases e:i<k
   ·rw[if_pos e,upd_ne _ _ (by omega)];exact HP.o i e
   ·rw[if_neg e,show i=k by omega];exact upd_same _ _ _
theorem Yo (s:Bool) (a:Option Addr) (n ca:Nat) (o:Nat->Int) (w:World) (ha:Rd w a n o) (hn:n<=100000000) :
  Calls Tryz.prog 68 #[Jy s a n ca] w fun e w'=>∃ g,e=.returned (Jy s (some ⟨g,0,none⟩) n (n+1))/\Own 160 w' w.heap.size (some ⟨g,0,none⟩) (n+1) (n+1) (tw o n)/\Below w.heap.size w w':=by
 have HR:=qh ha;have B1:=((Bx.new w 26 (.bool s) (.slice a n ca)).alloc (.cells #[.bool false,.slice none 0 0] 26));have B2:=(Bx.X6 w (.cells #[.bool s,.slice a n ca] 26) 26 (.bool false) (.slice none 0 0));clear ha;go_enter Tryz.func68,Tryz.ntmps68
 go_upto_region 1 with (fail)
 obtain⟨W,hW⟩:∃ W,W=((w.alloc (.cells #[.bool s,.slice a n ca] 26)).alloc (.cells #[.bool false,.slice none 0 0] 26)):=⟨_,rfl⟩;have G1:=qh ((zk.alloc (by go_size) _ |>.alloc (by go_size) _):Below w.heap.size w ((w.alloc (.cells #[.bool s,.slice a n ca] 26)).alloc (.cells #[.bool false,.slice none 0 0] 26)));rw[<- hW] at B1 B2 G1;rw[show((w.alloc (.cells #[.bool s,.slice a n ca] 26)).alloc (.cells #[.bool false,.slice none 0 0] 26))=W from hW.symm];have HB1:=qh B1;have HB2:=qh B2;clear hW B1 B2;have HS1:=qh (fun (w':World) (hb:Below W.heap.size W w')=>And.intro (HB1.o.bl hb).c0 (HB1.o.bl hb).c1);have TW:=qh (fun (w':World) (hb:Below W.heap.size W w')=>Vw a n ca o w' (HR.o.below (G1.o.trans (hb.mono G1.o.size))) hn)
 refine Jc 6 (JM [(4,Sp.made (fun g:Nat=>.slice (some ⟨g,0,none⟩) n (n+1)) (fun g w'=>Own 160 w' W.heap.size (some ⟨g,0,none⟩) (n+1) (n+1) (tw o n)))])
  (fun w'=>Below W.heap.size W w') (by kernel_rfl) (by kernel_rfl)
  (Jd (Sp.Jg fun x w w' h hb=>h.below hb) Jl) (fun _ _ h hb=>h.trans (hb.mono h.size)) (zk.drew) ?_
 simp only[zx,zy,zv,zw]
 iterate 4
  (refine Jb rfl rfl ?_ (fun w' hw'=>?_) ?_;rotate_left;· (have hb':=Has.world hw';(have hs:=HS1.o _ hb');clear hw';go_simp;try rfl))
 (refine Jf rfl rfl (fun w' hw'=>?_) ?_;· (have hb':=Has.world hw';go_simp;((refine(TW.o w' hb').mono ?_;rintro e w'' ⟨g,rfl,hO,hb⟩;exact⟨_,rfl,⟨⟨g,rfl⟩,⟨g,rfl,hO.mono hb'.size⟩⟩,hb⟩))))
 rintro _ ⟨g,rfl⟩
 (refine Jb rfl rfl ?_ (fun w' hw'=>?_) ?_;rotate_left;· (have hb':=Has.world hw';(skip);clear hw';go_simp;try rfl))
 refine Jn (fun w5 hb5 hF5=>?_)
 have OA:Own 160 w5 W.heap.size (some ⟨g,0,none⟩) (n+1) (n+1) (tw o n):=by
  obtain⟨x,e,h⟩:=hF5 4
  cases e
  exact h
 have HO:=qh OA;have B2:=HB2.o.bl hb5;have HB5:=qh B2;obtain⟨b30,b31,b32,b33⟩:=B2.all;have HG5:=qh (G1.o.trans (hb5.mono G1.o.size));have hz4:=HB2.o.lt;have hz5:=G1.o.size;clear hF5 OA B2 hb5 HS1 TW;go_wp2_with fail
 refine bodyPost_ret (Je rfl _ _ _ _ _ _ _ rfl (HB5.o.set _ _) Tryz.underlying26 rfl (by kernel_rfl)) rfl ⟨g,rfl,?_,?_⟩
 ·exact((HO.o.oz).oz).mono hz5
 ·exact(HG5.o.sc).sc
end Limb
end Go.Proofs.YtgkkbkoiaccmfaaGreatDoor
namespace Go.Fresh
open Go.RowKit
variable {P:Program} {ops:Array Oper} {md:Region.Mode} {C:World->Prop}
end Go.Fresh
namespace Go.Proofs.YtgkkbkoiaccmfaaGreatDoor
namespace Limb
open Go.RowKit Go.Sort Go.Fresh
structure Num1 where
 b:Nat
 s:Bool
 a:Option Addr
 n:Nat
 c:Nat
 o:Nat->Int
def Good (lo:Nat) (w:World) (x:Num1):Prop:=Bx w x.b 26 (.bool x.s) (.slice x.a x.n x.c)/\Own 160 w lo x.a x.n x.c x.o
def Asunder (x y:Num1):Prop:=∀ p q,x.a=some p->y.a=some q->p.block≠q.block
def All (lo:Nat) (w:World) (L:List Num1):Prop:=(∀ x∈L,Good lo w x)/\L.Pairwise Asunder
theorem All.nil (lo:Nat) (w:World):All lo w []:=⟨fun x h=>(by cases h),List.Pairwise.nil⟩
end Limb
namespace Book
open Go.RowKit Go.Sort Go.Fresh Limb
structure BkB (w:World) (b vb k cap vt kt ct:Nat) (A:Nat->Option Addr) (N C:Nat->Nat) (O:Nat->Nat->Int) (ν:Nat->Nat) (At:Nat->Option Addr) (Nt Ct:Nat->Nat) (Ot:Nat->Nat->Value) (μ:Nat->Nat) (f:Nat->Value):Prop where
 hk:k<=30000
 hkt:kt<=30000
 hν:∀ j,j<k->ν j<=30000
 hμ:∀ j,j<kt->μ j<=30000
 hB:w.rowIs b 53 13 f
 f2:f 2=.slice (some ⟨vb,0,none⟩) k cap
 f6:f 6=.slice (some ⟨vt,0,none⟩) kt ct
 hz:∀ i,0<i->i<13->i≠2->i≠6->f i=.slice none 0 0
 hA:ZT ν w vb k A N C (fun _=>.slice none 0 0)
 hT:ZL μ w vt kt At Nt Ct (fun _=>.slice none 0 0)
 hO:∀ j,j<k->Own 160 w 0 (A j) (N j) (C j) (O j)
 hOt:∀ j,j<kt->J5 w 0 (At j) (Nt j) (Ct j) (Ot j)
 hN:∀ j,j<k->N j<=900000000
 hNt:∀ j,j<kt->Nt j<=100000000
 S:(¬UA k A b/\¬UA k A vb)/\¬UA k A vt
 St:(¬UA kt At b/\¬UA kt At vt)/\¬UA kt At vb
 hD:Part k A
 hDt:Part kt At
 DD:∀ g,UA k A g->¬UA kt At g
 ne:b≠vb/\b≠vt/\vb≠vt
theorem jcy (b vb k cap vt kt ct:Nat) (A:Nat->Option Addr) (N C:Nat->Nat) (O:Nat->Nat->Int) (ν:Nat->Nat) (At:Nat->Option Addr) (Nt Ct:Nat->Nat) (Ot:Nat->Nat->Value) (μ:Nat->Nat) (f:Nat->Value) (w:World) (h:BkB w b vb k cap vt kt ct A N C O ν At Nt Ct Ot μ f) :
  Calls Tryz.prog 25 #[.pointer (some ⟨b,0,none⟩)] w fun e w'=>e=.returned (.bool true)/\Touch (fun g=>(UA k A g\/g=vb)\/(UA kt At g\/g=vt)) w w':=by
 have HH:=qh h;have HZ:=qh h.hz;have H0:=qh h.hB;have HP:=qh (show ∀ g,UA k A g->g<w.heap.size from fun g ⟨j,hj,p,hp,e⟩=>by rw[<- e];exact((h.hO j hj).blk hp).2.2);have HPT:=qh (show ∀ g,UA kt At g->g<w.heap.size from fun g ⟨j,hj,p,hp,e⟩=>by rw[<- e];exact((h.hOt j hj).blk hp).2.2);have HVB:=qh (show vb<w.heap.size from h.hA.lt);have HVT:=qh (show vt<w.heap.size from h.hT.lt);clear h;have N0:=qh (fun i (h1:0<i) (h2:i<13) (h3:i≠2) (h4:i≠6)=>(show w.cell? ⟨b,i,none⟩=some (.slice none 0 0) by rw[H0.o.cell h2,HZ.o i h1 h2 h3 h4]));have F:=qh (jfj b vb k cap A N C O f ν w HH.o.hk HH.o.hν HH.o.hB HH.o.f2 HH.o.hA HH.o.hO (fun j hj=>by have:=HH.o.hN j hj;omega) HH.o.S.1 HH.o.hD);go_enter Tryz.func25,Tryz.ntmps25;go_wp2_with fail
 refine(ja7 b w (N0.o 1 (by omega) (by omega) (by omega) (by omega))).mono ?_;rintro e x ⟨⟨v,rfl⟩,hx⟩;obtain rfl:=hx.symm;go_wp2_with fail
 refine F.o.mono ?_;rintro e w1 ⟨⟨v,rfl⟩,hT,hO1⟩;have T1:=qh hT;have HO1:=qh hO1;have H1:=qh (H0.o.of_block (hT.block _ H0.o.lt HH.o.S.1.1));have HA1:=qh (HH.o.hA.keep (hT.block _ HVB.o HH.o.S.1.2));have HT1:=qh (HH.o.hT.keep (hT.block _ HVT.o HH.o.S.2));have HOT1:=qh (fun j (hj:j<kt)=>(HH.o.hOt j hj).keep fun p hp=>hT.block _ ((HH.o.hOt j hj).blk hp).2.2 fun hu=>HH.o.DD _ hu ⟨j,hj,p,hp,rfl⟩);clear hT hO1 N0 F;have N1:=qh (fun i (h1:0<i) (h2:i<13) (h3:i≠2) (h4:i≠6)=>(show w1.cell? ⟨b,i,none⟩=some (.slice none 0 0) by rw[H1.o.cell h2,HZ.o i h1 h2 h3 h4]));have FT:=qh (V6 b vt kt ct At Nt Ct Ot f μ w1 HH.o.hkt HH.o.hμ H1.o HH.o.f6 HT1.o HOT1.o HH.o.hNt HH.o.St.1 HH.o.hDt);go_wp2_with fail
 refine(jba b w1 (N1.o 3 (by omega) (by omega) (by omega) (by omega))).mono ?_;rintro e x ⟨⟨v,rfl⟩,hx⟩;obtain rfl:=hx.symm;go_wp2_with fail
 refine(VD b w1 (N1.o 4 (by omega) (by omega) (by omega) (by omega))).mono ?_;rintro e x ⟨⟨v,rfl⟩,hx⟩;obtain rfl:=hx.symm;go_wp2_with fail
 refine(jdx b w1 (N1.o 5 (by omega) (by omega) (by omega) (by omega))).mono ?_;rintro e x ⟨⟨v,rfl⟩,hx⟩;obtain rfl:=hx.symm;go_wp2_with fail
 refine FT.o.mono ?_;rintro e w2 ⟨⟨v,rfl⟩,hT,hO2⟩;have T2:=qh ((T1.o.mono fun g hg=>Or.inl (Or.inl hg)).trans (hT.mono fun g hg=>(Or.inr (Or.inl hg):(UA k A g\/g=vb)\/(UA kt At g\/g=vt))));have HOT2:=qh hO2;have H2:=qh (H1.o.of_block (hT.block _ H1.o.lt HH.o.St.1.1));have HA2:=qh (HA1.o.keep (hT.block _ HA1.o.lt HH.o.St.2));have HT2:=qh (HT1.o.keep (hT.block _ HT1.o.lt HH.o.St.1.2));have HO2:=qh (fun j (hj:j<k)=>(HO1.o j hj).keep fun p hp=>hT.block _ ((HO1.o j hj).blk hp).2.2 fun hu=>HH.o.DD _ ⟨j,hj,p,hp,rfl⟩ hu);clear hT hO2 N1 FT HO1 HOT1;have N2:=qh (fun i (h1:0<i) (h2:i<13) (h3:i≠2) (h4:i≠6)=>(show w2.cell? ⟨b,i,none⟩=some (.slice none 0 0) by rw[H2.o.cell h2,HZ.o i h1 h2 h3 h4]));have G:=qh (jfk b vb k cap A N C f ν w2 HH.o.hk HH.o.hν H2.o HH.o.f2 HA2.o HO2.o HH.o.hN HH.o.S.1 HH.o.hD HH.o.ne.1);go_wp2_with fail
 refine(YJ b w2 (N2.o 7 (by omega) (by omega) (by omega) (by omega))).mono ?_;rintro e x ⟨⟨v,rfl⟩,hx⟩;obtain rfl:=hx.symm;go_wp2_with fail
 refine(jbd b w2 (N2.o 8 (by omega) (by omega) (by omega) (by omega))).mono ?_;rintro e x ⟨⟨v,rfl⟩,hx⟩;obtain rfl:=hx.symm;go_wp2_with fail
 refine(jbg b w2 (N2.o 9 (by omega) (by omega) (by omega) (by omega))).mono ?_;rintro e x ⟨⟨v,rfl⟩,hx⟩;obtain rfl:=hx.symm;go_wp2_with fail
 refine(VG b w2 (N2.o 10 (by omega) (by omega) (by omega) (by omega))).mono ?_;rintro e x ⟨⟨v,rfl⟩,hx⟩;obtain rfl:=hx.symm;go_wp2_with fail
 refine(VJ b w2 (N2.o 11 (by omega) (by omega) (by omega) (by omega))).mono ?_;rintro e x ⟨⟨v,rfl⟩,hx⟩;obtain rfl:=hx.symm;go_wp2_with fail
 refine(VM b w2 (N2.o 12 (by omega) (by omega) (by omega) (by omega))).mono ?_;rintro e x ⟨⟨v,rfl⟩,hx⟩;obtain rfl:=hx.symm;go_wp2_with fail
 refine(ja8 b w2 (N2.o 1 (by omega) (by omega) (by omega) (by omega))).mono ?_;rintro e x ⟨⟨v,rfl⟩,hx⟩;obtain rfl:=hx.symm;go_wp2_with fail
 refine G.o.mono ?_;rintro e w3 ⟨⟨v,rfl⟩,LA,LC,hG⟩;have HG:=qh hG;have T3:=qh (T2.o.trans (hG.tch.mono fun g hg=>(Or.inl hg:(UA k A g\/g=vb)\/(UA kt At g\/g=vt))));have H3:=qh (H2.o.of_block (hG.tch.block _ H2.o.lt (fun h=>h.elim HH.o.S.1.1 (fun h=>HH.o.ne.1 h))));have HT3:=qh (HT2.o.keep (hG.tch.block _ HT2.o.lt (fun h=>h.elim HH.o.S.2 (fun h=>HH.o.ne.2.2 h.symm))));have HOT3:=qh (fun j (hj:j<kt)=>(HOT2.o j hj).keep fun p hp=>hG.tch.block _ ((HOT2.o j hj).blk hp).2.2 fun hu=>hu.elim (fun hu=>HH.o.DD _ hu ⟨j,hj,p,hp,rfl⟩) (fun hu=>HH.o.St.2 ⟨j,hj,p,hp,hu⟩));clear hG N2 G HOT2;have N3:=qh (fun i (h1:0<i) (h2:i<13) (h3:i≠2) (h4:i≠6)=>(show w3.cell? ⟨b,i,none⟩=some (.slice none 0 0) by rw[H3.o.cell h2,HZ.o i h1 h2 h3 h4]));have GT:=qh (V9 b vt kt ct At Nt Ct f μ w3 HH.o.hkt HH.o.hμ H3.o HH.o.f6 HT3.o HOT3.o HH.o.hNt HH.o.St.1 HH.o.hDt HH.o.ne.2.1);go_wp2_with fail
 refine(jbb b w3 (N3.o 3 (by omega) (by omega) (by omega) (by omega))).mono ?_;rintro e x ⟨⟨v,rfl⟩,hx⟩;obtain rfl:=hx.symm;go_wp2_with fail
 refine(VE b w3 (N3.o 4 (by omega) (by omega) (by omega) (by omega))).mono ?_;rintro e x ⟨⟨v,rfl⟩,hx⟩;obtain rfl:=hx.symm;go_wp2_with fail
 refine(jdy b w3 (N3.o 5 (by omega) (by omega) (by omega) (by omega))).mono ?_;rintro e x ⟨⟨v,rfl⟩,hx⟩;obtain rfl:=hx.symm;go_wp2_with fail
 refine GT.o.mono ?_;rintro e w4 ⟨⟨v,rfl⟩,LAt,LCt,hG⟩;have HGT:=qh hG;have T4:=qh (T3.o.trans (hG.tch.mono fun g hg=>(Or.inr hg:(UA k A g\/g=vb)\/(UA kt At g\/g=vt))));have H4:=qh (H3.o.of_block (hG.tch.block _ H3.o.lt (fun h=>h.elim HH.o.St.1.1 (fun h=>HH.o.ne.2.1 h))));have HA4:=qh (HG.o.arr.keep (hG.tch.block _ HG.o.arr.lt (fun h=>h.elim HH.o.St.2 (fun h=>HH.o.ne.2.2 h))));have HO4:=qh (fun j (hj:j<k)=>(HG.o.own j hj).keep fun p hp=>hG.tch.block _ ((HG.o.own j hj).blk hp).2.2 fun hu=>hu.elim (fun hu=>HH.o.DD _ ⟨j,hj,p,hp,rfl⟩ hu) (fun hu=>HH.o.S.2 ⟨j,hj,p,hp,hu⟩))
 have HL4:=qh (fun j (hj:j<k)=>(HG.o.lng j hj).1.keep fun p hp=>hG.tch.block _ ((HG.o.lng j hj).1.blk hp).2.2 fun hu=>by
  rcases(HG.o.lng j hj).2 with h | ⟨g,h,hlt⟩
  ·rw[h] at hp;exact hu.elim (fun hu=>HH.o.DD _ ⟨j,hj,p,hp,rfl⟩ hu) (fun hu=>HH.o.S.2 ⟨j,hj,p,hp,hu⟩)
  ·rw[h] at hp
   cases hp
   have hsz:=T2.o.size
   rcases hu with hu | hu
   ·have h9:=HPT.o _ hu;have h10:g<w.heap.size:=h9;omega
   ·have h9:=HVT.o;have h10:g=vt:=hu
    omega)
 clear hG N3 GT;have N4:=qh (fun i (h1:0<i) (h2:i<13) (h3:i≠2) (h4:i≠6)=>(show w4.cell? ⟨b,i,none⟩=some (.slice none 0 0) by rw[H4.o.cell h2,HZ.o i h1 h2 h3 h4]));have L:=qh (jfl b vb k cap A LA N C LC f ν w4 HH.o.hk HH.o.hν H4.o HH.o.f2 (HA4.o.congr fun j hj=>by rw[if_pos hj]) HO4.o HL4.o HH.o.hN);go_wp2_with fail
 refine(YK b w4 (N4.o 7 (by omega) (by omega) (by omega) (by omega))).mono ?_;rintro e x ⟨⟨v,rfl⟩,hx⟩;obtain rfl:=hx.symm;go_wp2_with fail
 refine(jbe b w4 (N4.o 8 (by omega) (by omega) (by omega) (by omega))).mono ?_;rintro e x ⟨⟨v,rfl⟩,hx⟩;obtain rfl:=hx.symm;go_wp2_with fail
 refine(jbh b w4 (N4.o 9 (by omega) (by omega) (by omega) (by omega))).mono ?_;rintro e x ⟨⟨v,rfl⟩,hx⟩;obtain rfl:=hx.symm;go_wp2_with fail
 refine(VH b w4 (N4.o 10 (by omega) (by omega) (by omega) (by omega))).mono ?_;rintro e x ⟨⟨v,rfl⟩,hx⟩;obtain rfl:=hx.symm;go_wp2_with fail
 refine(VK b w4 (N4.o 11 (by omega) (by omega) (by omega) (by omega))).mono ?_;rintro e x ⟨⟨v,rfl⟩,hx⟩;obtain rfl:=hx.symm;go_wp2_with fail
 refine(VN b w4 (N4.o 12 (by omega) (by omega) (by omega) (by omega))).mono ?_;rintro e x ⟨⟨v,rfl⟩,hx⟩;obtain rfl:=hx.symm;go_wp2_with fail
 refine(ja9 b w4 (N4.o 1 (by omega) (by omega) (by omega) (by omega))).mono ?_;rintro e x ⟨rfl,hx⟩;obtain rfl:=hx.symm;go_wp2_with fail
 refine L.o.mono ?_;rintro e w5 ⟨rfl,hb⟩;have T5:=qh (T4.o.trans (Touch.of_below hb));have H5:=qh (H4.o.of_block (hb.block _ H4.o.lt));have LT:=qh (Ub b vt kt ct At LAt Nt Ct LCt f μ w5 HH.o.hkt HH.o.hμ H5.o HH.o.f6 ((HGT.o.arr.keep (hb.block _ HGT.o.arr.lt)).congr fun j hj=>by rw[if_pos hj]) (fun j hj=>(HGT.o.own j hj).below hb) (fun j hj=>(HGT.o.lng j hj).1.below hb) HH.o.hNt);clear hb N4 L;have N5:=qh (fun i (h1:0<i) (h2:i<13) (h3:i≠2) (h4:i≠6)=>(show w5.cell? ⟨b,i,none⟩=some (.slice none 0 0) by rw[H5.o.cell h2,HZ.o i h1 h2 h3 h4]));go_wp2_with fail
 refine(jbc b w5 (N5.o 3 (by omega) (by omega) (by omega) (by omega))).mono ?_;rintro e x ⟨rfl,hx⟩;obtain rfl:=hx.symm;go_wp2_with fail
 refine(VF b w5 (N5.o 4 (by omega) (by omega) (by omega) (by omega))).mono ?_;rintro e x ⟨rfl,hx⟩;obtain rfl:=hx.symm;go_wp2_with fail
 refine(jdz b w5 (N5.o 5 (by omega) (by omega) (by omega) (by omega))).mono ?_;rintro e x ⟨rfl,hx⟩;obtain rfl:=hx.symm;go_wp2_with fail
 refine LT.o.mono ?_;rintro e w6 ⟨rfl,hb⟩;have T6:=qh (T5.o.trans (Touch.of_below hb));have H6:=qh (H5.o.of_block (hb.block _ H5.o.lt));clear hb N5 LT;have N6:=qh (fun i (h1:0<i) (h2:i<13) (h3:i≠2) (h4:i≠6)=>(show w6.cell? ⟨b,i,none⟩=some (.slice none 0 0) by rw[H6.o.cell h2,HZ.o i h1 h2 h3 h4]));go_wp2_with fail
 refine(YL b w6 (N6.o 7 (by omega) (by omega) (by omega) (by omega))).mono ?_;rintro e x ⟨rfl,hx⟩;obtain rfl:=hx.symm;go_wp2_with fail
 refine(jbf b w6 (N6.o 8 (by omega) (by omega) (by omega) (by omega))).mono ?_;rintro e x ⟨rfl,hx⟩;obtain rfl:=hx.symm;go_wp2_with fail
 refine(jbi b w6 (N6.o 9 (by omega) (by omega) (by omega) (by omega))).mono ?_;rintro e x ⟨rfl,hx⟩;obtain rfl:=hx.symm;go_wp2_with fail
 refine(VI b w6 (N6.o 10 (by omega) (by omega) (by omega) (by omega))).mono ?_;rintro e x ⟨rfl,hx⟩;obtain rfl:=hx.symm;go_wp2_with fail
 refine(VL b w6 (N6.o 11 (by omega) (by omega) (by omega) (by omega))).mono ?_;rintro e x ⟨rfl,hx⟩;obtain rfl:=hx.symm;go_wp2_with fail
 refine(VO b w6 (N6.o 12 (by omega) (by omega) (by omega) (by omega))).mono ?_;rintro e x ⟨rfl,hx⟩;obtain rfl:=hx.symm;go_wp2_with fail
 go_ret;exact⟨rfl,T6.o⟩
end Book
namespace Limb
open Go.RowKit Go.Sort Go.Fresh
theorem Bx.new4 (w:World) (p q r:Obj) (t:TypeId) (x y:Value):Bx ((((w.alloc p).alloc q).alloc r).alloc (.cells #[x,y] t)) (w.heap.size+1+1+1) t x y:=by
 have h:=Bx.new (((w.alloc p).alloc q).alloc r) t x y;simp only[World.size_alloc] at h;exact h
theorem Xz {P:Program} {fn:Func} {p q t:Tmp} {ty:TypeId} (h:fn.results=#[.cell p ty,.cell q ty,.tmp t]) (tmps:Array Value) (w:World) (g g2:Nat) (ta tb:TypeId) (cs cs2:Array Value) (fr fr2:Nat × Nat) (d:TypeDesc)
  (hp:tmps.getD p undef=.pointer (some ⟨g,0,none⟩)) (hg:w.heap[g]?=some (.cells cs ta fr)) (hq:tmps.getD q undef=.pointer (some ⟨g2,0,none⟩)) (hg2:w.heap[g2]?=some (.cells cs2 tb fr2))
  (hu:P.underlying ty=some d) (hd:(match d with | .struct _ | .array _ _=>true | _=>false)=true) (hi:(P.info? ty).map (·.size)=some cs.size) (hi2:(P.info? ty).map (·.size)=some cs2.size) :
  (results fn tmps).run P w=.ok (.tuple #[.agg cs,.agg cs2,tmps.getD t undef]) w:=by
 have hp':tmps[p]?.getD undef=.pointer (some ⟨g,0,none⟩):=by simpa using hp
 have hq':tmps[q]?.getD undef=.pointer (some ⟨g2,0,none⟩):=by simpa using hq
 simp[results,h,hp',hq',asAddr,run_loadVar_row w g ta ty cs fr d hg hu hd hi,run_loadVar_row w g2 tb ty cs2 fr2 d hg2 hu hd hi2]
def Xk (a b:Option Addr):Prop:=∀ p q,a=some p->b=some q->p.block≠q.block
def DivR (w:World) (x y:Int) (e:Ending) (w':World):Prop :=
 ∃ aq ar,e=.returned (.tuple #[Jy (decide (x/y<0)) aq (Ja (x/y).natAbs) (Ja (x/y).natAbs),Jy (decide (x%y<0)) ar (Ja (x%y).natAbs) (Ja (x%y).natAbs),.int .i64 0]) /\
  Own 160 w' w.heap.size aq (Ja (x/y).natAbs) (Ja (x/y).natAbs) (dgi (x/y).natAbs)/\Own 160 w' w.heap.size ar (Ja (x%y).natAbs) (Ja (x%y).natAbs) (dgi (x%y).natAbs) /\
  Xk aq ar/\(aq=none->Ja (x/y).natAbs=0)/\(ar=none->Ja (x%y).natAbs=0)/\Below w.heap.size w w'
structure XT (w:World) (lo:Nat) (a:Option Addr) (K c N:Nat) (o:Nat->Int):Prop where
 own:Own 160 w lo a K c o
 dig:Dig o K
 sum:Jh o K=(N:Int)
 le:K<=100000001
 nil:a=none->c=0
theorem XT.below {w w':World} {lo:Nat} {a:Option Addr} {K c N:Nat} {o:Nat->Int} (h:XT w lo a K c N o) (hb:Below w.heap.size w w'):XT w' lo a K c N o:=⟨h.own.below hb,h.dig,h.sum,h.le,h.nil⟩
theorem XT.other {w:World} {lo:Nat} {a:Option Addr} {K c N:Nat} {o:Nat->Int} (h:XT w lo a K c N o) {p:Addr} (hp:p.block<lo) (v:Value):XT (w.setCell p v) lo a K c N o:=⟨h.own.other hp v,h.dig,h.sum,h.le,h.nil⟩
theorem XT.oz {w:World} {lo:Nat} {a:Option Addr} {K c N:Nat} {o:Nat->Int} (h:XT w lo a K c N o) {p:Addr} {v:Value} (hp:p.block<lo:=by dsimp only;omega):XT (w.setCell p v) lo a K c N o:=h.other hp v
theorem XT.num {w:World} {lo:Nat} {a:Option Addr} {K c N:Nat} {o:Nat->Int} (h:XT w lo a K c N o):Own 160 w lo a (Ja N) (Ja N) (dgi N):=by
 have hs:(Jh o K).toNat=N:=by rw[h.sum];omega
 have hl:=JS h.dig;rw[hs] at hl
 refine h.own.cut hl fun i hi=>?_
 have:=XH h.dig i (by omega);rw[hs] at this;exact this.symm
theorem XT.none {w:World} {lo:Nat} {a:Option Addr} {K c N:Nat} {o:Nat->Int} (h:XT w lo a K c N o) (ha:a=none):Ja N=0:=by
 have hs:(Jh o K).toNat=N:=by rw[h.sum];omega
 have hl:=JS h.dig;rw[hs] at hl;have h1:=h.nil ha;have h2:=h.own.le;omega
theorem Kw (s sB:Bool) (a:Option Addr) (K c N lo:Nat) (o:Nat->Int) (w:World) (h:XT w lo a K c N o) (hB:(s&&decide (0<Ja N))=sB) :
  Calls Tryz.prog 213 #[.bool s,.slice a K c] w fun e w'=>e=.returned (Jy sB a (Ja N) (Ja N))/\Own 160 w' lo a (Ja N) (Ja N) (dgi N)/\Below w.heap.size w w':=by
 have hC:=XI s a K c o w h.own.rd h.dig (by have:=h.le;omega) h.own.le h.nil
 have hs:(Jh o K).toNat=N:=by rw[h.sum];omega
 rw[hs,hB] at hC;refine hC.mono ?_;rintro e w' ⟨rfl,hb⟩;refine⟨rfl,(h.own.below hb).cut ?_ ?_,hb⟩
 ·rw[<- hs];exact JS h.dig
 ·intro i hi;have:=XH h.dig i (by have:=JS h.dig;rw[hs] at this;omega);rw[hs] at this;exact this.symm
theorem short_of {g n b:Nat} {A R:Int} {w:World} (h:∃ x:Nat,Value.tuple #[.slice (some ⟨g,0,none⟩) n n,.int .u32 R]=.tuple #[.slice (some ⟨x,0,none⟩) n n,.int .u32 R]/\∃ p,Dig p n/\Jh p n=A/\Own 160 w b (some ⟨x,0,none⟩) n n p) :
  ∃ p,Dig p n/\Jh p n=A/\Own 160 w b (some ⟨g,0,none⟩) n n p:=by
 obtain⟨x,e,h⟩:=h;simp only[Value.tuple.injEq,Array.mk.injEq,List.cons.injEq,Value.slice.injEq,Option.some.injEq,Addr.mk.injEq,and_true] at e;rw[e];exact h
open Classical in
theorem YC (z1 z2:Int) (a1 a2:Option Addr) (c1 c2:Nat) (w:World) (h1:Rd w a1 (Ja z1.natAbs) (dgi z1.natAbs)) (hn1:Ja z1.natAbs<=10000000) (hc1:Ja z1.natAbs<=c1) (h2:Rd w a2 (Ja z2.natAbs) (dgi z2.natAbs)) (hn2:Ja z2.natAbs<=10000000) (hc2:Ja z2.natAbs<=c2) (hz:z2≠0) :
  Calls Tryz.prog 135 #[Jy (decide (z1<0)) a1 (Ja z1.natAbs) c1,Jy (decide (z2<0)) a2 (Ja z2.natAbs) c2] w (DivR w z1 z2):=by
 obtain⟨N1,hN1⟩:∃ N1,N1=Ja z1.natAbs:=⟨_,rfl⟩;obtain⟨N2,hN2⟩:∃ N2,N2=Ja z2.natAbs:=⟨_,rfl⟩;obtain⟨s1,hs1⟩:∃ s1,s1=decide (z1<0):=⟨_,rfl⟩;obtain⟨s2,hs2⟩:∃ s2,s2=decide (z2<0):=⟨_,rfl⟩
 have hpos:0<N2:=by rw[hN2];exact Xm.2 (by omega)
 have ok1:=J9 z1;have ok2:=J9 z2;have HZ:=qh hz;rw[<- hN1,<- hs1] at ok1;rw[<- hN2,<- hs2] at ok2;rw[<- hN1] at h1 hn1 hc1 ⊢;rw[<- hN2] at h2 hn2 hc2 ⊢;rw[<- hs1,<- hs2];have CK1:=qh (fun (w':World) (hb:Below w.heap.size w w')=>Xa s1 a1 N1 c1 (dgi z1.natAbs) w' (h1.below hb) (by omega));have CK2:=qh (fun (w':World) (hb:Below w.heap.size w w')=>Xa s2 a2 N2 c2 (dgi z2.natAbs) w' (h2.below hb) (by omega));rw[decide_eq_true ok1] at CK1;rw[decide_eq_true ok2] at CK2;have HR:=qh (And.intro h1 h2);have HE:=qh (And.intro (And.intro hN1 hN2) (And.intro hs1 hs2));have B1:=((((Bx.new w 26 (.bool s1) (.slice a1 N1 c1)).alloc (.cells #[.bool s2,.slice a2 N2 c2] 26)).alloc (.cells #[.bool false,.slice none 0 0] 26)).alloc (.cells #[.bool false,.slice none 0 0] 26));have B2:=(((Bx.X6 w (.cells #[.bool s1,.slice a1 N1 c1] 26) 26 (.bool s2) (.slice a2 N2 c2)).alloc (.cells #[.bool false,.slice none 0 0] 26)).alloc (.cells #[.bool false,.slice none 0 0] 26));have B3:=((Bx.new3 w (.cells #[.bool s1,.slice a1 N1 c1] 26) (.cells #[.bool s2,.slice a2 N2 c2] 26) 26 (.bool false) (.slice none 0 0)).alloc (.cells #[.bool false,.slice none 0 0] 26));have B4:=(Bx.new4 w (.cells #[.bool s1,.slice a1 N1 c1] 26) (.cells #[.bool s2,.slice a2 N2 c2] 26) (.cells #[.bool false,.slice none 0 0] 26) 26 (.bool false) (.slice none 0 0));clear ok1 ok2 h1 h2 hN1 hN2 hs1 hs2 hz;go_enter Tryz.func135,Tryz.ntmps135
 go_upto_region 1 with (fail)
 obtain⟨W,hW⟩:∃ W,W=((((w.alloc (.cells #[.bool s1,.slice a1 N1 c1] 26)).alloc (.cells #[.bool s2,.slice a2 N2 c2] 26)).alloc (.cells #[.bool false,.slice none 0 0] 26)).alloc (.cells #[.bool false,.slice none 0 0] 26)):=⟨_,rfl⟩;have G1:=qh ((zk.alloc (by go_size) _ |>.alloc (by go_size) _ |>.alloc (by go_size) _ |>.alloc (by go_size) _):Below w.heap.size w ((((w.alloc (.cells #[.bool s1,.slice a1 N1 c1] 26)).alloc (.cells #[.bool s2,.slice a2 N2 c2] 26)).alloc (.cells #[.bool false,.slice none 0 0] 26)).alloc (.cells #[.bool false,.slice none 0 0] 26)))
 have hWs:w.heap.size+1+1+1+1=W.heap.size:=by rw[hW];simp
 rw[<- hW] at B1 B2 B3 B4 G1;rw[show((((w.alloc (.cells #[.bool s1,.slice a1 N1 c1] 26)).alloc (.cells #[.bool s2,.slice a2 N2 c2] 26)).alloc (.cells #[.bool false,.slice none 0 0] 26)).alloc (.cells #[.bool false,.slice none 0 0] 26))=W from hW.symm];clear hW;have HB1:=qh B1;have HB2:=qh B2;have HB3:=qh B3;have HB4:=qh B4;have HWS:=qh hWs;clear B1 B2 B3 B4 hWs
 have fb:=fun (w':World) (hb:Below W.heap.size W w')=>And.intro (HB1.o.bl hb) (And.intro (HB2.o.bl hb) (And.intro (HB3.o.bl hb) (HB4.o.bl hb)))
 have FB:=qh fb;clear fb;obtain⟨b10,b11,b12,b13⟩:=HB1.o.all;obtain⟨b20,b21,b22,b23⟩:=HB2.o.all;go_wp2_with fail
 refine(CK1.o _ G1.o).mono ?_;rintro e w1 ⟨rfl,hb1⟩;have K:=FB.o _ hb1;have GB:=qh hb1;clear b10 b11 b12 b13 b20 b21 b22 b23 hb1;obtain⟨b20,b21,b22,b23⟩:=K.2.1.all;clear K;go_wp2_with fail
 refine(CK2.o _ (G1.o.trans (GB.o.mono G1.o.size))).mono ?_;rintro e w2 ⟨rfl,hb2⟩;have GB:=qk GB hb2;have K:=FB.o _ GB.o;clear b20 b21 b22 b23 hb2 CK1 CK2;obtain⟨b10,b11,b12,b13⟩:=K.1.all;obtain⟨b20,b21,b22,b23⟩:=K.2.1.all;clear K;have hne0:decide ((N2:Int)=0)=false:=zo (by omega)
 have hne1:((N2:Int)==0)=false:=by simp;omega
 have AM:=qh (Xc z1.natAbs z2.natAbs a1 a2 c1 c2 w2 (by rw[<- HE.o.1.1];exact HR.o.1.below (G1.o.trans (GB.o.mono G1.o.size))) (by rw[<- HE.o.1.2];exact HR.o.2.below (G1.o.trans (GB.o.mono G1.o.size))) (by have:=HE.o.1.1;omega) (by have:=HE.o.1.2;omega));rw[<- HE.o.1.1,<- HE.o.1.2] at AM;obtain⟨cz,hcz⟩:∃ cz,cz=JB (z1.natAbs:Int) (z2.natAbs:Int):=⟨_,rfl⟩;rw[<- hcz] at AM;have HCZ:=qh hcz;clear hcz
 go_upto_block 1 with (fail)
 go_cut [7,8] (fun v7 v8 wx=>∃ o1 K1 d1 p1 o2 K2 d2 p2,v7=.slice o1 K1 d1/\v8=.slice o2 K2 d2/\XT wx W.heap.size o1 K1 d1 (z1.natAbs/z2.natAbs) p1/\XT wx W.heap.size o2 K2 d2 (z1.natAbs%z2.natAbs) p2/\Xk o1 o2/\Below W.heap.size W wx)
 case first =>
  go_wp2_with fail
  refine AM.o.mono ?_;rintro e w3 ⟨rfl,m,rfl⟩;obtain⟨w3,hw3⟩:∃ w3,w3=w2.drewN m:=⟨_,rfl⟩;rw[<- hw3];have GB:=qh (show Below W.heap.size W w3 by rw[hw3];exact Qh GB.o m);clear hw3 AM b10 b11 b12 b13 b20 b21 b22 b23;have K:=FB.o _ GB.o;obtain⟨b10,b11,b12,b13⟩:=K.1.all;obtain⟨b20,b21,b22,b23⟩:=K.2.1.all;clear K;have HRR:=qh (And.intro (HR.o.1.below (G1.o.trans (GB.o.mono G1.o.size))) (HR.o.2.below (G1.o.trans (GB.o.mono G1.o.size))));by_cases hlt:cz<0
  ·have CL:=qh (Xj a1 N1 c1 (dgi z1.natAbs) w3 HRR.o.1 (by omega));go_wp2_with fail
   refine CL.o.mono ?_;rintro e w4 ⟨x,d,rfl,hO,hn,hb⟩;have HO:=qh (And.intro (hO.mono GB.o.size) hn);have GB:=qk GB hb;clear hO hn hb CL b10 b11 b12 b13 b20 b21 b22 b23;go_wp2_with fail
   go_meet
   case rel =>
    have hAB:z1.natAbs<z2.natAbs:=by
     have h:=HCZ.o
     rcases Nat.lt_or_ge z1.natAbs z2.natAbs with h1 | h1
     ·exact h1
     ·exfalso
      rcases Nat.lt_or_ge z2.natAbs z1.natAbs with h2 | h2
      ·rw[JR (by omega)] at h;omega
      ·rw[J4 (by omega)] at h;omega
    refine⟨none,0,0,fun _=>0,x,N1,d,dgi z1.natAbs,rfl,rfl,⟨⟨zj,Or.inl ⟨rfl,rfl,rfl⟩,fun i hi=>by omega⟩,fun i hi=>by omega,by rw[Nat.div_eq_of_lt hAB];rfl,by omega,fun _=>rfl⟩,
     ⟨HO.o.1,Js _ _,by rw[Nat.mod_eq_of_lt hAB,HE.o.1.1];exact Jz _,by omega,HO.o.2⟩,(fun p q h=>by cases h),GB.o⟩
  ·have hdl:decide (cz<0)=false:=zo hlt
   have hBA:z2.natAbs<=z1.natAbs:=by
    have h:=HCZ.o
    rcases Nat.lt_or_ge z1.natAbs z2.natAbs with h1 | h1
    ·rw[JO (by omega)] at h;omega
    ·exact h1
   have HBA:=qh hBA;clear hBA;by_cases hone:N2=1
   ·subst hone;obtain⟨bb,bo,rfl,hcell⟩:=HRR.o.2.cells (by omega)
    have e0:z2.natAbs<1000000000:=by have:=JG z2.natAbs;rw[<- HE.o.1.2] at this;exact this
    have e1:dgi z2.natAbs 0=(z2.natAbs:Int):=by show((dg z2.natAbs 0:Nat):Int)=_;rw[ZF];omega
    have cc:w3.cell? ⟨bb,bo,none⟩=some (.int .u32 (z2.natAbs:Int)):=by have:=hcell 0 (by omega);rw[Nat.add_zero] at this;rw[this];show some (Value.int .u32 (dgi z2.natAbs 0))=_;rw[e1]
    have SHT:=qh (fun (w':World) (hb:Below w3.heap.size w3 w')=>VY a1 N1 c1 (dgi z1.natAbs) (z2.natAbs:Int) w' (HRR.o.1.below hb) (Js _ _) (by omega) (by have:=HZ.o;omega) (by omega));have HQ:=qh (show Jh (dgi z1.natAbs) N1=(z1.natAbs:Int) by rw[HE.o.1.1];exact Jz _);rw[HQ.o] at SHT;clear hcell e1;have hbb:bb<w3.heap.size:=block_lt_of_cell cc;have HN:=qh e0;clear e0;go_wp2_with fail
    have GB3:=GB
    refine Jc 11 (JM [(6,Sp.made (fun g:Nat=>.tuple #[.slice (some ⟨g,0,none⟩) N1 N1,.int .u32 ((z1.natAbs:Int)%(z2.natAbs:Int))]) (fun g w'=>∃ p,Dig p N1/\Jh p N1=(z1.natAbs:Int)/(z2.natAbs:Int)/\Own 160 w' w3.heap.size (some ⟨g,0,none⟩) N1 N1 p))]) (fun w'=>Below w3.heap.size w3 w') (by kernel_rfl) (by kernel_rfl)
     (Jd (Sp.Jg fun x w w' h hb=>by obtain⟨p,d1,d2,d3⟩:=h;exact⟨p,d1,d2,d3.below hb⟩) Jl) (fun _ _ h hb=>h.trans (hb.mono h.size)) (zk.drew) ?_
    simp only[zx,zy,zv,zw]
    iterate 6
     (refine Jb rfl rfl ?_ (fun w' hw'=>?_) ?_;rotate_left;· (have hb':=Has.world hw';(have hs:=(U7 hb').1 w.heap.size 1 (by omega);have hs:=(U7 hb').1 (w.heap.size+1) 1 (by omega);have hs:=(U7 hb').1 bb bo (by omega));clear hw';go_simp;try rfl))
     conv=>arg 9;simp only[Act.put,zq0,zq1,zq2]
    (refine Jf rfl rfl (fun w' hw'=>?_) ?_;· (have hb':=Has.world hw';go_simp;((refine(SHT.o w' hb').mono ?_;rintro e w'' ⟨p,rfl,d1,d2,d3,hb⟩;exact⟨_,rfl,⟨⟨_,rfl⟩,⟨_,rfl,p,d1,d2,d3.mono hb'.size⟩⟩,hb⟩))))
    rintro _ ⟨g,rfl⟩
    conv=>arg 9;simp only[Act.put,zq0,zq1,zq2]
    iterate 4
     (refine Jb rfl rfl ?_ (fun w' hw'=>?_) ?_;rotate_left;· (have hb':=Has.world hw';(skip);clear hw';go_simp;try rfl))
     conv=>arg 9;simp only[Act.put,zq0,zq1,zq2]
    refine Jn (fun w4 hb4 hF=>?_);obtain⟨p,d1,d2,d3⟩:=short_of (hF 6);have HO:=qh (And.intro d1 (And.intro d2 d3));have hg4:=(d3.blk rfl).2.2;have HGL:=qh (show g<w4.heap.size from hg4);have GB:=qk GB hb4;have HS3:=qh hb4.size;clear hF d1 d2 d3 hb4 hg4 SHT b10 b11 b12 b13 b20 b21 b22 b23 cc;go_wp2_with fail
    go_meet
    case rel =>
     have hgl:=HGL.o;have hgs:=GB.o.size;have hr0:0<=(z1.natAbs:Int)%(z2.natAbs:Int)/\(z1.natAbs:Int)%(z2.natAbs:Int)<1000000000:=⟨Int.emod_nonneg _ (by have:=HZ.o;omega),by have:=Int.emod_lt_of_pos (z1.natAbs:Int) (b:=(z2.natAbs:Int)) (by have:=HZ.o;omega);have:=HN.o;omega⟩
     refine⟨some ⟨g,0,none⟩,N1,N1,p,some ⟨w4.heap.size,0,none⟩,1,1,fun _=>(z1.natAbs:Int)%(z2.natAbs:Int),rfl,rfl,⟨(HO.o.2.2.mono GB3.o.size).JK _,HO.o.1,by rw[HO.o.2.1];exact(Int.natCast_ediv _ _).symm,by omega,fun h=>by cases h⟩,
      ⟨Own.QJ (row_one w4 _ _) hgs (fun i hi=>by omega),fun i hi=>hr0,?_,by omega,fun h=>by cases h⟩,(fun p q hp hq=>by cases hp;cases hq;dsimp only;omega),GB.o.alloc hgs _⟩
     show 0+(z1.natAbs:Int)%(z2.natAbs:Int)*((pw 0:Nat):Int)=_;rw[Qb,Int.natCast_emod];omega
   ·obtain⟨n,hn⟩:∃ n,N2=n+1:=⟨N2-1,by omega⟩;obtain⟨m,hm⟩:∃ m,n=m+1:=⟨n-1,by omega⟩;obtain⟨M,hM⟩:∃ M,M+N2=N1+1:=⟨N1+1-N2,by have:=JQ HBA.o;rw[<- HE.o.1.1,<- HE.o.1.2] at this;omega⟩
    have DV:=qh (jcx a1 a2 N1 c1 N2 n m c2 (N1+1) M (dgi z1.natAbs) (dgi z2.natAbs) w3 HRR.o.1 HRR.o.2 (Js _ _) (Js _ _) (by omega) hn hm rfl hM (by have:=JQ HBA.o;rw[<- HE.o.1.1,<- HE.o.1.2] at this;exact this)
     (by have h:=YI (m:=z2.natAbs) (by have:=HZ.o;omega);rw[<- HE.o.1.2,hn,Nat.add_sub_cancel] at h;show((dg z2.natAbs n:Nat):Int)≠0;omega))
    have hone1:((N2:Int)==1)=false:=by simp;omega
    have HM:=qh hM;have HNN:=qh hn;clear hn hm hM;go_wp2_with fail
    refine DV.o.mono ?_;rintro e w4 ⟨gq,gr,qp,rp,rfl,hne,d1,d2,d3,d4,d5,d6,hb⟩;have HO:=qh (And.intro (And.intro d1 (And.intro d2 d5)) (And.intro d3 (And.intro d4 d6)));have HNE:=qh hne;have hgs:=GB.o.size;have GB4:=qh (GB.o.trans (hb.mono GB.o.size));clear hne d1 d2 d3 d4 d5 d6 hb DV hgs b10 b11 b12 b13 b20 b21 b22 b23;go_wp2_with fail
    go_meet
    case rel =>
     have e1:Jh (dgi z1.natAbs) N1=(z1.natAbs:Int):=by rw[HE.o.1.1];exact Jz _
     have e2:Jh (dgi z2.natAbs) N2=(z2.natAbs:Int):=by rw[HE.o.1.2];exact Jz _
     exact⟨some ⟨gq,0,none⟩,M,M,qp,some ⟨gr,0,none⟩,N2,N2,rp,rfl,rfl,⟨HO.o.1.2.2.mono GB.o.size,HO.o.1.1,by rw[HO.o.1.2.1,e1,e2];exact(Int.natCast_ediv _ _).symm,by have:=HM.o;omega,fun h=>by cases h⟩,
      ⟨HO.o.2.2.2.mono GB.o.size,HO.o.2.1,by rw[HO.o.2.2.1,e1,e2];exact(Int.natCast_emod _ _).symm,by omega,fun h=>by cases h⟩,(fun p q hp hq=>by cases hp;cases hq;exact HNE.o),GB4.o⟩
 case rest =>
  obtain⟨o1,K1,d1,p1,o2,K2,d2,p2,rfl,rfl,A1,A2,hap,hb⟩:=hcut;obtain⟨w4,rfl⟩:∃ w4,w4=wc:=⟨_,rfl⟩;have GB:=qh hb;have HA1:=qh A1;have HA2:=qh A2;have HAP:=qh hap;clear A1 A2 hap hb AM HCZ;obtain⟨sq,hsq⟩:∃ sq,sq=decide (q0 z1 z2<0):=⟨_,rfl⟩;obtain⟨sr,hsr⟩:∃ sr,sr=decide (r0 z1 z2<0):=⟨_,rfl⟩;obtain⟨Lq,hLq⟩:∃ Lq,Lq=Ja (z1.natAbs/z2.natAbs):=⟨_,rfl⟩;obtain⟨Lr,hLr⟩:∃ Lr,Lr=Ja (z1.natAbs%z2.natAbs):=⟨_,rfl⟩;have CQ:=qh (fun (w':World) (hb:Below w4.heap.size w4 w')=>Kw (!(s1==s2)) sq o1 K1 d1 _ W.heap.size p1 w' (HA1.o.below hb) (by rw[HE.o.2.1,HE.o.2.2,hsq];exact jd1 z1 z2));have CR:=qh (fun (w':World) (hb:Below w4.heap.size w4 w')=>Kw s1 sr o2 K2 d2 _ W.heap.size p2 w' (HA2.o.below hb) (by rw[HE.o.2.1,hsr];exact jd2 z1 z2));rw[<- hLq] at CQ;rw[<- hLr] at CR;have HSQ:=qh (And.intro (And.intro hsq hsr) (And.intro hLq hLr));clear hsq hsr hLq hLr;have HS:=qh (fun (w':World) (hb:Below w4.heap.size w4 w')=>And.intro (FB.o w' (GB.o.trans (hb.mono GB.o.size))).1.all.1 (FB.o w' (GB.o.trans (hb.mono GB.o.size))).2.1.all.1)
  go_upto_region 12 with (fail)
  refine Jc 10 (JM [(6,Sp.know (Jy sq o1 Lq Lq))]) (fun w'=>Below w4.heap.size w4 w') (by kernel_rfl) (by kernel_rfl)
   (Jd (Sp.Jm _) Jl) (fun _ _ h hb=>h.trans (hb.mono h.size)) (zk.drew) ?_
  simp only[zx,zy,zv,zw]
  iterate 6
   (refine Jb rfl rfl ?_ (fun w' hw'=>?_) ?_;rotate_left;· (have hb':=Has.world hw';(have hs:=(HS.o _ hb').1;have hs:=(HS.o _ hb').2);clear hw';go_simp;try rfl))
   conv=>arg 9;simp only[Act.put,zq0,zq1,zq2]
  (refine Jf rfl rfl (fun w' hw'=>?_) ?_;· (have hb':=Has.world hw';go_simp;((refine(CQ.o w' hb').mono ?_;rintro e w'' ⟨rfl,ho,hb⟩;exact⟨_,rfl,rfl,hb⟩))))
  rintro _ rfl
  conv=>arg 9;simp only[Act.put,zq0,zq1,zq2]
  iterate 3
   (refine Jb rfl rfl ?_ (fun w' hw'=>?_) ?_;rotate_left;· (have hb':=Has.world hw';(have hs:=(HS.o _ hb').1);clear hw';go_simp;try rfl))
   conv=>arg 9;simp only[Act.put,zq0,zq1,zq2]
  refine Jn (fun w5 hb5 hF=>?_);have hG5:=GB.o.trans (hb5.mono GB.o.size);have CR5:=qh (CR.o w5 hb5);have HB5:=qh hb5;clear hF hb5 CR CQ HS;go_wp2_with fail
  refine CR5.o.mono ?_;rintro e w6 ⟨rfl,-,hb6⟩;have GB:=qh (hG5.trans (hb6.mono hG5.size));have HX:=qh (HB5.o.trans (hb6.mono HB5.o.size));have HA1:=qh (HA1.o.below HX.o);have HA2:=qh (HA2.o.below HX.o);clear HB5 HX hb6 hG5 CR5;have K:=FB.o _ GB.o;obtain⟨b10,b11,b12,b13⟩:=K.1.all;obtain⟨b20,b21,b22,b23⟩:=K.2.1.all;obtain⟨b30,b31,b32,b33⟩:=K.2.2.1.all;obtain⟨b40,b41,b42,b43⟩:=K.2.2.2.all;have HK:=qh K;clear K
  go_upto_if 79 with (fail)
  obtain⟨V,hV⟩:∃ V,V=((((w6.setCell ⟨w.heap.size+1+1,0,none⟩ (.bool sq)).setCell ⟨w.heap.size+1+1,1,none⟩ (.slice o1 Lq Lq)).setCell ⟨w.heap.size+1+1+1,0,none⟩ (.bool sr)).setCell ⟨w.heap.size+1+1+1,1,none⟩ (.slice o2 Lr Lr)):=⟨_,rfl⟩;rw[<- hV];have hws:=HWS.o;have HV1:=qh (show Bx V w.heap.size 26 (.bool s1) (.slice a1 N1 c1) by rw[hV];exact(((HK.o.1.oz).oz).oz).oz);have HV2:=qh (show Bx V (w.heap.size+1) 26 (.bool s2) (.slice a2 N2 c2) by rw[hV];exact(((HK.o.2.1.oz).oz).oz).oz);have HV3:=qh (show Bx V (w.heap.size+1+1) 26 (.bool sq) (.slice o1 Lq Lq) by rw[hV];exact((HK.o.2.2.1.set _ _).oz).oz);have HV4:=qh (show Bx V (w.heap.size+1+1+1) 26 (.bool sr) (.slice o2 Lr Lr) by rw[hV];exact((HK.o.2.2.2.oz).oz).set _ _);have HQ:=qh (show XT V W.heap.size o1 K1 d1 (z1.natAbs/z2.natAbs) p1 by rw[hV];exact(((HA1.o.oz).oz).oz).oz);have HRM:=qh (show XT V W.heap.size o2 K2 d2 (z1.natAbs%z2.natAbs) p2 by rw[hV];exact(((HA2.o.oz).oz).oz).oz)
  have HGV:=qh (show Below w.heap.size w V by
   rw[hV];have h:=G1.o.trans (GB.o.mono G1.o.size)
   exact(((h.sc).sc).sc).sc)
  have HSV:=qh (show W.heap.size<=V.heap.size by rw[hV];simp only[World.size_setCell];exact GB.o.size);clear hV HA1 HA2 HK GB FB b10 b11 b12 b13 b20 b21 b22 b23 b30 b31 b32 b33 b40 b41 b42 b43 HB1 HB2 HB3 HB4 G1 hws;obtain⟨b10,b11,b12,b13⟩:=HV1.o.all;obtain⟨b20,b21,b22,b23⟩:=HV2.o.all;obtain⟨b30,b31,b32,b33⟩:=HV3.o.all;obtain⟨b40,b41,b42,b43⟩:=HV4.o.all
  go_cut [] (fun wx=>∃ aq ar,Bx wx (w.heap.size+1+1) 26 (.bool (decide (z1/z2<0))) (.slice aq (Ja (z1/z2).natAbs) (Ja (z1/z2).natAbs))/\Bx wx (w.heap.size+1+1+1) 26 (.bool (decide (z1%z2<0))) (.slice ar (Ja (z1%z2).natAbs) (Ja (z1%z2).natAbs)) /\
   Own 160 wx W.heap.size aq (Ja (z1/z2).natAbs) (Ja (z1/z2).natAbs) (dgi (z1/z2).natAbs)/\Own 160 wx W.heap.size ar (Ja (z1%z2).natAbs) (Ja (z1%z2).natAbs) (dgi (z1%z2).natAbs)/\Xk aq ar/\(aq=none->Ja (z1/z2).natAbs=0)/\(ar=none->Ja (z1%z2).natAbs=0)/\Below w.heap.size w wx)
  case first =>
   by_cases hng:r0 z1 z2<0
   ·have esr:sr=true:=HSQ.o.1.2.trans (decide_eq_true hng);have HNG:=qh hng
    obtain⟨y,hy⟩:∃ y:Int,y=if z2<0 then 1 else -1:=⟨_,rfl⟩
    have hy1:y.natAbs=1:=by rw[hy];split <;> rfl
    have hy2:(!s2)=decide (y<0):=by
     rw[HE.o.2.2,hy];by_cases h:z2<0
     ·rw[if_pos h,decide_eq_true h];rfl
     ·rw[if_neg h,zo h];rfl
    have HY:=qh (And.intro hy (And.intro hy1 hy2));have OF:=qh (Xu 1 V (by omega) (by omega));clear hng hy hy1 hy2;subst esr;go_wp2_with fail
    refine OF.o.mono ?_;rintro e w7 ⟨ay,rfl,hoy,-,hb7⟩;rw[show(1:Int).natAbs=1 from rfl] at hoy;have HOY:=qh hoy;have HB7:=qh hb7;have M1:=HV1.o.bl hb7;have M2:=HV2.o.bl hb7;have M3:=HV3.o.bl hb7;have M4:=HV4.o.bl hb7;have HM2:=qh M2;have HM3:=qh M3;have HM4:=qh M4;clear hoy hb7 OF b10 b11 b12 b13 b20 b21 b22 b23 b30 b31 b32 b33 b40 b41 b42 b43;obtain⟨b20,b21,b22,b23⟩:=M2.all;obtain⟨b30,b31,b32,b33⟩:=M3.all;obtain⟨b40,b41,b42,b43⟩:=M4.all;clear M1 M2 M3 M4
    go_upto_region 18 with (fail)
    obtain⟨U,hU⟩:∃ U,U=(w7.alloc (.cells #[.bool (!s2),.slice ay (Ja 1) (Ja 1)] 26)).alloc (.cells #[.bool false,.slice a2 N2 c2] 26):=⟨_,rfl⟩
    have hbU:Below V.heap.size V U:=by rw[hU];exact(HB7.o.alloc HB7.o.size _).alloc (by simp;have:=HB7.o.size;omega) _
    have hx1:Bx U w7.heap.size 26 (.bool (!s2)) (.slice ay (Ja 1) (Ja 1)):=by rw[hU];exact(Bx.new w7 _ _ _).alloc _
    have hx2:Bx U (w7.heap.size+1) 26 (.bool false) (.slice a2 N2 c2):=by rw[hU];exact Bx.X6 w7 _ _ _ _
    have hoU:Own 160 U V.heap.size ay (Ja 1) (Ja 1) (dgi 1):=by rw[hU];exact(HOY.o.JK _).JK _
    rw[show(w7.alloc (.cells #[.bool (!s2),.slice ay (Ja 1) (Ja 1)] 26)).alloc (.cells #[.bool false,.slice a2 N2 c2] 26)=U from hU.symm];have HBU:=qh hbU;have HX1:=qh hx1;have HX2:=qh hx2;have HOU:=qh hoU;have HU3:=qh (HV3.o.bl hbU);have HU4:=qh (HV4.o.bl hbU);clear hU hbU hx1 hx2 hoU HOY HB7 HM2 HM3 HM4 b20 b21 b22 b23 b30 b31 b32 b33 b40 b41 b42 b43;have DS:=qh (jbj HZ.o HNG.o);obtain⟨Q,hQ⟩:∃ Q,Q=z1/z2:=⟨_,rfl⟩;obtain⟨R,hR⟩:∃ R,R=z1%z2:=⟨_,rfl⟩
    have e1:Jq sq Lq (dgi (z1.natAbs/z2.natAbs))+Jq (!s2) (Ja 1) (dgi 1)=Q:=by
     rw[hQ,DS.o.1,HSQ.o.1.1,HSQ.o.2.1,<- U8,Jj,HY.o.2.2,<- HY.o.2.1,Jj,HY.o.1]
    have e2:Jq true Lr (dgi (z1.natAbs%z2.natAbs))+Jq false N2 (dgi z2.natAbs)=R:=by
     have h:=Jj ((z2.natAbs:Nat):Int);rw[show decide (((z2.natAbs:Nat):Int)<0)=false from zo (by omega),Int.natAbs_natCast] at h;rw[hR,DS.o.2,HSQ.o.1.2,HSQ.o.2.2,<- U9,Jj,HE.o.1.2,h]
    have hl1:Lq<=10000000:=by have:=JQ (Nat.div_le_self z1.natAbs z2.natAbs);rw[<- HSQ.o.2.1,<- HE.o.1.1] at this;omega
    have hl2:Lr<=10000000:=by have:=JQ (Nat.le_of_lt (Nat.mod_lt z1.natAbs (show 0<z2.natAbs by have:=HZ.o;omega)));rw[<- HSQ.o.2.2,<- HE.o.1.2] at this;omega
    have hl3:Ja 1<=1:=QO (by decide)
    have ho1:Rd V o1 Lq (dgi (z1.natAbs/z2.natAbs)):=by rw[HSQ.o.2.1];exact HQ.o.num.rd
    have ho2:Rd V o2 Lr (dgi (z1.natAbs%z2.natAbs)):=by rw[HSQ.o.2.2];exact HRM.o.num.rd
    have AD1:=qh (fun (w':World) (hb:Below U.heap.size U w')=>UW sq o1 Lq Lq (dgi (z1.natAbs/z2.natAbs)) (!s2) ay (Ja 1) (Ja 1) (dgi 1) w' ((ho1.below HBU.o).below hb) (by omega) zj (HOU.o.rd.below hb) (by omega) zj);have AD2:=qh (fun (w':World) (hb:Below U.heap.size U w')=>UW true o2 Lr Lr (dgi (z1.natAbs%z2.natAbs)) false a2 N2 c2 (dgi z2.natAbs) w' ((ho2.below HBU.o).below hb) (by omega) zj (HR.o.2.below ((HGV.o.trans (HBU.o.mono HGV.o.size)).trans (hb.mono (zm HGV.o.size HBU.o.size)))) (by omega) hc2);rw[e1] at AD1;rw[e2] at AD2;have HQR:=qh (And.intro hQ hR);clear hQ hR e1 e2 hl1 hl2 hl3 ho1 ho2;have HS:=qh (fun (w':World) (hb:Below U.heap.size U w')=>And.intro (And.intro (HU3.o.bl hb) (HU4.o.bl hb)) (And.intro (HX1.o.bl hb) (HX2.o.bl hb)))
    refine Jc 5 (JM [(2,Sp.made (fun x:Option Addr=>Jy (decide (Q<0)) x (Ja Q.natAbs) (Ja Q.natAbs)) (fun x w'=>Own 160 w' U.heap.size x (Ja Q.natAbs) (Ja Q.natAbs) (dgi Q.natAbs)/\(x=none->Ja Q.natAbs=0)))]) (fun w'=>Below U.heap.size U w') (by kernel_rfl) (by kernel_rfl)
     (Jd (Sp.Jg fun x w w' h hb=>⟨h.1.below hb,h.2⟩) Jl) (fun _ _ h hb=>h.trans (hb.mono h.size)) (zk.drew) ?_
    simp only[zx,zy,zv,zw]
    iterate 2
     (refine Jb rfl rfl ?_ (fun w' hw'=>?_) ?_;rotate_left;· (have hb':=Has.world hw';(obtain⟨x0,x1,x2,x3⟩:=(HS.o _ hb').1.1.all;obtain⟨x0,x1,x2,x3⟩:=(HS.o _ hb').2.1.all);clear hw';go_simp;try rfl))
     conv=>arg 9;simp only[Act.put,zq0,zq1,zq2]
    (refine Jf rfl rfl (fun w' hw'=>?_) ?_;· (have hb':=Has.world hw';go_simp;((refine(AD1.o w' hb').mono ?_;rintro e w'' ⟨a,rfl,ho,hn,hb⟩;exact⟨_,rfl,⟨⟨a,rfl⟩,⟨a,rfl,ho.mono hb'.size,hn⟩⟩,hb⟩))))
    rintro _ ⟨x,rfl⟩
    conv=>arg 9;simp only[Act.put,zq0,zq1,zq2]
    iterate 2
     (refine Jb rfl rfl ?_ (fun w' hw'=>?_) ?_;rotate_left;· (have hb':=Has.world hw';(obtain⟨x0,x1,x2,x3⟩:=(HS.o _ hb').1.2.all;obtain⟨x0,x1,x2,x3⟩:=(HS.o _ hb').2.2.all);clear hw';go_simp;try rfl))
     conv=>arg 9;simp only[Act.put,zq0,zq1,zq2]
    refine Jn (fun w8 hb8 hF=>?_);have hX:=UU (T:=160) (b:=U.heap.size) (s:=decide (Q<0)) (L:=Ja Q.natAbs) (o:=dgi Q.natAbs) (a:=x) (p:=fun x=>x=none->Ja Q.natAbs=0) (hF 2);have HXQ:=qh hX;have A2:=qh (AD2.o w8 hb8);have HB8:=qh hb8;clear hF hX hb8 AD1 AD2;go_wp2_with fail
    refine A2.o.mono ?_;rintro e w9 ⟨y9,rfl,hoy,hny,hb9⟩;have HB9:=qh (HB8.o.trans (hb9.mono HB8.o.size));have HXQ9:=qh (HXQ.o.1.below hb9);have HLT:=qh (show ∀ p,x=some p->p.block<w8.heap.size from fun p hp=>(HXQ.o.1.blk hp).2.2);have HOY:=qh (And.intro hoy hny);have M:=HS.o _ HB9.o;have HM:=qh M;clear hoy hny hb9 A2;obtain⟨b30,b31,b32,b33⟩:=M.1.1.all;obtain⟨b40,b41,b42,b43⟩:=M.1.2.all;clear M;go_wp2_with fail
    go_meet
    case rel =>
     have s1':=HB8.o.size;have s2':=HBU.o.size;have s3':=HSV.o;have s4':=HWS.o;rw[<- HQR.o.1,<- HQR.o.2];refine⟨x,y9,((HM.o.1.1.set _ _).oz).oz,((HM.o.1.2.oz).oz).set _ _,?_,?_,?_,HXQ.o.2,HOY.o.2,?_⟩
     ·exact((((HXQ9.o.oz).oz).oz).oz).mono (by omega)
     ·exact((((HOY.o.1.oz).oz).oz).oz).mono (by omega)
     ·intro p q hp hq e;have h1:=HLT.o p hp;have h2:=(HOY.o.1.blk hq).2.1;omega
     ·have h:=(HGV.o.trans (HBU.o.mono HGV.o.size)).trans (HB9.o.mono (zm HGV.o.size HBU.o.size));exact(((h.sc).sc).sc).sc
   ·have esr:sr=false:=HSQ.o.1.2.trans (zo hng);have DP:=qh (VT HZ.o hng);subst esr;clear hng;go_wp2_with fail
    go_meet
    case rel =>
     have e1:(z1/z2).natAbs=z1.natAbs/z2.natAbs:=by rw[DP.o.1,U8]
     have e2:(z1%z2).natAbs=z1.natAbs%z2.natAbs:=by rw[DP.o.2,U9]
     refine⟨o1,o2,?_,?_,?_,?_,HAP.o,?_,?_,HGV.o⟩
     ·rw[e1,<- HSQ.o.2.1,DP.o.1,<- HSQ.o.1.1];exact HV3.o
     ·rw[e2,<- HSQ.o.2.2,DP.o.2,<- HSQ.o.1.2];exact HV4.o
     ·rw[e1];exact HQ.o.num
     ·rw[e2];exact HRM.o.num
     ·rw[e1];exact HQ.o.none
     ·rw[e2];exact HRM.o.none
  case rest =>
   obtain⟨aq,ar,B3,B4,hoq,hor,hap,hnq,hnr,hb⟩:=hcut;obtain⟨w8,rfl⟩:∃ w8,w8=wc:=⟨_,rfl⟩;have K3:=qh B3;have K4:=qh B4;have HOQ:=qh (And.intro hoq (And.intro hor (And.intro hap (And.intro hnq (And.intro hnr hb)))));clear hoq hor hap hnq hnr hb;clear b10 b11 b12 b13 b20 b21 b22 b23 b30 b31 b32 b33 b40 b41 b42 b43;obtain⟨b30,b31,b32,b33⟩:=B3.all;obtain⟨b40,b41,b42,b43⟩:=B4.all;clear B3 B4
   go_upto_region 19 with (fail)
   go_region;go_wp2_with fail
   have hws:=HWS.o;have k3:=((K3.o.set (.bool (decide (z1/z2<0))) (.slice aq (Ja (z1/z2).natAbs) (Ja (z1/z2).natAbs))).other (a:=⟨w.heap.size+1+1+1,0,none⟩) (by dsimp only;omega) (.bool (decide (z1%z2<0)))).other (a:=⟨w.heap.size+1+1+1,1,none⟩) (by dsimp only;omega) (.slice ar (Ja (z1%z2).natAbs) (Ja (z1%z2).natAbs));have k4:=((K4.o.other (a:=⟨w.heap.size+1+1,0,none⟩) (by dsimp only;omega) (.bool (decide (z1/z2<0)))).other (a:=⟨w.heap.size+1+1,1,none⟩) (by dsimp only;omega) (.slice aq (Ja (z1/z2).natAbs) (Ja (z1/z2).natAbs))).set (.bool (decide (z1%z2<0))) (.slice ar (Ja (z1%z2).natAbs) (Ja (z1%z2).natAbs));refine bodyPost_ret (Xz rfl _ _ _ _ _ _ _ _ _ _ _ rfl k3 rfl k4 Tryz.underlying26 rfl (by kernel_rfl) (by kernel_rfl)) rfl ⟨aq,ar,rfl,?_,?_,HOQ.o.2.2.1,HOQ.o.2.2.2.1,HOQ.o.2.2.2.2.1,?_⟩
   ·exact((((((HOQ.o.1.oz).oz).oz).oz)).below zk.drew).mono (by omega)
   ·exact((((((HOQ.o.2.1.oz).oz).oz).oz)).below zk.drew).mono (by omega)
   ·have h:=HOQ.o.2.2.2.2.2;exact((((h.sc).sc).sc).sc).drew
end Limb
namespace Book
open Go.RowKit Go.Sort Go.FreshG Limb
theorem Uc:(Tryz.prog.info? 159).map (fun i=>(i.zero,i.size,i.bytes))=some (some (.agg #[.slice none 0 0,.slice none 0 0,.int .i64 0]),3,56):=by kernel_rfl
def jcz (w:World) (base k q:Nat) (xs:List Value) (a:Option Addr) (n c:Nat) (x:Value):Prop:=w.ownsRow base 159 3 x (k+1) (xs++held a n c q)
def GrL (base k q:Nat) (v:Value) (xs:List Value) (a:Option Addr) (n c:Nat) (w w':World):Prop :=
 Touch (fun g=>v.ownBlock=some g) w w'/\(w.ownsRow base 159 3 v k xs->w'.ownsRow base 159 3 v k xs)/\∀ x,jcz w base k q xs a n c x->jcz w' base k q xs a n c x
theorem GrL.refl (base k q:Nat) (v:Value) (xs:List Value) (a:Option Addr) (n c:Nat) (w:World):GrL base k q v xs a n c w w:=⟨Touch.refl _ _,fun h=>h,fun _ h=>h⟩
theorem GrL.grown {base k q:Nat} {v:Value} {xs:List Value} {a:Option Addr} {n c:Nat} {w w':World} (h:w.grownBy w' none):GrL base k q v xs a n c w w':=by
 refine⟨(Touch.refl _ _).grown h (fun _ h=>by cases h),fun hr=>hr.kept h ?_,fun x hr=>World.ownsRow.kept hr h ?_⟩
 ·cases hv:v.ownBlock
  ·exact .inl rfl
  ·exact .inr (by simp)
 ·cases hv:x.ownBlock
  ·exact .inl rfl
  ·exact .inr (by simp)
theorem GrL.alloc {base k q:Nat} {v:Value} {xs:List Value} {a:Option Addr} {n c:Nat} (w:World) (o:Obj):GrL base k q v xs a n c w (w.alloc o):=GrL.grown (World.grownBy_alloc w o none)
theorem UC {w:World} {base k q:Nat} {v:Value} {xs:List Value} (h:w.ownsRow base 159 3 v k xs) (hb:base<=w.heap.size) (hk:k<=30000) (gs:Nat) (a:Option Addr) (n c:Nat)
  (hs:w.heap[gs]?=some (.cells #[.slice a n c,.slice none 0 0,.int .i64 ((q:Int)+1)] 159 (0,0))) (ty:Nat) :
  ∃ x w',(Builtin.append_ #[41,41] ty #[v,.slice (some ⟨gs,0,none⟩) 1 1]).run Tryz.prog w=.ok x w'/\jcz w' base k q xs a n c x/\GrL base k q v xs a n c w w' /\
   (v.ownBlock=x.ownBlock\/∃ g,x.ownBlock=some g/\w.heap.size<=g):=by
 obtain⟨i0,hi,hz0,hz1,hz2⟩:=info_parts Uc
 have hnews:∀ j u,(held a n c q)[j]?=some u->w.cell? ((⟨gs,0,none⟩:Addr).add j)=some u:=by
  intro j u hj;rw[Addr.add_lit,Nat.zero_add,cell_of_row _ _ _ _ _ _ hs]
  match j,hj with
  | 0,hj=>exact hj
  | 1,hj=>exact hj
  | 2,hj=>exact hj
  | j+3,hj=>simp[held] at hj
 have h1:∀ u∈held a n c q,u.oneCell'=true:=by intro u hu;simp[held] at hu;rcases hu with rfl | rfl | rfl <;> rfl
 have hl:(held a n c q).length=1*3:=rfl;have hxl:=h.1
 have hlen:(xs++held a n c q).length=(k+1)*3:=by rw[List.length_append,hxl];show _+3=_;omega
 have fresh:∀ old,old<k+1->jcz (w.drew.alloc (.cells (xs.toArray++(held a n c q).toArray++Builtin.zeroCells (Value.agg #[.slice none 0 0,.slice none 0 0,.int .i64 0]).cells (grownCap w (k+1) old 159-(k+1))) 159)) base k q xs a n c (.slice (some ⟨w.heap.size,0,none⟩) (k+1) (grownCap w (k+1) old 159)) /\
   w.grownBy (w.drew.alloc (.cells (xs.toArray++(held a n c q).toArray++Builtin.zeroCells (Value.agg #[.slice none 0 0,.slice none 0 0,.int .i64 0]).cells (grownCap w (k+1) old 159-(k+1))) 159)) none:=by
  intro old ho;have hge:=grownCap_ge w (k+1) old 159;have hcm:=grownCap_le_maxLen w (k+1) old 159 (by unfold maxLen;omega);refine⟨⟨hlen,.inr ⟨w.heap.size,_,_,rfl,hb,heap_alloc_new w.drew _,hge,hcm,?_,?_⟩⟩,⟨rfl,rfl,rfl,by simp,fun q hq _=>heap_alloc_old w.drew _ hq⟩⟩
  ·simp only[Array.size_append,List.size_toArray,size_zeroCells,hxl,hl];show _+_+_*3=_;omega
  ·simp only[Array.toList_append];rw[<- hlen];exact List.take_left
 rcases h.2 with ⟨rfl,rfl⟩ | ⟨g,cap,cur,rfl,hbg,hg,hnc,hcm,hcs,htake⟩
 ·have hx:xs=[]:=List.eq_nil_of_length_eq_zero (by simpa using hxl);subst hx;have hr:=run_append_nil (P:=Tryz.prog) w 41 ty 159 i0 _ Tryz.underlying41 hi hz0 ⟨gs,0,none⟩ 1 1 (held a n c q) (by rw[hz1];rfl) hnews (by omega) (by omega) (by rw[hz2];omega);have hgr:=fresh 0 (by omega);simp only[Nat.zero_add,ze,Array.empty_append] at hgr;exact⟨_,_,hr,hgr.1,GrL.grown hgr.2,.inr ⟨_,rfl,zj⟩⟩
 ·by_cases hroom:k+1<=cap
  ·have hr:=run_append_room (P:=Tryz.prog) w 41 ty 159 i0 Tryz.underlying41 hi g k cap cur hg ⟨gs,0,none⟩ 1 1 (held a n c q) (by rw[hz1];rfl) hnews h1 hroom (by rw[hz1,hl,hcs];omega);rw[hz1,hl] at hr
   have hcl:k*3<=cur.toList.length:=by rw[Array.length_toList,hcs];omega
   have hnew:=setRow_heap w g cur (cur.toList.take (k*3)++held a n c q++cur.toList.drop (k*3+1*3)).toArray 159 _ hg
   have hsz:(cur.toList.take (k*3)++held a n c q++cur.toList.drop (k*3+1*3)).toArray.size=cap*3:=by
    simp only[List.size_toArray,List.length_append,List.length_take,List.length_drop,Array.length_toList,hl,hcs];omega
   have ht1:(cur.toList.take (k*3)++held a n c q++cur.toList.drop (k*3+1*3)).take ((k+1)*3)=xs++held a n c q:=by
    rw[show(k+1)*3=k*3+1*3 by omega,jbs hcl hl,htake]
   have ht0:(cur.toList.take (k*3)++held a n c q++cur.toList.drop (k*3+1*3)).take (k*3)=xs:=by
    have h3:=congrArg (List.take (k*3)) ht1;rw[List.take_take,Nat.min_eq_left (by omega),<- hxl,List.take_left] at h3;rw[<- hxl];exact h3
   refine⟨_,_,hr,⟨hlen,.inr ⟨g,cap,_,rfl,hbg,hnew,hroom,hcm,hsz,ht1⟩⟩,⟨?_,?_,?_⟩,.inl rfl⟩
   ·exact⟨rfl,rfl,rfl,by simp,fun q _ hq=>setRow_other w g q _ (fun e=>hq (by simp[Value.ownBlock,e]))⟩
   ·exact fun _=>⟨hxl,.inr ⟨g,cap,_,rfl,hbg,hnew,hnc,hcm,hsz,ht0⟩⟩
   ·intro x hx
    rcases hx.2 with ⟨_,h0⟩ | ⟨g',cap',cur',rfl,hbg',hg',hnc',hcm',hcs',htake'⟩
    ·omega
    ·refine⟨hlen,.inr ?_⟩;by_cases e:g'=g
     ·subst e
      have e2:cur'=cur:=by have:=hg'.symm.trans hg;simpa using this
      subst e2;exact⟨g',cap',_,rfl,hbg',hnew,hnc',hcm',by rw[hsz];omega,ht1⟩
     ·exact⟨g',cap',cur',rfl,hbg',(setRow_other w g g' _ e).trans hg',hnc',hcm',hcs',htake'⟩
  ·have holds:∀ j u,xs[j]?=some u->w.cell? ((⟨g,0,none⟩:Addr).add j)=some u:=h.cells (g:=g) rfl;have hr:=run_append_grow (P:=Tryz.prog) w 41 ty 159 i0 _ Tryz.underlying41 hi hz0 ⟨g,0,none⟩ k cap xs (by rw[hz1];exact hxl) holds ⟨gs,0,none⟩ 1 1 (held a n c q) (by rw[hz1];rfl) hnews (by omega) (by omega) (growslice_fits (by omega) (by rw[hz2];omega));have hgr:=fresh cap (by omega);exact⟨_,_,hr,hgr.1,GrL.grown hgr.2,.inr ⟨_,rfl,zj⟩⟩
theorem Ud:(Tryz.prog.info? 152).map (fun i=>(i.zero,i.size,i.bytes))=some (some (.agg #[.slice none 0 0,.slice none 0 0,.int .i64 0]),3,56):=by kernel_rfl
def jc0 (w:World) (base k q:Nat) (xs:List Value) (a:Option Addr) (n c:Nat) (x:Value):Prop:=w.ownsRow base 152 3 x (k+1) (xs++held a n c q)
def GrT (base k q:Nat) (v:Value) (xs:List Value) (a:Option Addr) (n c:Nat) (w w':World):Prop :=
 Touch (fun g=>v.ownBlock=some g) w w'/\(w.ownsRow base 152 3 v k xs->w'.ownsRow base 152 3 v k xs)/\∀ x,jc0 w base k q xs a n c x->jc0 w' base k q xs a n c x
theorem GrT.refl (base k q:Nat) (v:Value) (xs:List Value) (a:Option Addr) (n c:Nat) (w:World):GrT base k q v xs a n c w w:=⟨Touch.refl _ _,fun h=>h,fun _ h=>h⟩
theorem GrT.grown {base k q:Nat} {v:Value} {xs:List Value} {a:Option Addr} {n c:Nat} {w w':World} (h:w.grownBy w' none):GrT base k q v xs a n c w w':=by
 refine⟨(Touch.refl _ _).grown h (fun _ h=>by cases h),fun hr=>hr.kept h ?_,fun x hr=>World.ownsRow.kept hr h ?_⟩
 ·cases hv:v.ownBlock
  ·exact .inl rfl
  ·exact .inr (by simp)
 ·cases hv:x.ownBlock
  ·exact .inl rfl
  ·exact .inr (by simp)
theorem GrT.alloc {base k q:Nat} {v:Value} {xs:List Value} {a:Option Addr} {n c:Nat} (w:World) (o:Obj):GrT base k q v xs a n c w (w.alloc o):=GrT.grown (World.grownBy_alloc w o none)
theorem UD {w:World} {base k q:Nat} {v:Value} {xs:List Value} (h:w.ownsRow base 152 3 v k xs) (hb:base<=w.heap.size) (hk:k<=30000) (gs:Nat) (a:Option Addr) (n c:Nat)
  (hs:w.heap[gs]?=some (.cells #[.slice a n c,.slice none 0 0,.int .i64 ((q:Int)+1)] 152 (0,0))) (ty:Nat) :
  ∃ x w',(Builtin.append_ #[45,45] ty #[v,.slice (some ⟨gs,0,none⟩) 1 1]).run Tryz.prog w=.ok x w'/\jc0 w' base k q xs a n c x/\GrT base k q v xs a n c w w' /\
   (v.ownBlock=x.ownBlock\/∃ g,x.ownBlock=some g/\w.heap.size<=g):=by
 obtain⟨i0,hi,hz0,hz1,hz2⟩:=info_parts Ud
 have hnews:∀ j u,(held a n c q)[j]?=some u->w.cell? ((⟨gs,0,none⟩:Addr).add j)=some u:=by
  intro j u hj;rw[Addr.add_lit,Nat.zero_add,cell_of_row _ _ _ _ _ _ hs]
  match j,hj with
  | 0,hj=>exact hj
  | 1,hj=>exact hj
  | 2,hj=>exact hj
  | j+3,hj=>simp[held] at hj
 have h1:∀ u∈held a n c q,u.oneCell'=true:=by intro u hu;simp[held] at hu;rcases hu with rfl | rfl | rfl <;> rfl
 have hl:(held a n c q).length=1*3:=rfl;have hxl:=h.1
 have hlen:(xs++held a n c q).length=(k+1)*3:=by rw[List.length_append,hxl];show _+3=_;omega
 have fresh:∀ old,old<k+1->jc0 (w.drew.alloc (.cells (xs.toArray++(held a n c q).toArray++Builtin.zeroCells (Value.agg #[.slice none 0 0,.slice none 0 0,.int .i64 0]).cells (grownCap w (k+1) old 152-(k+1))) 152)) base k q xs a n c (.slice (some ⟨w.heap.size,0,none⟩) (k+1) (grownCap w (k+1) old 152)) /\
   w.grownBy (w.drew.alloc (.cells (xs.toArray++(held a n c q).toArray++Builtin.zeroCells (Value.agg #[.slice none 0 0,.slice none 0 0,.int .i64 0]).cells (grownCap w (k+1) old 152-(k+1))) 152)) none:=by
  intro old ho;have hge:=grownCap_ge w (k+1) old 152;have hcm:=grownCap_le_maxLen w (k+1) old 152 (by unfold maxLen;omega);refine⟨⟨hlen,.inr ⟨w.heap.size,_,_,rfl,hb,heap_alloc_new w.drew _,hge,hcm,?_,?_⟩⟩,⟨rfl,rfl,rfl,by simp,fun q hq _=>heap_alloc_old w.drew _ hq⟩⟩
  ·simp only[Array.size_append,List.size_toArray,size_zeroCells,hxl,hl];show _+_+_*3=_;omega
  ·simp only[Array.toList_append];rw[<- hlen];exact List.take_left
 rcases h.2 with ⟨rfl,rfl⟩ | ⟨g,cap,cur,rfl,hbg,hg,hnc,hcm,hcs,htake⟩
 ·have hx:xs=[]:=List.eq_nil_of_length_eq_zero (by simpa using hxl);subst hx;have hr:=run_append_nil (P:=Tryz.prog) w 45 ty 152 i0 _ Tryz.underlying45 hi hz0 ⟨gs,0,none⟩ 1 1 (held a n c q) (by rw[hz1];rfl) hnews (by omega) (by omega) (by rw[hz2];omega);have hgr:=fresh 0 (by omega);simp only[Nat.zero_add,ze,Array.empty_append] at hgr;exact⟨_,_,hr,hgr.1,GrT.grown hgr.2,.inr ⟨_,rfl,zj⟩⟩
 ·by_cases hroom:k+1<=cap
  ·have hr:=run_append_room (P:=Tryz.prog) w 45 ty 152 i0 Tryz.underlying45 hi g k cap cur hg ⟨gs,0,none⟩ 1 1 (held a n c q) (by rw[hz1];rfl) hnews h1 hroom (by rw[hz1,hl,hcs];omega);rw[hz1,hl] at hr
   have hcl:k*3<=cur.toList.length:=by rw[Array.length_toList,hcs];omega
   have hnew:=setRow_heap w g cur (cur.toList.take (k*3)++held a n c q++cur.toList.drop (k*3+1*3)).toArray 152 _ hg
   have hsz:(cur.toList.take (k*3)++held a n c q++cur.toList.drop (k*3+1*3)).toArray.size=cap*3:=by
    simp only[List.size_toArray,List.length_append,List.length_take,List.length_drop,Array.length_toList,hl,hcs];omega
   have ht1:(cur.toList.take (k*3)++held a n c q++cur.toList.drop (k*3+1*3)).take ((k+1)*3)=xs++held a n c q:=by
    rw[show(k+1)*3=k*3+1*3 by omega,jbs hcl hl,htake]
   have ht0:(cur.toList.take (k*3)++held a n c q++cur.toList.drop (k*3+1*3)).take (k*3)=xs:=by
    have h3:=congrArg (List.take (k*3)) ht1;rw[List.take_take,Nat.min_eq_left (by omega),<- hxl,List.take_left] at h3;rw[<- hxl];exact h3
   refine⟨_,_,hr,⟨hlen,.inr ⟨g,cap,_,rfl,hbg,hnew,hroom,hcm,hsz,ht1⟩⟩,⟨?_,?_,?_⟩,.inl rfl⟩
   ·exact⟨rfl,rfl,rfl,by simp,fun q _ hq=>setRow_other w g q _ (fun e=>hq (by simp[Value.ownBlock,e]))⟩
   ·exact fun _=>⟨hxl,.inr ⟨g,cap,_,rfl,hbg,hnew,hnc,hcm,hsz,ht0⟩⟩
   ·intro x hx
    rcases hx.2 with ⟨_,h0⟩ | ⟨g',cap',cur',rfl,hbg',hg',hnc',hcm',hcs',htake'⟩
    ·omega
    ·refine⟨hlen,.inr ?_⟩;by_cases e:g'=g
     ·subst e
      have e2:cur'=cur:=by have:=hg'.symm.trans hg;simpa using this
      subst e2;exact⟨g',cap',_,rfl,hbg',hnew,hnc',hcm',by rw[hsz];omega,ht1⟩
     ·exact⟨g',cap',cur',rfl,hbg',(setRow_other w g g' _ e).trans hg',hnc',hcm',hcs',htake'⟩
  ·have holds:∀ j u,xs[j]?=some u->w.cell? ((⟨g,0,none⟩:Addr).add j)=some u:=h.cells (g:=g) rfl;have hr:=run_append_grow (P:=Tryz.prog) w 45 ty 152 i0 _ Tryz.underlying45 hi hz0 ⟨g,0,none⟩ k cap xs (by rw[hz1];exact hxl) holds ⟨gs,0,none⟩ 1 1 (held a n c q) (by rw[hz1];rfl) hnews (by omega) (by omega) (growslice_fits (by omega) (by rw[hz2];omega));have hgr:=fresh cap (by omega);exact⟨_,_,hr,hgr.1,GrT.grown hgr.2,.inr ⟨_,rfl,zj⟩⟩
def U1 (q:Nat) (v u:Value) (i:Nat):Value:=if i=0 then .int .i64 q else if i=2 then v else if i=6 then u else .slice none 0 0
structure Bk2 (w:World) (b base q k kt:Nat) (v u:Value) (xs ys:List Value):Prop where
 box:w.rowIs b 53 13 (U1 q v u)
 Uj:w.ownsRow base 159 3 v k xs
 rowT:w.ownsRow base 152 3 u kt ys
 neL:v.ownBlock≠some b
 neT:u.ownBlock≠some b
 vu:∀ g,v.ownBlock=some g->u.ownBlock≠some g
theorem Bk2.alloc {w:World} {b base q k kt:Nat} {v u:Value} {xs ys:List Value} (h:Bk2 w b base q k kt v u xs ys) (o:Obj):Bk2 (w.alloc o) b base q k kt v u xs ys:=⟨h.box.alloc o,h.Uj.alloc o,h.rowT.alloc o,h.neL,h.neT,h.vu⟩
end Book
end Go.Proofs.YtgkkbkoiaccmfaaGreatDoor
