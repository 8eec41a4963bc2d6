/-
  Plain lemmas on sums of products of letters: how they act, in which one way each is written, sums and products of them. No program in sight.
-/
import Derived.Test.YtgkkbkoiaccmfaaGreatDoorPzPA
import Derived.WalkKit
import Derived.WalkSpells
import Derived.WalkLawsBesides
import Derived.BigQuiet
import Derived.Handy
import Derived.Deep.OwnRows
import Derived.Lib.Hide
import Derived.Lib.QuietBelow
import Derived.StillTailTactics
import Derived.BigRegion
import Derived.Lib.ItoaMem
set_option linter.unusedSimpArgs false
set_option linter.unusedVariables false
set_option maxHeartbeats 16000000
set_option maxRecDepth 100000
namespace Go.Proofs.YtgkkbkoiaccmfaaGreatDoor
namespace Limb
def Ju (x y:Int):Int:=if x<y then -1 else if y<x then 1 else 0
theorem JI {x y:Int} (h:x<y):Ju x y = -1:=by unfold Ju;rw[if_pos h]
theorem JL {x y:Int} (h:y<x):Ju x y=1:=by unfold Ju;rw[if_neg (by omega),if_pos h]
theorem JW {x y:Int} (h:x=y):Ju x y=0:=by unfold Ju;rw[if_neg (by omega),if_neg (by omega)]
theorem J6 {x y u v:Int} (h1:x<y↔u<v) (h2:y<x↔v<u):Ju x y=Ju u v:=by
 rcases Int.lt_trichotomy x y with h | h | h
 ·rw[JI h,JI (h1.1 h)]
 ·rw[JW h,JW (by have a1:=mt h1.2 (by omega);have a2:=mt h2.2 (by omega);omega)]
 ·rw[JL h,JL (h2.1 h)]
abbrev Dig (o:Nat->Int) (n:Nat):Prop:=∀ i,i<n->0<=o i/\o i<1000000000
theorem jej {a b:Nat->Int} {k n:Nat} (ha:Dig a n) (hb:Dig b n) (hk:k<n) (heq:∀ j,k<j->j<n->a j=b j) (h:a k<b k):Ji a n<Ji b n:=by
 obtain⟨m,rfl⟩:∃ m,n=(k+1)+m:=⟨n-(k+1),by omega⟩;have e3:=Qt a (k+1) m;have e4:=Qt b (k+1) m;rw[JY (o:=fun i=>a (k+1+i)) (o':=fun i=>b (k+1+i)) fun i hi=>heq _ (by omega) (by omega)] at e3
 have h1:=JA (o:=a) (n:=k) fun i hi=>ha i (by omega)
 have h2:=JA (o:=b) (n:=k) fun i hi=>hb i (by omega)
 have e1:Ji a (k+1)=Ji a k+a k*(pw k:Int):=rfl;have e2:Ji b (k+1)=Ji b k+b k*(pw k:Int):=rfl;have h3:(a k+1)*(pw k:Int)<=b k*(pw k:Int):=Int.mul_le_mul_of_nonneg_right (by omega) (by omega);rw[Int.add_mul] at h3;omega
def jek (a b:Nat->Int) (n k:Nat):Prop:=k<=n/\(∀ j,k<=j->j<n->a j=b j)/\(0<k->a (k-1)≠b (k-1))
theorem Yv (a b:Nat->Int) (n:Nat):∃ k,jek a b n k:=by
 induction n with
 | zero=>exact⟨0,by omega,fun j _ h=>by omega,fun h=>by omega⟩
 | succ n ih =>
  by_cases h:a n=b n
  ·obtain⟨k,h1,h2,h3⟩:=ih
   exact⟨k,by omega,fun j hj hn=>by
    by_cases e:j=n
    ·rw[e];exact h
    ·exact h2 j hj (by omega),h3⟩
  ·exact⟨n+1,by omega,fun j hj hn=>by omega,fun _=>h⟩
theorem Yw {a b:Nat->Int} {n k:Nat} (ha:Dig a n) (hb:Dig b n) (h:jek a b n k):Ju (Ji a n) (Ji b n)=if k=0 then 0 else Ju (a (k-1)) (b (k-1)):=by
 obtain⟨h1,h2,h3⟩:=h;by_cases hk:k=0
 ·rw[if_pos hk,JY (o:=a) (o':=b) fun i hi=>h2 i (by omega) hi];exact JW rfl
 ·rw[if_neg hk];have h4:=h3 (by omega)
  rcases Int.lt_or_gt_of_ne h4 with h5 | h5
  ·rw[JI h5,JI (jej ha hb (show k-1<n by omega) (fun j hj hn=>h2 j (by omega) hn) h5)]
  ·rw[JL h5,JL (jej hb ha (show k-1<n by omega) (fun j hj hn=>(h2 j (by omega) hn).symm) h5)]
abbrev dgi (m:Nat) (i:Nat):Int:=(dg m i:Int)
theorem Jr (m n:Nat):Dig (dgi m) n:=fun i _=>⟨by show(0:Int)<=(dg m i:Int);omega,by have:=dg_lt m i;show((dg m i:Nat):Int)<_;omega⟩
theorem Jy (m:Nat):Ji (dgi m) (Ja m)=m:=sumB_dg m _ (JD m)
theorem KE {m n:Nat} (h:Ja m<Ja n):m<n:=by
 have h1:=JD m;have h2:=XO (m:=n) (n:=Ja m) h;omega
def cS (f:Nat->Int):Nat->Int
 | 0=>0
 | i+1=>(f i+cS f i)/1000000000
def cD (f:Nat->Int) (i:Nat):Int:=(f i+cS f i)%1000000000
theorem Qm (f:Nat->Int) (n:Nat):Dig (cD f) n:=fun i _=>by unfold cD;omega
theorem cS_sum (f:Nat->Int) (n:Nat):Ji (cD f) n+cS f n*(pw n:Int)=Ji f n:=by
 induction n with
 | zero=>show 0+0*((pw 0:Nat):Int)=0;omega
 | succ n ih =>
  rw[Ji,Ji,<- ih,cS,JK,Int.natCast_mul]
  have e:f n+cS f n=(f n+cS f n)/1000000000*1000000000+cD f n:=by unfold cD;omega
  have e2:(f n+cS f n)*(pw n:Int)=((f n+cS f n)/1000000000*1000000000+cD f n)*(pw n:Int):=by rw[<- e]
  rw[Int.add_mul,Int.add_mul] at e2
  have e3:(f n+cS f n)/1000000000*((pw n:Int)*((1000000000:Nat):Int))=(f n+cS f n)/1000000000*1000000000*(pw n:Int):=by
   rw[Int.mul_comm (pw n:Int),<- Int.mul_assoc];rfl
  omega
theorem cS_bd {f:Nat->Int} {lo hi:Int} {n:Nat} (hl:lo<=0) (hh:0<=hi) (h:∀ i,i<n->lo*999999999<=f i/\f i<=hi*999999999):lo<=cS f n/\cS f n<=hi:=by
 induction n with
 | zero=>exact⟨hl,hh⟩
 | succ n ih =>
  have h1:=ih fun i hi=>h i (by omega)
  have h2:=h n (by omega);rw[cS];omega
theorem ZT {f:Nat->Int} {n:Nat} (h0:0<=Ji f n) (h1:Ji f n<(pw n:Int)):cS f n=0/\Ji (cD f) n=Ji f n:=by
 have h2:=cS_sum f n;have h3:=JA (Qm f n)
 have hp:(0:Int)<(pw n:Int):=by have:=QE n;omega
 have h4:cS f n=0:=by
  rcases Int.lt_trichotomy (cS f n) 0 with h | h | h
  ·have:cS f n*(pw n:Int)<=-1*(pw n:Int):=Int.mul_le_mul_of_nonneg_right (by omega) (by omega);omega
  ·exact h
  ·have:1*(pw n:Int)<=cS f n*(pw n:Int):=Int.mul_le_mul_of_nonneg_right (by omega) (by omega);omega
 rw[h4] at h2;exact⟨h4,by omega⟩
theorem X3 (f g:Nat->Int) (n:Nat):Ji (fun i=>f i+g i) n=Ji f n+Ji g n:=by
 induction n with
 | zero=>rfl
 | succ n ih=>rw[Ji,Ji,Ji,ih,Int.add_mul];omega
theorem Xx (f:Nat->Int) (c:Int) (n:Nat):Ji (fun i=>f i*c) n=Ji f n*c:=by
 induction n with
 | zero=>show(0:Int)=0*c;omega
 | succ n ih =>
  rw[Ji,Ji,ih,Int.add_mul]
  have:f n*c*(pw n:Int)=f n*(pw n:Int)*c:=by rw[Int.mul_assoc,Int.mul_comm c,<- Int.mul_assoc]
  omega
def part (o:Nat->Int) (n i:Nat):Int:=if i<n then o i else 0
theorem QD (o:Nat->Int) {n m:Nat} (h:n<=m):Ji (part o n) m=Ji o n:=by
 obtain⟨k,rfl⟩:∃ k,m=n+k:=⟨m-n,by omega⟩;rw[Qt,X0 (o:=fun i=>part o n (n+i)) (n:=k) fun i _=>by unfold part;rw[if_neg (by omega)]];rw[JY (o:=part o n) (o':=o) fun i hi=>by unfold part;rw[if_pos hi]];omega
end Limb
namespace Mono
open Go.RowKit
theorem Y0 {W w1:World} (hb:Below W.heap.size W w1):(∀ b o,b<W.heap.size->w1.cell? ⟨b,o,none⟩=W.cell? ⟨b,o,none⟩)/\(∀ b o,b<W.heap.size->w1.frozen? ⟨b,o,none⟩=W.frozen? ⟨b,o,none⟩) :=
 ⟨fun b o h=>hb.cell (p:=⟨b,o,none⟩) h,fun b o h=>hb.frozen (p:=⟨b,o,none⟩) h⟩
theorem set4 {w:World} {b:Nat} {t:TypeId} {f:Nat->Value} (h:w.rowIs b t 4 f) (g:Nat->Int) :
  ((((w.setCell ⟨b,0,none⟩ (.int .u16 (g 0))).setCell ⟨b,1,none⟩ (.int .u16 (g 1))).setCell ⟨b,2,none⟩ (.int .u16 (g 2))).setCell ⟨b,3,none⟩ (.int .u16 (g 3))).heap[b]?=some (.cells (Qg g) t (0,0)) :=
 VI (((((h.set 0 (.int .u16 (g 0))).set 1 (.int .u16 (g 1))).set 2 (.int .u16 (g 2))).set 3 (.int .u16 (g 3))).congr (g:=cell g) (fun j hj=>by
  match j,hj with
  | 0,_=>simp
  | 1,_=>simp
  | 2,_=>simp
  | 3,_=>simp))
theorem set4a {w:World} {b:Nat} {t:TypeId} {f:Nat->Value} (h:w.rowIs b t 4 f) (g:Nat->Int) (o:Obj) :
  (((((w.setCell ⟨b,0,none⟩ (.int .u16 (g 0))).setCell ⟨b,1,none⟩ (.int .u16 (g 1))).setCell ⟨b,2,none⟩ (.int .u16 (g 2))).setCell ⟨b,3,none⟩ (.int .u16 (g 3))).alloc o).heap[b]?=some (.cells (Qg g) t (0,0)) :=
 (Below.heap_alloc _ o b (by have:=h.lt;simpa using this)).trans (set4 h g)
theorem third (w w1:World) (o1 o2:Obj) (T:TypeId) (hb1:Below (((w.alloc o1).alloc o2).alloc (.cells (Qg QO) T)).heap.size (((w.alloc o1).alloc o2).alloc (.cells (Qg QO) T)) w1) :
  w1.rowIs (w.heap.size+1+1) T 4 (cell QO):=by
 have h:=World.rowIs_alloc ((w.alloc o1).alloc o2) (Qg QO) T (cell QO) (four QO);rw[World.size_alloc,World.size_alloc] at h;exact h.of_block (hb1.block _ (by simp))
theorem Zn (a b:Nat->Int) (w:World) (ha:Small a) (hb:Small b) :
  Calls Tryz.prog 155 #[mvf a,mvf b] w fun e w'=>e=.returned (.tuple #[mvf (mulM a b),.int .i64 (YZ a b)])/\Below w.heap.size w w':=by
 have HA:=qh ha;clear ha;have HB:=qh hb;clear hb;go_enter Tryz.func155,Tryz.ntmps155;go_wp2_with fail
 refine(each_mul a b _ HA.o HB.o).mono ?_;rintro e w1 ⟨rfl,hb1⟩;obtain⟨hc,hf⟩:=Y0 hb1;have H3:=qh (third w w1 _ _ _ hb1)
 have hz:w.heap.size+1+1<w1.heap.size:=by have:=hb1.size;simp at this;omega
 have hb0:Below w.heap.size w w1:=((zk.alloc (by go_size) _ |>.alloc (by go_size) _).alloc (by go_size) _).trans (hb1.mono (by go_size));by_cases h:Yu a b=true
 ·have E:=qh (show YZ a b=0 by simp[YZ,h]);go_wp2;refine bodyPost_ret (J9 rfl _ _ _ _ _ _ _ rfl (set4a H3.o (mulM a b) _) Tryz.underlying69 rfl (by kernel_rfl)) rfl ⟨by rw[E.o];rfl,?_⟩;go_grown
 ·have E:=qh (show YZ a b=3 by simp[YZ,h]);go_wp2;refine bodyPost_ret (J9 rfl _ _ _ _ _ _ _ rfl (set4a H3.o (mulM a b) _) Tryz.underlying69 rfl (by kernel_rfl)) rfl ⟨by rw[E.o];rfl,?_⟩;go_grown
end Mono
namespace Limb
open Go.RowKit Go.Sort
abbrev uc (o:Nat->Int) (i:Nat):Value:=.int .u32 (o i)
abbrev Jw (s:Bool) (a:Option Addr) (n cap:Nat):Value:=.agg #[.bool s,.slice a n cap]
structure Rd (w:World) (a:Option Addr) (n:Nat) (o:Nat->Int):Prop where
 cells:0<n->∃ b off,a=some ⟨b,off,none⟩/\∀ i,i<n->w.cell? ⟨b,off+i,none⟩=some (uc o i)
 rng:∀ i,i<n->0<=o i/\o i<=4294967295
theorem Rd.nil (w:World) (a:Option Addr) (o:Nat->Int):Rd w a 0 o:=⟨fun h=>absurd h (by omega),fun i h=>absurd h (by omega)⟩
theorem Rd.below {w w':World} {a:Option Addr} {n:Nat} {o:Nat->Int} (h:Rd w a n o) (hb:Below w.heap.size w w'):Rd w' a n o:=by
 refine⟨fun hn=>?_,h.rng⟩;obtain⟨b,off,ha,hc⟩:=h.cells hn;refine⟨b,off,ha,fun i hi=>?_⟩;have h1:=hc i hi;have h2:b<w.heap.size:=block_lt_of_cell h1;exact(hb.cell (p:=⟨b,off+i,none⟩) h2).trans h1
theorem Rd.drewN {w:World} {a:Option Addr} {n:Nat} {o:Nat->Int} (h:Rd w a n o) (m:Nat):Rd (w.drewN m) a n o:=⟨h.cells,h.rng⟩
theorem Rd.le {w:World} {a:Option Addr} {n m:Nat} {o:Nat->Int} (h:Rd w a n o) (hm:m<=n):Rd w a m o:=by
 refine⟨fun hn=>?_,fun i hi=>h.rng i (by omega)⟩;obtain⟨b,off,ha,hc⟩:=h.cells (by omega);exact⟨b,off,ha,fun i hi=>hc i (by omega)⟩
theorem Rd.congr {w:World} {a:Option Addr} {n:Nat} {o o':Nat->Int} (h:Rd w a n o) (e:∀ i,i<n->o i=o' i):Rd w a n o':=by
 refine⟨fun hn=>?_,fun i hi=>by rw[<- e i hi];exact h.rng i hi⟩;obtain⟨b,off,ha,hc⟩:=h.cells hn;exact⟨b,off,ha,fun i hi=>by rw[hc i hi];show some (Value.int .u32 (o i))=_;rw[e i hi]⟩
structure Own (T:Nat) (w:World) (base:Nat) (a:Option Addr) (n cap:Nat) (o:Nat->Int):Prop where
 le:n<=cap
 place:(a=none/\n=0/\cap=0)\/∃ g cur,a=some ⟨g,0,none⟩/\base<=g/\w.heap[g]?=some (.cells cur T (0,0))/\cap<=cur.size/\∀ i,i<n->cur[i]?=some (uc o i)
 rng:∀ i,i<n->0<=o i/\o i<=4294967295
theorem Own.rd {T:Nat} {w:World} {base:Nat} {a:Option Addr} {n cap:Nat} {o:Nat->Int} (h:Own T w base a n cap o):Rd w a n o:=by
 refine⟨fun hn=>?_,h.rng⟩
 rcases h.place with ⟨_,h0,_⟩ | ⟨g,cur,ha,_,hg,_,hc⟩
 ·omega
 ·exact⟨g,0,ha,fun i hi=>by rw[cell_of_row _ _ _ _ _ _ hg,Nat.zero_add];exact hc i hi⟩
theorem Own.below {T:Nat} {w w':World} {base:Nat} {a:Option Addr} {n cap:Nat} {o:Nat->Int} (h:Own T w base a n cap o) (hb:Below w.heap.size w w'):Own T w' base a n cap o:=by
 refine⟨h.le,?_,h.rng⟩
 rcases h.place with h0 | ⟨g,cur,ha,hbg,hg,hcap,hc⟩
 ·exact Or.inl h0
 ·exact Or.inr ⟨g,cur,ha,hbg,(hb.block g (lt_of_block hg)).trans hg,hcap,hc⟩
theorem Own.mono {T:Nat} {w:World} {base base':Nat} {a:Option Addr} {n cap:Nat} {o:Nat->Int} (h:Own T w base a n cap o) (hb:base'<=base):Own T w base' a n cap o:=by
 refine⟨h.le,?_,h.rng⟩
 rcases h.place with h0 | ⟨g,cur,ha,hbg,hg,hcap,hc⟩
 ·exact Or.inl h0
 ·exact Or.inr ⟨g,cur,ha,by omega,hg,hcap,hc⟩
theorem Jf {P:Program} {fn:Func} {p:Tmp} {ty:TypeId} (h:fn.results=#[.cell p ty]) (tmps:Array Value) (w:World) (g:Nat) (t:TypeId) (cs:Array Value) (fr:Nat × Nat) (d:TypeDesc)
  (hp:tmps.getD p undef=.pointer (some ⟨g,0,none⟩)) (hg:w.heap[g]?=some (.cells cs t fr))
  (hu:P.underlying ty=some d) (hd:(match d with | .struct _ | .array _ _=>true | _=>false)=true) (hi:(P.info? ty).map (·.size)=some cs.size) :
  (results fn tmps).run P w=.ok (.agg cs) w:=results_cell_row h tmps w g t cs fr d hp hg hu hd hi
theorem Y0 {W w1:World} (hb:Below W.heap.size W w1):(∀ b o,b<W.heap.size->w1.cell? ⟨b,o,none⟩=W.cell? ⟨b,o,none⟩)/\(∀ b o,b<W.heap.size->w1.frozen? ⟨b,o,none⟩=W.frozen? ⟨b,o,none⟩) :=
 ⟨fun b o h=>hb.cell (p:=⟨b,o,none⟩) h,fun b o h=>hb.frozen (p:=⟨b,o,none⟩) h⟩
theorem Qh {B:Nat} {a w:World} (h:Below B a w) (n:Nat):Below B a (w.drewN n):=⟨h.os,h.tape,h.output,h.size,h.block⟩
theorem qg {B:Nat} {u w:World} (h:Below B u w:=by(repeat' (first | (with_reducible exact zk) | (with_reducible assumption) | (with_reducible refine Below.alloc ?_ ?_ _) | (with_reducible refine Below.drew ?_) | (with_reducible refine Qh ?_ _) | (with_reducible refine Below.setCell ?_ ?_ _) | (with_reducible refine Below.frame ?_ _) | go_size))):Below B u w:=h
end Limb
namespace Limb
def upd (o:Nat->Int) (j:Nat) (v:Int):Nat->Int:=fun t=>if t=j then v else o t
theorem upd_same (o:Nat->Int) (j:Nat) (v:Int):upd o j v j=v:=by simp[upd]
theorem upd_ne (o:Nat->Int) {j t:Nat} (v:Int) (h:t≠j):upd o j v t=o t:=by simp[upd,h]
theorem jbe (o:Nat->Int) (v:Int) {j:Nat}:∀ {n:Nat},n<=j->Ji (upd o j v) n=Ji o n:=fun h =>
 JY fun i hi=>upd_ne o v (by omega)
theorem VJ (o:Nat->Int) (v:Int) {j n:Nat} (h:j<n):Ji (upd o j v) n=Ji o n+(v-o j)*(pw j:Int):=by
 induction n with
 | zero=>omega
 | succ n ih =>
  rw[Ji,Ji];by_cases e:j=n
  ·subst e;rw[jbe o v zj,upd_same,Int.sub_mul];omega
  ·rw[ih (by omega),upd_ne o v (by omega)];omega
theorem KH {o:Nat->Int} {n:Nat} (h:Dig o n) (j:Nat) {v:Int} (hv:0<=v/\v<1000000000):Dig (upd o j v) n:=by
 intro i hi;by_cases e:i=j
 ·subst e;rw[upd_same];exact hv
 ·rw[upd_ne o v e];exact h i hi
structure XP (x y:Nat->Int) (lb n i:Nat) (o:Nat->Int):Prop where
 dig:Dig o n
 sum:Ji o n=Ji x i*Ji y lb
 out:∀ j,i+lb<=j->j<n->o j=0
theorem XP.o {x y:Nat->Int} {lb n i:Nat} {o:Nat->Int} (h:XP x y lb n i o):∀ j,i+lb<=j->j<n->o j=0:=h.out
structure Kq (x y:Nat->Int) (lb n i k:Nat) (o:Nat->Int) (on:Int):Prop where
 dig:Dig o n
 on0:0<=on/\on<1000000000
 sum:Ji o n+on*(pw (i+k):Int)=Ji x i*Ji y lb+x i*Ji y k*(pw i:Int)
 out:∀ j,i+lb<=j->j<n->o j=0
theorem Kq.o {x y:Nat->Int} {lb n i k:Nat} {o:Nat->Int} {on:Int} (h:Kq x y lb n i k o on):∀ j,i+lb<=j->j<n->o j=0:=h.out
theorem XP.start (x y:Nat->Int) (lb n:Nat):XP x y lb n 0 (fun _=>0) :=
 ⟨fun i _=>by omega,by rw[X0 (fun _ _=>rfl)];show(0:Int)=0*_;omega,fun _ _ _=>rfl⟩
theorem XP.inner {x y:Nat->Int} {lb n i:Nat} {o:Nat->Int} (h:XP x y lb n i o):Kq x y lb n i 0 o 0 :=
 ⟨h.dig,by omega,by rw[h.sum];show _+0*_=_+x i*0*_;rw[Int.mul_zero];omega,h.o⟩
theorem jee {a b:Int} (ha:0<=a/\a<1000000000) (hb:0<=b/\b<1000000000):0<=a*b/\a*b<=999999998000000001:=by
 constructor
 ·exact Int.mul_nonneg ha.1 hb.1
 ·calc a*b<=999999999*b:=Int.mul_le_mul_of_nonneg_right (by omega) hb.1
   _<=999999999*999999999:=Int.mul_le_mul_of_nonneg_left (by omega) (by omega)
   _=999999998000000001:=by decide
theorem Kq.step {x y:Nat->Int} {lb n i k:Nat} {o:Nat->Int} {on:Int} (h:Kq x y lb n i k o on) (hx:0<=x i/\x i<1000000000) (hy:0<=y k/\y k<1000000000) (hk:k<lb) (hn:i+lb<=n) :
  (0<=on+(x i*y k+o (i+k))/\on+(x i*y k+o (i+k))<=999999999999999999) /\
  Kq x y lb n i (k+1) (upd o (i+k) ((on+(x i*y k+o (i+k)))%1000000000)) ((on+(x i*y k+o (i+k)))/1000000000):=by
 have hb:=jee hx hy;have hd:=h.dig (i+k) (by omega);have h0:=h.on0;have hs:=h.sum;refine⟨by omega,KH h.dig _ (by omega),by omega,?_,fun j hj hjn=>by rw[upd_ne o _ (by omega)];exact h.o j hj hjn⟩;rw[VJ o _ (show i+k<n by omega),<- Nat.add_assoc,JK,Int.natCast_mul]
 generalize hT:on+(x i*y k+o (i+k))=T
 have e1:T=1000000000*(T/1000000000)+T%1000000000:=by omega
 have e2:(T%1000000000-o (i+k))*(pw (i+k):Int)+T/1000000000*((pw (i+k):Int)*((1000000000:Nat):Int))=(T-o (i+k))*(pw (i+k):Int):=by
  have:T/1000000000*((pw (i+k):Int)*((1000000000:Nat):Int))=1000000000*(T/1000000000)*(pw (i+k):Int):=by
   rw[Int.mul_comm (pw (i+k):Int),<- Int.mul_assoc,Int.mul_comm (T/1000000000)];rfl
  rw[this,<- Int.add_mul]
  congr 1
  omega
 have e3:(T-o (i+k))*(pw (i+k):Int)=on*(pw (i+k):Int)+x i*y k*(pw (i+k):Int):=by
  rw[<- Int.add_mul,<- hT];congr 1;omega
 have e4:x i*Ji y (k+1)*(pw i:Int)=x i*Ji y k*(pw i:Int)+x i*y k*(pw (i+k):Int):=by
  rw[Ji,Int.mul_add,Int.add_mul,YO,Int.natCast_mul]
  congr 1
  rw[Int.mul_assoc,Int.mul_assoc,Int.mul_assoc,Int.mul_comm (pw k:Int)]
 omega
theorem Kq.row {x y:Nat->Int} {lb n i:Nat} {o:Nat->Int} {on:Int} (h:Kq x y lb n i lb o on) (hn:i+lb<n):XP x y lb n (i+1) (upd o (i+lb) on):=by
 have hs:=h.sum;have ho:=h.o (i+lb) zj hn;refine⟨KH h.dig _ h.on0,?_,fun j hj hjn=>by rw[upd_ne o _ (by omega)];exact h.o j (by omega) hjn⟩;rw[VJ o _ hn,ho,Int.sub_zero,hs,Ji,Int.add_mul]
 congr 1
 rw[Int.mul_assoc,Int.mul_assoc,Int.mul_comm (Ji y lb)]
end Limb
namespace Mono
open Go.RowKit
structure RelR (B T:Nat) (a b n:Nat->Int) (w wr:World) (k:Nat):Prop where
 one:wr.rowIs B T 4 (cell a)
 two:wr.rowIs (B+1) T 4 (cell b)
 res:wr.rowIs (B+1+1) T 4 (cell QO)
 out:wr.rowIs (B+1+1+1) T 4 (cell (part n k))
 below:Below B w wr
theorem RelR.o {B T:Nat} {a b n:Nat->Int} {w wr:World} {k:Nat} (h:RelR B T a b n w wr k):wr.rowIs (B+1+1+1) T 4 (cell (part n k)):=h.out
theorem jc0 (w:World) (T:TypeId) (a b n:Nat->Int):RelR w.heap.size T a b n w
  ((((w.alloc (.cells (Qg a) T)).alloc (.cells (Qg b) T)).alloc (.cells #[.int .u16 0,.int .u16 0,.int .u16 0,.int .u16 0] T)).alloc (.cells #[.int .u16 0,.int .u16 0,.int .u16 0,.int .u16 0] T)) 0:=by
 refine⟨(((w.rowIs_alloc (Qg a) T (cell a) (four a)).alloc _).alloc _).alloc _,?_,?_,?_,?_⟩
 ·have h:=((World.rowIs_alloc (w.alloc (.cells (Qg a) T)) (Qg b) T (cell b) (four b)).alloc (.cells (Qg QO) T)).alloc (.cells (Qg (part n 0)) T);rw[World.size_alloc] at h;exact h
 ·have h:=(World.rowIs_alloc ((w.alloc (.cells (Qg a) T)).alloc (.cells (Qg b) T)) (Qg QO) T (cell QO) (four QO)).alloc (.cells (Qg (part n 0)) T);rw[World.size_alloc,World.size_alloc] at h;exact h
 ·have h:=World.rowIs_alloc (((w.alloc (.cells (Qg a) T)).alloc (.cells (Qg b) T)).alloc (.cells (Qg QO) T)) (Qg (part n 0)) T (cell (part n 0)) (four (part n 0));rw[World.size_alloc,World.size_alloc,World.size_alloc] at h;exact h
 ·go_grown
theorem RelR.drewN {B T:Nat} {a b n:Nat->Int} {w wr:World} {k:Nat} (h:RelR B T a b n w wr k) (m:Nat):RelR B T a b n w (wr.drewN m) k :=
 ⟨h.one.of_block rfl,h.two.of_block rfl,h.res.of_block rfl,h.o.of_block rfl,below_drewN h.below m⟩
theorem jfk (n:Nat->Int) (k j:Nat):(if j=k then Value.int .u16 (n k) else cell (part n k) j)=cell (part n (k+1)) j:=by
 by_cases e:j=k
 ·subst e;simp[part]
 ·simp only[if_neg e,cell,part];by_cases e2:j<k
  ·rw[if_pos e2,if_pos (by omega)]
  ·rw[if_neg e2,if_neg (by omega)]
theorem RelR.step {B T:Nat} {a b n:Nat->Int} {w wr:World} {k:Nat} (h:RelR B T a b n w wr k):RelR B T a b n w (wr.setCell ⟨B+1+1+1,k,none⟩ (.int .u16 (n k))) (k+1) :=
 ⟨h.one.setOther (by show _≠_;dsimp only;omega) _,h.two.setOther (by show _≠_;dsimp only;omega) _,h.res.setOther (by simp) _,(h.o.set k _).congr (fun j _=>jfk n k j),h.below.setCell (by simp;omega) _⟩
theorem Xj (a b:Nat->Int) (w:World) (ha:Small a) (hb:Small b) :
  Calls Tryz.prog 236 #[mvf a,mvf b] w fun e w'=>e=.returned (.tuple #[mvf (mulM a b),.int .i64 (YZ a b)])/\Below w.heap.size w w':=by
 obtain⟨k0,hk0,hok,hbad⟩:∃ k0,k0<=4/\(∀ k,k<k0->a k+b k<=65535)/\(k0<4->65535<a k0+b k0/\Yu a b=false)/\(k0=4->Yu a b=true):=by
  by_cases h:Yu a b=true
  ·exact⟨4,by omega,(Ko a b).1 h,fun hh=>absurd hh (by omega),fun _=>h⟩
  ·obtain⟨k0,h1,h2,h3⟩:=Xu (fun k=>a k+b k<=65535) 4 (fun hh=>h ((Ko a b).2 hh));exact⟨k0,by omega,h2,fun _=>⟨by omega,by simpa using h⟩,fun hh=>absurd hh (by omega)⟩
 have HA:=qh ha;clear ha;have HB:=qh hb;clear hb;have OK:=qh hok;clear hok;have BAD:=qh hbad;clear hbad;have hs:=jc0 w 69 a b (fun k=>a k+b k);go_enter Tryz.func236,Tryz.ntmps236;go_wp2;go_loopw [7] (fun i wr=>∃ k:Nat,k<=k0/\i=.int .i64 k/\RelR w.heap.size 69 a b (fun k=>a k+b k) w wr k) (fun i _=>4-(intOf i).toNat)
 case atStart=>exact⟨0,by omega,rfl,hs⟩
 case round =>
  obtain⟨k,hk,rfl,R⟩:=hrel;by_cases hlt:k<4
  ·have hc1:=R.one.cell hlt;have hc2:=R.two.cell hlt;have hfz:=R.o.frozen k;obtain⟨vo,hco⟩:∃ v,wr.cell? ⟨w.heap.size+1+1+1,k,none⟩=some v:=⟨_,R.o.cell hlt⟩;have g1:=(HA.o k hlt).1;have g2:=(HA.o k hlt).2;have g3:=(HB.o k hlt).1;have g4:=(HB.o k hlt).2;have ea:=IntWalk.i64_in (a k) (by omega);have eb:=IntWalk.i64_in (b k) (by omega);have es:=IntWalk.i64_in (a k+b k) (by omega);by_cases hlk:k<k0
   ·have g5:=OK.o k hlk;go_wp2;go_quiet (fail);go_wp2;go_roundw
    case rel=>exact⟨k+1,by omega,by go_num,(R.drewN _).step⟩
    case measure=>simp[intOf];omega
   ·obtain rfl:k=k0:=by omega
    have g6:=(BAD.o.1 hlt).1;have E:=qh (show YZ a b=3 by simp[YZ,(BAD.o.1 hlt).2]);have M:=qh (show mulM a b=QO by funext k;simp[mulM,(BAD.o.1 hlt).2,QO]);have q0:=R.res.cell (i:=0) (by omega);have q1:=R.res.cell (i:=1) (by omega);have q2:=R.res.cell (i:=2) (by omega);have q3:=R.res.cell (i:=3) (by omega)
    have hf:=fun i=>R.res.frozen i
    have hb:=R.below;have hl:=R.o.lt;go_wp2;go_quiet (fail);go_wp2;refine bodyPost_ret (J9 rfl _ _ _ _ _ _ _ rfl (set4 (R.drewN nq).res QO) Tryz.underlying69 rfl (by kernel_rfl)) rfl ⟨by rw[E.o,M.o];rfl,?_⟩;have hb':=(R.drewN nq).below;go_grown
  ·obtain rfl:k=4:=by omega
   have hB:Yu a b=true:=BAD.o.2 (by omega);have E:=qh (show YZ a b=0 by simp[YZ,hB]);have M:=qh (show mulM a b=part (fun k=>a k+b k) 4\/True from Or.inr trivial);have c0:=R.o.cell (i:=0) (by omega);have c1:=R.o.cell (i:=1) (by omega);have c2:=R.o.cell (i:=2) (by omega);have c3:=R.o.cell (i:=3) (by omega);have q0:=R.res.cell (i:=0) (by omega);have q1:=R.res.cell (i:=1) (by omega);have q2:=R.res.cell (i:=2) (by omega);have q3:=R.res.cell (i:=3) (by omega)
   have hf:=fun i=>R.res.frozen i
   have hb:=R.below;have hl:=R.o.lt;go_wp2;refine bodyPost_ret (J9 rfl _ _ _ _ _ _ _ rfl (set4 R.res (part (fun k=>a k+b k) 4)) Tryz.underlying69 rfl (by kernel_rfl)) rfl ⟨by rw[E.o];simp[Qg,part,mulM,hB],?_⟩;go_grown
theorem JR (a:Nat->Int) (w:World) (ha:Small a) :
  Calls Tryz.prog 230 #[mvf a] w fun e w'=>e=.returned (.int .i64 (JQ a))/\Below w.heap.size w w':=by
 obtain⟨p0,q0⟩:=ha 0 (by omega);obtain⟨p1,q1⟩:=ha 1 (by omega);obtain⟨p2,q2⟩:=ha 2 (by omega);obtain⟨p3,q3⟩:=ha 3 (by omega);clear ha;go_enter Tryz.func230,Tryz.ntmps230;go_wp2;go_ret;exact⟨rfl,by go_grown⟩
end Mono
namespace Book
open Go.RowKit Go.Sort
theorem jbt (b:Nat) (w:World) (h:w.cell? ⟨b,1,none⟩=some (.slice none 0 0)):Calls Tryz.prog 86 #[.pointer (some ⟨b,0,none⟩)] w fun e w'=>(∃ v,e=.returned v)/\w'=w:=by
 go_enter Tryz.func86,Tryz.ntmps86;go_wp2_with fail
 go_loopw [2] (fun i wr=>i=.int .i64 0/\wr=w) (fun _ _=>0)
 case atStart=>exact⟨rfl,rfl⟩
 case round =>
  obtain⟨rfl,rfl⟩:=hrel;go_wp2
  (try simp only[Exit.inBlock,Exit.then])
  refine bodyPost_end (results_none rfl _ _ _) rfl ?_;exact⟨⟨_,rfl⟩,rfl⟩
theorem jbu (b:Nat) (w:World) (h:w.cell? ⟨b,1,none⟩=some (.slice none 0 0)):Calls Tryz.prog 98 #[.pointer (some ⟨b,0,none⟩)] w fun e w'=>(∃ v,e=.returned v)/\w'=w:=by
 go_enter Tryz.func98,Tryz.ntmps98;go_wp2_with fail
 go_loopw [2] (fun i wr=>i=.int .i64 0/\wr=w) (fun _ _=>0)
 case atStart=>exact⟨rfl,rfl⟩
 case round =>
  obtain⟨rfl,rfl⟩:=hrel;go_wp2
  (try simp only[Exit.inBlock,Exit.then])
  refine bodyPost_end (results_none rfl _ _ _) rfl ?_;exact⟨⟨_,rfl⟩,rfl⟩
theorem jbv (b:Nat) (w:World) (h:w.cell? ⟨b,1,none⟩=some (.slice none 0 0)):Calls Tryz.prog 110 #[.pointer (some ⟨b,0,none⟩)] w fun e w'=>e=.returned (.bool true)/\w'=w:=by
 go_enter Tryz.func110,Tryz.ntmps110;go_wp2_with fail
 go_loopw [3] (fun i wr=>i=.int .i64 0/\wr=w) (fun _ _=>0)
 case atStart=>exact⟨rfl,rfl⟩
 case round =>
  obtain⟨rfl,rfl⟩:=hrel;go_wp2;go_ret;exact⟨rfl,rfl⟩
theorem jbw (b:Nat) (w:World) (h:w.cell? ⟨b,3,none⟩=some (.slice none 0 0)):Calls Tryz.prog 88 #[.pointer (some ⟨b,0,none⟩)] w fun e w'=>(∃ v,e=.returned v)/\w'=w:=by
 go_enter Tryz.func88,Tryz.ntmps88;go_wp2_with fail
 go_loopw [2] (fun i wr=>i=.int .i64 0/\wr=w) (fun _ _=>0)
 case atStart=>exact⟨rfl,rfl⟩
 case round =>
  obtain⟨rfl,rfl⟩:=hrel;go_wp2
  (try simp only[Exit.inBlock,Exit.then])
  refine bodyPost_end (results_none rfl _ _ _) rfl ?_;exact⟨⟨_,rfl⟩,rfl⟩
theorem jbx (b:Nat) (w:World) (h:w.cell? ⟨b,3,none⟩=some (.slice none 0 0)):Calls Tryz.prog 100 #[.pointer (some ⟨b,0,none⟩)] w fun e w'=>(∃ v,e=.returned v)/\w'=w:=by
 go_enter Tryz.func100,Tryz.ntmps100;go_wp2_with fail
 go_loopw [2] (fun i wr=>i=.int .i64 0/\wr=w) (fun _ _=>0)
 case atStart=>exact⟨rfl,rfl⟩
 case round =>
  obtain⟨rfl,rfl⟩:=hrel;go_wp2
  (try simp only[Exit.inBlock,Exit.then])
  refine bodyPost_end (results_none rfl _ _ _) rfl ?_;exact⟨⟨_,rfl⟩,rfl⟩
theorem jby (b:Nat) (w:World) (h:w.cell? ⟨b,3,none⟩=some (.slice none 0 0)):Calls Tryz.prog 112 #[.pointer (some ⟨b,0,none⟩)] w fun e w'=>e=.returned (.bool true)/\w'=w:=by
 go_enter Tryz.func112,Tryz.ntmps112;go_wp2_with fail
 go_loopw [3] (fun i wr=>i=.int .i64 0/\wr=w) (fun _ _=>0)
 case atStart=>exact⟨rfl,rfl⟩
 case round =>
  obtain⟨rfl,rfl⟩:=hrel;go_wp2;go_ret;exact⟨rfl,rfl⟩
theorem Ue (b:Nat) (w:World) (h:w.cell? ⟨b,4,none⟩=some (.slice none 0 0)):Calls Tryz.prog 89 #[.pointer (some ⟨b,0,none⟩)] w fun e w'=>(∃ v,e=.returned v)/\w'=w:=by
 go_enter Tryz.func89,Tryz.ntmps89;go_wp2_with fail
 go_loopw [2] (fun i wr=>i=.int .i64 0/\wr=w) (fun _ _=>0)
 case atStart=>exact⟨rfl,rfl⟩
 case round =>
  obtain⟨rfl,rfl⟩:=hrel;go_wp2
  (try simp only[Exit.inBlock,Exit.then])
  refine bodyPost_end (results_none rfl _ _ _) rfl ?_;exact⟨⟨_,rfl⟩,rfl⟩
theorem Uf (b:Nat) (w:World) (h:w.cell? ⟨b,4,none⟩=some (.slice none 0 0)):Calls Tryz.prog 101 #[.pointer (some ⟨b,0,none⟩)] w fun e w'=>(∃ v,e=.returned v)/\w'=w:=by
 go_enter Tryz.func101,Tryz.ntmps101;go_wp2_with fail
 go_loopw [2] (fun i wr=>i=.int .i64 0/\wr=w) (fun _ _=>0)
 case atStart=>exact⟨rfl,rfl⟩
 case round =>
  obtain⟨rfl,rfl⟩:=hrel;go_wp2
  (try simp only[Exit.inBlock,Exit.then])
  refine bodyPost_end (results_none rfl _ _ _) rfl ?_;exact⟨⟨_,rfl⟩,rfl⟩
theorem Ug (b:Nat) (w:World) (h:w.cell? ⟨b,4,none⟩=some (.slice none 0 0)):Calls Tryz.prog 113 #[.pointer (some ⟨b,0,none⟩)] w fun e w'=>e=.returned (.bool true)/\w'=w:=by
 go_enter Tryz.func113,Tryz.ntmps113;go_wp2_with fail
 go_loopw [3] (fun i wr=>i=.int .i64 0/\wr=w) (fun _ _=>0)
 case atStart=>exact⟨rfl,rfl⟩
 case round =>
  obtain⟨rfl,rfl⟩:=hrel;go_wp2;go_ret;exact⟨rfl,rfl⟩
theorem jel (b:Nat) (w:World) (h:w.cell? ⟨b,5,none⟩=some (.slice none 0 0)):Calls Tryz.prog 90 #[.pointer (some ⟨b,0,none⟩)] w fun e w'=>(∃ v,e=.returned v)/\w'=w:=by
 go_enter Tryz.func90,Tryz.ntmps90;go_wp2_with fail
 go_loopw [2] (fun i wr=>i=.int .i64 0/\wr=w) (fun _ _=>0)
 case atStart=>exact⟨rfl,rfl⟩
 case round =>
  obtain⟨rfl,rfl⟩:=hrel;go_wp2
  (try simp only[Exit.inBlock,Exit.then])
  refine bodyPost_end (results_none rfl _ _ _) rfl ?_;exact⟨⟨_,rfl⟩,rfl⟩
theorem jem (b:Nat) (w:World) (h:w.cell? ⟨b,5,none⟩=some (.slice none 0 0)):Calls Tryz.prog 102 #[.pointer (some ⟨b,0,none⟩)] w fun e w'=>(∃ v,e=.returned v)/\w'=w:=by
 go_enter Tryz.func102,Tryz.ntmps102;go_wp2_with fail
 go_loopw [2] (fun i wr=>i=.int .i64 0/\wr=w) (fun _ _=>0)
 case atStart=>exact⟨rfl,rfl⟩
 case round =>
  obtain⟨rfl,rfl⟩:=hrel;go_wp2
  (try simp only[Exit.inBlock,Exit.then])
  refine bodyPost_end (results_none rfl _ _ _) rfl ?_;exact⟨⟨_,rfl⟩,rfl⟩
theorem jen (b:Nat) (w:World) (h:w.cell? ⟨b,5,none⟩=some (.slice none 0 0)):Calls Tryz.prog 114 #[.pointer (some ⟨b,0,none⟩)] w fun e w'=>e=.returned (.bool true)/\w'=w:=by
 go_enter Tryz.func114,Tryz.ntmps114;go_wp2_with fail
 go_loopw [3] (fun i wr=>i=.int .i64 0/\wr=w) (fun _ _=>0)
 case atStart=>exact⟨rfl,rfl⟩
 case round =>
  obtain⟨rfl,rfl⟩:=hrel;go_wp2;go_ret;exact⟨rfl,rfl⟩
theorem Y1 (b:Nat) (w:World) (h:w.cell? ⟨b,7,none⟩=some (.slice none 0 0)):Calls Tryz.prog 92 #[.pointer (some ⟨b,0,none⟩)] w fun e w'=>(∃ v,e=.returned v)/\w'=w:=by
 go_enter Tryz.func92,Tryz.ntmps92;go_wp2_with fail
 go_loopw [2] (fun i wr=>i=.int .i64 0/\wr=w) (fun _ _=>0)
 case atStart=>exact⟨rfl,rfl⟩
 case round =>
  obtain⟨rfl,rfl⟩:=hrel;go_wp2
  (try simp only[Exit.inBlock,Exit.then])
  refine bodyPost_end (results_none rfl _ _ _) rfl ?_;exact⟨⟨_,rfl⟩,rfl⟩
theorem Y2 (b:Nat) (w:World) (h:w.cell? ⟨b,7,none⟩=some (.slice none 0 0)):Calls Tryz.prog 104 #[.pointer (some ⟨b,0,none⟩)] w fun e w'=>(∃ v,e=.returned v)/\w'=w:=by
 go_enter Tryz.func104,Tryz.ntmps104;go_wp2_with fail
 go_loopw [2] (fun i wr=>i=.int .i64 0/\wr=w) (fun _ _=>0)
 case atStart=>exact⟨rfl,rfl⟩
 case round =>
  obtain⟨rfl,rfl⟩:=hrel;go_wp2
  (try simp only[Exit.inBlock,Exit.then])
  refine bodyPost_end (results_none rfl _ _ _) rfl ?_;exact⟨⟨_,rfl⟩,rfl⟩
theorem Y3 (b:Nat) (w:World) (h:w.cell? ⟨b,7,none⟩=some (.slice none 0 0)):Calls Tryz.prog 116 #[.pointer (some ⟨b,0,none⟩)] w fun e w'=>e=.returned (.bool true)/\w'=w:=by
 go_enter Tryz.func116,Tryz.ntmps116;go_wp2_with fail
 go_loopw [3] (fun i wr=>i=.int .i64 0/\wr=w) (fun _ _=>0)
 case atStart=>exact⟨rfl,rfl⟩
 case round =>
  obtain⟨rfl,rfl⟩:=hrel;go_wp2;go_ret;exact⟨rfl,rfl⟩
theorem jbz (b:Nat) (w:World) (h:w.cell? ⟨b,8,none⟩=some (.slice none 0 0)):Calls Tryz.prog 93 #[.pointer (some ⟨b,0,none⟩)] w fun e w'=>(∃ v,e=.returned v)/\w'=w:=by
 go_enter Tryz.func93,Tryz.ntmps93;go_wp2_with fail
 go_loopw [2] (fun i wr=>i=.int .i64 0/\wr=w) (fun _ _=>0)
 case atStart=>exact⟨rfl,rfl⟩
 case round =>
  obtain⟨rfl,rfl⟩:=hrel;go_wp2
  (try simp only[Exit.inBlock,Exit.then])
  refine bodyPost_end (results_none rfl _ _ _) rfl ?_;exact⟨⟨_,rfl⟩,rfl⟩
theorem jb0 (b:Nat) (w:World) (h:w.cell? ⟨b,8,none⟩=some (.slice none 0 0)):Calls Tryz.prog 105 #[.pointer (some ⟨b,0,none⟩)] w fun e w'=>(∃ v,e=.returned v)/\w'=w:=by
 go_enter Tryz.func105,Tryz.ntmps105;go_wp2_with fail
 go_loopw [2] (fun i wr=>i=.int .i64 0/\wr=w) (fun _ _=>0)
 case atStart=>exact⟨rfl,rfl⟩
 case round =>
  obtain⟨rfl,rfl⟩:=hrel;go_wp2
  (try simp only[Exit.inBlock,Exit.then])
  refine bodyPost_end (results_none rfl _ _ _) rfl ?_;exact⟨⟨_,rfl⟩,rfl⟩
theorem jb1 (b:Nat) (w:World) (h:w.cell? ⟨b,8,none⟩=some (.slice none 0 0)):Calls Tryz.prog 117 #[.pointer (some ⟨b,0,none⟩)] w fun e w'=>e=.returned (.bool true)/\w'=w:=by
 go_enter Tryz.func117,Tryz.ntmps117;go_wp2_with fail
 go_loopw [3] (fun i wr=>i=.int .i64 0/\wr=w) (fun _ _=>0)
 case atStart=>exact⟨rfl,rfl⟩
 case round =>
  obtain⟨rfl,rfl⟩:=hrel;go_wp2;go_ret;exact⟨rfl,rfl⟩
theorem jb2 (b:Nat) (w:World) (h:w.cell? ⟨b,9,none⟩=some (.slice none 0 0)):Calls Tryz.prog 94 #[.pointer (some ⟨b,0,none⟩)] w fun e w'=>(∃ v,e=.returned v)/\w'=w:=by
 go_enter Tryz.func94,Tryz.ntmps94;go_wp2_with fail
 go_loopw [2] (fun i wr=>i=.int .i64 0/\wr=w) (fun _ _=>0)
 case atStart=>exact⟨rfl,rfl⟩
 case round =>
  obtain⟨rfl,rfl⟩:=hrel;go_wp2
  (try simp only[Exit.inBlock,Exit.then])
  refine bodyPost_end (results_none rfl _ _ _) rfl ?_;exact⟨⟨_,rfl⟩,rfl⟩
theorem jb3 (b:Nat) (w:World) (h:w.cell? ⟨b,9,none⟩=some (.slice none 0 0)):Calls Tryz.prog 106 #[.pointer (some ⟨b,0,none⟩)] w fun e w'=>(∃ v,e=.returned v)/\w'=w:=by
 go_enter Tryz.func106,Tryz.ntmps106;go_wp2_with fail
 go_loopw [2] (fun i wr=>i=.int .i64 0/\wr=w) (fun _ _=>0)
 case atStart=>exact⟨rfl,rfl⟩
 case round =>
  obtain⟨rfl,rfl⟩:=hrel;go_wp2
  (try simp only[Exit.inBlock,Exit.then])
  refine bodyPost_end (results_none rfl _ _ _) rfl ?_;exact⟨⟨_,rfl⟩,rfl⟩
theorem jb4 (b:Nat) (w:World) (h:w.cell? ⟨b,9,none⟩=some (.slice none 0 0)):Calls Tryz.prog 118 #[.pointer (some ⟨b,0,none⟩)] w fun e w'=>e=.returned (.bool true)/\w'=w:=by
 go_enter Tryz.func118,Tryz.ntmps118;go_wp2_with fail
 go_loopw [3] (fun i wr=>i=.int .i64 0/\wr=w) (fun _ _=>0)
 case atStart=>exact⟨rfl,rfl⟩
 case round =>
  obtain⟨rfl,rfl⟩:=hrel;go_wp2;go_ret;exact⟨rfl,rfl⟩
theorem Uh (b:Nat) (w:World) (h:w.cell? ⟨b,10,none⟩=some (.slice none 0 0)):Calls Tryz.prog 95 #[.pointer (some ⟨b,0,none⟩)] w fun e w'=>(∃ v,e=.returned v)/\w'=w:=by
 go_enter Tryz.func95,Tryz.ntmps95;go_wp2_with fail
 go_loopw [2] (fun i wr=>i=.int .i64 0/\wr=w) (fun _ _=>0)
 case atStart=>exact⟨rfl,rfl⟩
 case round =>
  obtain⟨rfl,rfl⟩:=hrel;go_wp2
  (try simp only[Exit.inBlock,Exit.then])
  refine bodyPost_end (results_none rfl _ _ _) rfl ?_;exact⟨⟨_,rfl⟩,rfl⟩
theorem Ui (b:Nat) (w:World) (h:w.cell? ⟨b,10,none⟩=some (.slice none 0 0)):Calls Tryz.prog 107 #[.pointer (some ⟨b,0,none⟩)] w fun e w'=>(∃ v,e=.returned v)/\w'=w:=by
 go_enter Tryz.func107,Tryz.ntmps107;go_wp2_with fail
 go_loopw [2] (fun i wr=>i=.int .i64 0/\wr=w) (fun _ _=>0)
 case atStart=>exact⟨rfl,rfl⟩
 case round =>
  obtain⟨rfl,rfl⟩:=hrel;go_wp2
  (try simp only[Exit.inBlock,Exit.then])
  refine bodyPost_end (results_none rfl _ _ _) rfl ?_;exact⟨⟨_,rfl⟩,rfl⟩
theorem Uj (b:Nat) (w:World) (h:w.cell? ⟨b,10,none⟩=some (.slice none 0 0)):Calls Tryz.prog 119 #[.pointer (some ⟨b,0,none⟩)] w fun e w'=>e=.returned (.bool true)/\w'=w:=by
 go_enter Tryz.func119,Tryz.ntmps119;go_wp2_with fail
 go_loopw [3] (fun i wr=>i=.int .i64 0/\wr=w) (fun _ _=>0)
 case atStart=>exact⟨rfl,rfl⟩
 case round =>
  obtain⟨rfl,rfl⟩:=hrel;go_wp2;go_ret;exact⟨rfl,rfl⟩
theorem Uk (b:Nat) (w:World) (h:w.cell? ⟨b,11,none⟩=some (.slice none 0 0)):Calls Tryz.prog 96 #[.pointer (some ⟨b,0,none⟩)] w fun e w'=>(∃ v,e=.returned v)/\w'=w:=by
 go_enter Tryz.func96,Tryz.ntmps96;go_wp2_with fail
 go_loopw [2] (fun i wr=>i=.int .i64 0/\wr=w) (fun _ _=>0)
 case atStart=>exact⟨rfl,rfl⟩
 case round =>
  obtain⟨rfl,rfl⟩:=hrel;go_wp2
  (try simp only[Exit.inBlock,Exit.then])
  refine bodyPost_end (results_none rfl _ _ _) rfl ?_;exact⟨⟨_,rfl⟩,rfl⟩
theorem Ul (b:Nat) (w:World) (h:w.cell? ⟨b,11,none⟩=some (.slice none 0 0)):Calls Tryz.prog 108 #[.pointer (some ⟨b,0,none⟩)] w fun e w'=>(∃ v,e=.returned v)/\w'=w:=by
 go_enter Tryz.func108,Tryz.ntmps108;go_wp2_with fail
 go_loopw [2] (fun i wr=>i=.int .i64 0/\wr=w) (fun _ _=>0)
 case atStart=>exact⟨rfl,rfl⟩
 case round =>
  obtain⟨rfl,rfl⟩:=hrel;go_wp2
  (try simp only[Exit.inBlock,Exit.then])
  refine bodyPost_end (results_none rfl _ _ _) rfl ?_;exact⟨⟨_,rfl⟩,rfl⟩
theorem Um (b:Nat) (w:World) (h:w.cell? ⟨b,11,none⟩=some (.slice none 0 0)):Calls Tryz.prog 120 #[.pointer (some ⟨b,0,none⟩)] w fun e w'=>e=.returned (.bool true)/\w'=w:=by
 go_enter Tryz.func120,Tryz.ntmps120;go_wp2_with fail
 go_loopw [3] (fun i wr=>i=.int .i64 0/\wr=w) (fun _ _=>0)
 case atStart=>exact⟨rfl,rfl⟩
 case round =>
  obtain⟨rfl,rfl⟩:=hrel;go_wp2;go_ret;exact⟨rfl,rfl⟩
theorem Un (b:Nat) (w:World) (h:w.cell? ⟨b,12,none⟩=some (.slice none 0 0)):Calls Tryz.prog 97 #[.pointer (some ⟨b,0,none⟩)] w fun e w'=>(∃ v,e=.returned v)/\w'=w:=by
 go_enter Tryz.func97,Tryz.ntmps97;go_wp2_with fail
 go_loopw [2] (fun i wr=>i=.int .i64 0/\wr=w) (fun _ _=>0)
 case atStart=>exact⟨rfl,rfl⟩
 case round =>
  obtain⟨rfl,rfl⟩:=hrel;go_wp2
  (try simp only[Exit.inBlock,Exit.then])
  refine bodyPost_end (results_none rfl _ _ _) rfl ?_;exact⟨⟨_,rfl⟩,rfl⟩
theorem Uo (b:Nat) (w:World) (h:w.cell? ⟨b,12,none⟩=some (.slice none 0 0)):Calls Tryz.prog 109 #[.pointer (some ⟨b,0,none⟩)] w fun e w'=>(∃ v,e=.returned v)/\w'=w:=by
 go_enter Tryz.func109,Tryz.ntmps109;go_wp2_with fail
 go_loopw [2] (fun i wr=>i=.int .i64 0/\wr=w) (fun _ _=>0)
 case atStart=>exact⟨rfl,rfl⟩
 case round =>
  obtain⟨rfl,rfl⟩:=hrel;go_wp2
  (try simp only[Exit.inBlock,Exit.then])
  refine bodyPost_end (results_none rfl _ _ _) rfl ?_;exact⟨⟨_,rfl⟩,rfl⟩
theorem Uq (b:Nat) (w:World) (h:w.cell? ⟨b,12,none⟩=some (.slice none 0 0)):Calls Tryz.prog 121 #[.pointer (some ⟨b,0,none⟩)] w fun e w'=>e=.returned (.bool true)/\w'=w:=by
 go_enter Tryz.func121,Tryz.ntmps121;go_wp2_with fail
 go_loopw [3] (fun i wr=>i=.int .i64 0/\wr=w) (fun _ _=>0)
 case atStart=>exact⟨rfl,rfl⟩
 case round =>
  obtain⟨rfl,rfl⟩:=hrel;go_wp2;go_ret;exact⟨rfl,rfl⟩
end Book
namespace Limb
open Go.RowKit Go.Sort
theorem jfl (x y:Int) (w:World) :
  Calls Tryz.prog 255 #[.int .u32 x,.int .u32 y] w fun e w'=>e=.returned (.int .i64 (Ju x y))/\w'=w:=by
 rcases Int.lt_trichotomy x y with h | h | h
 ·have E:=qh (JI h);go_enter Tryz.func255,Tryz.ntmps255;go_wp2;go_ret;exact⟨by rw[E.o];rfl,rfl⟩
 ·have E:=qh (JW h);subst h;go_enter Tryz.func255,Tryz.ntmps255;go_wp2;go_ret;exact⟨by rw[E.o];rfl,rfl⟩
 ·have E:=qh (JL h);go_enter Tryz.func255,Tryz.ntmps255;go_wp2;go_ret;exact⟨by rw[E.o];rfl,rfl⟩
theorem Yd (x y:Int) (w:World) :
  Calls Tryz.prog 254 #[.int .i64 x,.int .i64 y] w fun e w'=>e=.returned (.int .i64 (Ju x y))/\w'=w:=by
 rcases Int.lt_trichotomy x y with h | h | h
 ·have E:=qh (JI h);go_enter Tryz.func254,Tryz.ntmps254;go_wp2;go_ret;exact⟨by rw[E.o];rfl,rfl⟩
 ·have E:=qh (JW h);subst h;go_enter Tryz.func254,Tryz.ntmps254;go_wp2;go_ret;exact⟨by rw[E.o];rfl,rfl⟩
 ·have E:=qh (JL h);go_enter Tryz.func254,Tryz.ntmps254;go_wp2;go_ret;exact⟨by rw[E.o];rfl,rfl⟩
theorem Kr (a:Option Addr) (n cap:Nat) (o:Nat->Int) (i:Nat) (w:World) (h:Rd w a n o) (hn:n<=1000000000) (hi:i<=1000000000) :
  Calls Tryz.prog 249 #[.slice a n cap,.int .i64 i] w fun e w'=>e=.returned (.int .i64 (part o n i))/\w'=w:=by
 by_cases hlt:i<n
 ·have E:=qh (show part o n i=o i by unfold part;rw[if_pos hlt]);obtain⟨b,off,rfl,hc⟩:=h.cells (by omega);have c1:=hc i hlt;have r1:=h.rng i hlt;have e1:=IntWalk.i64_in (o i) (by omega);clear hc h;go_enter Tryz.func249,Tryz.ntmps249;go_wp2;go_ret;exact⟨by rw[E.o];rfl,rfl⟩
 ·have E:=qh (show part o n i=0 by unfold part;rw[if_neg hlt]);clear h;go_enter Tryz.func249,Tryz.ntmps249;go_wp2;go_ret;exact⟨by rw[E.o];rfl,rfl⟩
end Limb
namespace Limb
theorem div_step {by' Q rest o:Int} (h0:0<by') (hr:0<=rest/\rest<by'):(o+1000000000*(by' * Q+rest))/by'=(rest*1000000000+o)/by' + 1000000000*Q/\(o+1000000000*(by' * Q+rest))%by'=(rest*1000000000+o)%by':=by
 have e:o+1000000000*(by' * Q+rest)=(rest*1000000000+o)+by' * (1000000000*Q):=by
  have:by' * (1000000000*Q)=1000000000*(by' * Q):=by rw[<- Int.mul_assoc,Int.mul_comm by',Int.mul_assoc]
  rw[this,Int.mul_add];omega
 rw[e];exact⟨Int.add_mul_ediv_left _ _ (by omega),Int.add_mul_emod_self_left _ _ _⟩
theorem jam {by' rest o:Int} (h0:0<by') (hr:0<=rest/\rest<by') (ho:0<=o/\o<1000000000):0<=(rest*1000000000+o)/by'/\(rest*1000000000+o)/by' < 1000000000:=by
 refine⟨Int.ediv_nonneg (by omega) (by omega),Int.ediv_lt_of_lt_mul h0 ?_⟩;have:rest*1000000000<=(by' - 1)*1000000000:=Int.mul_le_mul_of_nonneg_right (by omega) (by omega);rw[Int.mul_comm];omega
structure QF (o:Nat->Int) (n:Nat) (by':Int) (i:Nat) (p:Nat->Int) (rest:Int):Prop where
 quo:Ji (fun k=>p (i+k)) (n-i)=Ji (fun k=>o (i+k)) (n-i)/by'
 rst:rest=Ji (fun k=>o (i+k)) (n-i)%by'
 dig:Dig p n
theorem QF.start (o:Nat->Int) (n:Nat) (by':Int):QF o n by' n (fun _=>0) 0:=by
 refine⟨?_,?_,fun i _=>⟨by omega,by omega⟩⟩
 ·rw[Nat.sub_self,Ji,Ji];simp
 ·rw[Nat.sub_self,Ji];simp
theorem QF.bd {o p:Nat->Int} {n i:Nat} {by' rest:Int} (h:QF o n by' i p rest) (h0:0<by'):0<=rest/\rest<by':=by
 rw[h.rst];exact⟨Int.emod_nonneg _ (by omega),Int.emod_lt_of_pos _ h0⟩
theorem QF.step {o p:Nat->Int} {n i:Nat} {by' rest:Int} (h:QF o n by' (i+1) p rest) (h0:0<by') (hd:Dig o n) (hi:i<n):QF o n by' i (upd p i ((rest*1000000000+o i)/by')) ((rest*1000000000+o i)%by'):=by
 have hb:=h.bd h0
 have hs:∀ f:Nat->Int,Ji (fun k=>f (i+k)) (n-i)=f i+1000000000*Ji (fun k=>f (i+1+k)) (n-(i+1)):=by
  intro f;rw[show n-i=(n-(i+1))+1 by omega,Zf]
  have e:(fun k=>f (i+(k+1)))=fun k=>f (i+1+k):=by funext k;rw[show i+(k+1)=i+1+k by omega]
  rw[e];rfl
 have hq:=h.quo;have hr:=h.rst
 generalize hA:Ji (fun k=>o (i+1+k)) (n-(i+1))=A at hq hr
 have hA2:A=by' * (A/by')+rest:=by rw[hr];exact(Int.mul_ediv_add_emod A by').symm
 obtain⟨d1,d2⟩:=div_step (o:=o i) (Q:=A/by') h0 hb;refine⟨?_,?_,KH h.dig i (jam h0 hb (hd i hi))⟩
 ·rw[hs o,hs (upd p i _),hA]
  have e:(fun k=>upd p i ((rest*1000000000+o i)/by') (i+1+k))=fun k=>p (i+1+k):=by funext k;exact upd_ne _ _ (by omega)
  rw[e,hq,upd_same]
  conv=>rhs;rw[hA2]
  rw[d1]
 ·rw[hs o,hA]
  conv=>rhs;rw[hA2]
  rw[d2]
theorem QF.done {o p:Nat->Int} {n:Nat} {by' rest:Int} (h:QF o n by' 0 p rest):Ji p n=Ji o n/by'/\rest=Ji o n%by':=by
 have e:∀ f:Nat->Int,(fun k=>f (0+k))=f:=fun f=>by funext k;rw[Nat.zero_add]
 have h1:=h.quo;have h2:=h.rst;rw[e,e] at h1;rw[e] at h2;exact⟨h1,h2⟩
end Limb
namespace Mono
open Go.RowKit Go.Sort
theorem Y4 {W:World} {b:Nat} {t:TypeId} {f:Nat->Value} (h:W.rowIs b t 4 f) :
  (∀ d os,(grow (redrawn W d) os).cell? ⟨b,0,none⟩=some (f 0))/\(∀ d os,(grow (redrawn W d) os).cell? ⟨b,1,none⟩=some (f 1)) /\
  (∀ d os,(grow (redrawn W d) os).cell? ⟨b,2,none⟩=some (f 2))/\(∀ d os,(grow (redrawn W d) os).cell? ⟨b,3,none⟩=some (f 3)) :=
 ⟨cell_regrown (h.cell (by omega)),cell_regrown (h.cell (by omega)),cell_regrown (h.cell (by omega)),cell_regrown (h.cell (by omega))⟩
theorem rowc {W:World} {b:Nat} {t:TypeId} {f:Nat->Value} (h:W.rowIs b t 4 f) :
  W.cell? ⟨b,0,none⟩=some (f 0)/\W.cell? ⟨b,1,none⟩=some (f 1)/\W.cell? ⟨b,2,none⟩=some (f 2)/\W.cell? ⟨b,3,none⟩=some (f 3) :=
 ⟨h.cell (by omega),h.cell (by omega),h.cell (by omega),h.cell (by omega)⟩
theorem J5 {B b:Nat} {W w1:World} {t:TypeId} {f:Nat->Value} (h:W.rowIs b t 4 f) (hb:Below B W w1) (hlt:b<B):w1.rowIs b t 4 f:=h.of_block (hb.block _ hlt)
theorem rowNew (W:World) (t:TypeId) (a:Nat->Int):(W.alloc (.cells (Qg a) t)).rowIs W.heap.size t 4 (cell a):=W.rowIs_alloc (Qg a) t (cell a) (four a)
theorem boxes (w:World) (t:TypeId) (a b:Nat->Int):((w.alloc (.cells (Qg a) t)).alloc (.cells (Qg b) t)).rowIs w.heap.size t 4 (cell a)/\((w.alloc (.cells (Qg a) t)).alloc (.cells (Qg b) t)).rowIs (w.heap.size+1) t 4 (cell b):=by
 refine⟨(rowNew w t a).alloc _,?_⟩;have h:=rowNew (w.alloc (.cells (Qg a) t)) t b;rw[World.size_alloc] at h;exact h
theorem eqIn16 (d:Nat) (a b:Int) (w:World):(Op.equalIn (d+1) 67 (.int .u16 a) (.int .u16 b)).run Tryz.prog w=.ok (a==b) w :=
 run_equalIn_int w d 67 .u16 .u16 a b Tryz.underlying67
theorem part0 (x0 x1 x2 x3:Int) (w:World):(Go.part 67 #[Value.int .u16 x0,.int .u16 x1,.int .u16 x2,.int .u16 x3] 0).run Tryz.prog w=.ok (.int .u16 x0) w:=by kernel_rfl
theorem part1 (x0 x1 x2 x3:Int) (w:World):(Go.part 67 #[Value.int .u16 x0,.int .u16 x1,.int .u16 x2,.int .u16 x3] 1).run Tryz.prog w=.ok (.int .u16 x1) w:=by kernel_rfl
theorem part2 (x0 x1 x2 x3:Int) (w:World):(Go.part 67 #[Value.int .u16 x0,.int .u16 x1,.int .u16 x2,.int .u16 x3] 2).run Tryz.prog w=.ok (.int .u16 x2) w:=by kernel_rfl
theorem part3 (x0 x1 x2 x3:Int) (w:World):(Go.part 67 #[Value.int .u16 x0,.int .u16 x1,.int .u16 x2,.int .u16 x3] 3).run Tryz.prog w=.ok (.int .u16 x3) w:=by kernel_rfl
theorem eqIn4 (d:Nat) (x0 x1 x2 x3 y0 y1 y2 y3:Int) (w:World):(Op.equalIn (d+2) 69 (mv x0 x1 x2 x3) (mv y0 y1 y2 y3)).run Tryz.prog w=.ok (x0==y0&&(x1==y1&&(x2==y2&&x3==y3))) w:=by
 have hs:∀ w,(sizeOf 67).run Tryz.prog w=.ok 1 w:=fun _=>by kernel_rfl
 rw[Op.equalIn];simp only[Sem.run_bind,run_underlying Tryz.underlying69,Result.andThen_ok,hs];simp only[Std.Legacy.Range.forIn_eq_forIn_range',Std.Legacy.Range.size,Nat.sub_zero,Nat.add_sub_cancel,Nat.div_one,List.range'_succ,List.range'_zero,List.forIn_cons,List.forIn_nil];simp only[Sem.run_bind,Nat.mul_one,Nat.zero_add,Nat.reduceAdd,part0,eqIn16,Result.andThen_ok]
 by_cases h0:x0=y0 <;> by_cases h1:x1=y1 <;> by_cases h2:x2=y2 <;> by_cases h3:x3=y3 <;> simp[h0,h1,h2,h3,Sem.run_bind,part1,part2,part3,eqIn16]
@[go_sem] theorem jeo (x0 x1 x2 x3 y0 y1 y2 y3:Int) (w:World):(Op.equalIn 10000 69 (mv x0 x1 x2 x3) (mv y0 y1 y2 y3)).run Tryz.prog w=.ok (x0==y0&&(x1==y1&&(x2==y2&&x3==y3))) w :=
 eqIn4 9998 x0 x1 x2 x3 y0 y1 y2 y3 w
end Mono
namespace Limb
open Go.RowKit Go.Sort
theorem Xh (x y:Nat) (a b:Option Addr) (ca cb:Nat) (w:World) (ha:Rd w a (Ja x) (dgi x)) (hb:Rd w b (Ja y) (dgi y)) (hx:Ja x<=1000000000) (hy:Ja y<=1000000000) :
  Calls Tryz.prog 214 #[.slice a (Ja x) ca,.slice b (Ja y) cb] w fun e w'=>e=.returned (.int .i64 (Ju x y))/\∃ m,w'=w.drewN m:=by
 rcases Nat.lt_trichotomy (Ja x) (Ja y) with h | h | h
 ·have E:=qh (show Ju x y = -1 from JI (by have:=KE h;omega));have E2:=qh (show Ju (Ja x:Int) (Ja y) = -1 from JI (by omega));go_enter Tryz.func214,Tryz.ntmps214;go_wp2_with fail
  refine(Yd _ _ _).mono ?_;rintro e w' ⟨rfl,hw⟩;subst w';rw[E2.o];go_wp2;go_ret;exact⟨by rw[E.o];rfl,0,rfl⟩
 ·obtain⟨k0,hD⟩:=Yv (dgi x) (dgi y) (Ja x);have hC:=Yw (Jr x _) (Jr y _) hD;rw[Jy,show Ji (dgi y) (Ja x)=y by rw[h];exact Jy y] at hC;have E:=qh hC;have E2:=qh (show Ju (Ja x:Int) (Ja y)=0 from JW (by omega));obtain⟨hk0,heq,hne⟩:=hD;have EQ:=qh heq;have NE:=qh hne;have HL:=qh h;clear hC heq hne h;go_enter Tryz.func214,Tryz.ntmps214;go_wp2_with fail
  refine(Yd _ _ _).mono ?_;rintro e w' ⟨rfl,hw⟩;subst w';rw[E2.o];go_wp2_with fail
  go_loopw [6] (fun i wr=>∃ j:Nat,k0<=j/\j<=Ja x/\i=.int .i64 ((j:Int)-1)/\∃ m,wr=w.drewN m) (fun i _=>(1+intOf i).toNat)
  case atStart=>exact⟨Ja x,hk0,zj,rfl,0,rfl⟩
  case round =>
   obtain⟨j,hj,hjn,rfl,m0,rfl⟩:=hrel;by_cases hj0:j=0
   ·subst hj0;have Z:=qh (show Ju x y=0 by rw[E.o,if_pos (by omega)]);rw[show(((0:Nat):Int)-1) = -1 from rfl];go_wp2;go_ret;exact⟨by rw[Z.o];rfl,m0,rfl⟩
   ·obtain⟨q,rfl⟩:∃ q,j=q+1:=⟨j-1,by omega⟩;rw[show(((q+1:Nat):Int)-1)=(q:Int) by omega];obtain⟨b1,o1,rfl,hc1⟩:=ha.cells (by omega);obtain⟨b2,o2,rfl,hc2⟩:=hb.cells (by have:=HL.o;omega);have c1:=hc1 q (by omega);have c2:=hc2 q (by have:=HL.o;omega)
    have lx:q<Ja x:=by omega
    have ly:q<Ja y:=by have:=HL.o;omega
    clear hc1 hc2 ha hb;by_cases hlk:k0<=q
    ·have hne:(dgi x q != dgi y q)=false:=by rw[EQ.o q hlk (by omega)];simp
     go_wp2;go_quiet (fail);go_wp2;go_roundw
     case rel=>exact⟨q,hlk,by omega,rfl,_,rfl⟩
     case measure=>simp[intOf];omega
    ·have hkq:k0=q+1:=by omega
     have hnn:dgi x q≠dgi y q:=by have:=NE.o (by omega);rw[hkq] at this;simpa using this
     have hne:(dgi x q != dgi y q)=true:=by simpa using hnn
     have Z:=qh (show Ju x y=Ju (dgi x q) (dgi y q) by rw[E.o,if_neg (by omega),hkq];rfl);clear hkq hnn;go_wp2;go_quiet (fail);go_wp2;go_quiet (exact(jfl (dgi x q) (dgi y q) _).mono fun e w'' ⟨he,hw⟩=>⟨he,_,hw⟩);go_wp2;go_ret;exact⟨by rw[Z.o];rfl,_,by rw[World.drewN_drewN,World.drewN_drewN]⟩
 ·have E:=qh (show Ju x y=1 from JL (by have:=KE h;omega));have E2:=qh (show Ju (Ja x:Int) (Ja y)=1 from JL (by omega));go_enter Tryz.func214,Tryz.ntmps214;go_wp2_with fail
  refine(Yd _ _ _).mono ?_;rintro e w' ⟨rfl,hw⟩;subst w';rw[E2.o];go_wp2;go_ret;exact⟨by rw[E.o];rfl,0,rfl⟩
end Limb
namespace Limb
def splice (o:Nat->Int) (i m:Nat) (r:Nat->Int):Nat->Int:=fun k=>if i<=k/\k<i+m then r (k-i) else o k
theorem X4 {o r:Nat->Int} {i m k:Nat} (h:k<m):splice o i m r (i+k)=r k:=by
 unfold splice;rw[if_pos ⟨by omega,by omega⟩,Nat.add_sub_cancel_left]
theorem QP {o r:Nat->Int} {i m k:Nat} (h:k<i\/i+m<=k):splice o i m r k=o k:=by
 unfold splice;rw[if_neg (by omega)]
theorem jc1 {o r:Nat->Int} {i m L:Nat} (ho:Dig o L) (hr:Dig r m):Dig (splice o i m r) L:=by
 intro k hk;by_cases h:i<=k/\k<i+m
 ·obtain⟨j,rfl⟩:∃ j,k=i+j:=⟨k-i,by omega⟩;rw[X4 (by omega)];exact hr j (by omega)
 ·rw[QP (by omega)];exact ho k hk
structure DivI (X V:Int) (n L M i:Nat) (up qp:Nat->Int):Prop where
 udig:Dig up L
 qdig:Dig qp M
 qz:∀ k,k<i->qp k=0
 bal:X=V*((pw i:Int)*Ji (fun k=>qp (i+k)) (M-i))+Ji up L
 lt:Ji up L<V*(pw i:Int)
def Qp (up:Nat->Int) (n i:Nat):Int:=Ji (fun k=>up (i+k)) (n+1)
theorem Ur {a b c:Int} (hc:0<c) (h:c*a<c*b):a<b:=Int.lt_of_mul_lt_mul_left h (by omega)
theorem DivI.head {X V:Int} {n L M i:Nat} {up qp:Nat->Int} (D:DivI X V n L M (i+1) up qp) (hi:i<M) (hL:M+n=L) (hV:V<(pw n:Int)) (hV0:0<V) :
  0<=Qp up n i/\Qp up n i<V*1000000000/\Ji up L=Ji up i+(pw i:Int)*Qp up n i/\Ji (fun k=>up (i+(n+1)+k)) (L-i-(n+1))=0:=by
 have hpi:(0:Int)<(pw i:Int):=by have:=QE i;omega
 have hpn:(0:Int)<(pw (n+1):Int):=by have:=QE (n+1);omega
 have e1:Ji up L=Ji up i+(pw i:Int)*Ji (fun k=>up (i+k)) (L-i):=by
  have h:=Qt up i (L-i);rwa [show i+(L-i)=L by omega] at h
 have e2:Ji (fun k=>up (i+k)) (L-i)=Qp up n i+(pw (n+1):Int)*Ji (fun k=>up (i+(n+1)+k)) (L-i-(n+1)):=by
  have h:=Qt (fun k=>up (i+k)) (n+1) (L-i-(n+1));rw[show n+1+(L-i-(n+1))=L-i by omega] at h;rw[h]
  have:(fun k=>up (i+(n+1+k)))=fun k=>up (i+(n+1)+k):=by funext k;rw[<- Nat.add_assoc]
  rw[this];rfl
 have b1:=(JA (o:=up) (n:=i) fun k hk=>D.udig k (by omega));have b2:=(JA (o:=fun k=>up (i+k)) (n:=n+1) fun k hk=>D.udig (i+k) (by omega));have b3:=(JA (o:=fun k=>up (i+(n+1)+k)) (n:=L-i-(n+1)) fun k hk=>D.udig _ (by omega));have h0:0<=Qp up n i:=b2.1
 generalize hs:Ji (fun k=>up (i+(n+1)+k)) (L-i-(n+1))=s at e2 b3
 generalize ht:Ji (fun k=>up (i+k)) (L-i)=t at e1 e2
 have hlt:=D.lt;rw[e1,JK,Int.natCast_mul] at hlt
 have ht2:t<V*1000000000:=by
  refine Ur hpi ?_
  have:V*((pw i:Int)*((1000000000:Nat):Int))=(pw i:Int)*(V*1000000000):=by rw[Int.mul_left_comm];rfl
  omega
 have hpn1:(pw (n+1):Int)=(pw n:Int)*1000000000:=by rw[JK,Int.natCast_mul];rfl
 have hs0:s=0:=by
  have hsn:0<=s:=b3.1
  rcases Int.lt_or_le 0 s with h | h
  ·have h1:(pw (n+1):Int)*1<=(pw (n+1):Int)*s:=Int.mul_le_mul_of_nonneg_left (by omega) (by omega);omega
  ·omega
 subst hs0;rw[Int.mul_zero,Int.add_zero] at e2;rw[e2] at e1 ht2;exact⟨h0,ht2,e1,rfl⟩
theorem jc2 {up r:Nat->Int} {n i L:Nat} (hL:i+(n+1)<=L) (hz:Ji (fun k=>up (i+(n+1)+k)) (L-i-(n+1))=0):Ji (splice up i (n+1) r) L=Ji up i+(pw i:Int)*Ji r (n+1):=by
 have h1:=Qt (splice up i (n+1) r) i (L-i);rw[show i+(L-i)=L by omega] at h1;have h2:=Qt (fun k=>splice up i (n+1) r (i+k)) (n+1) (L-i-(n+1));rw[show n+1+(L-i-(n+1))=L-i by omega] at h2;rw[h1,h2]
 have e1:Ji (splice up i (n+1) r) i=Ji up i:=JY fun k hk=>QP (Or.inl hk)
 have e2:Ji (fun k=>splice up i (n+1) r (i+k)) (n+1)=Ji r (n+1):=JY fun k hk=>X4 hk
 have e3:Ji (fun k=>splice up i (n+1) r (i+(n+1+k))) (L-i-(n+1))=0:=by
  rw[<- hz]
  refine JY fun k hk=>?_
  rw[QP (Or.inr (by omega))]
  congr 1;omega
 rw[e1,e2,e3];simp
theorem DivI.step {X V g:Int} {n L M i:Nat} {up qp r:Nat->Int} (D:DivI X V n L M (i+1) up qp) (hi:i<M) (hL:M+n=L) (hV:V<(pw n:Int)) (hV0:0<V)
  (hg:0<=g/\g<1000000000) (hr:Dig r (n+1)) (hs:Ji r (n+1)=Qp up n i-V*g) (hlt:Qp up n i-V*g<V):DivI X V n L M i (splice up i (n+1) r) (upd qp i g):=by
 obtain⟨h0,h1,h2,h3⟩:=D.head hi hL hV hV0;have hS:=jc2 (r:=r) (by omega) h3
 have hpi:(0:Int)<(pw i:Int):=by have:=QE i;omega
 have b1:=(JA (o:=up) (n:=i) fun k hk=>D.udig k (by omega));refine⟨jc1 D.udig hr,KH D.qdig i hg,fun k hk=>by rw[upd_ne _ _ (by omega)];exact D.qz k (by omega),?_,?_⟩
 ·rw[hS,hs]
  have hq:Ji (fun k=>upd qp i g (i+k)) (M-i)=g+1000000000*Ji (fun k=>qp (i+1+k)) (M-(i+1)):=by
   rw[show M-i=(M-(i+1))+1 by omega,Zf]
   have e:(fun k=>upd qp i g (i+(k+1)))=fun k=>qp (i+1+k):=by
    funext k;rw[upd_ne _ _ (by omega),show i+(k+1)=i+1+k by omega]
   rw[e,Nat.add_zero,upd_same]
  have hb:=D.bal;rw[h2,JK,Int.natCast_mul] at hb;rw[hq]
  generalize Ji (fun k=>qp (i+1+k)) (M-(i+1))=Q at hb ⊢
  generalize Qp up n i=h at hb ⊢
  generalize Ji up i=lo at hb ⊢
  generalize (pw i:Int)=P at hb ⊢
  rw[hb];have a1:P*(V*g)=V*(P*g):=Int.mul_left_comm _ _ _
  have a2:V*(P*((1000000000:Nat):Int)*Q)=V*(P*(1000000000*Q)):=by rw[Int.mul_assoc P];rfl
  simp only[Int.mul_add,Int.mul_sub];rw[a1,a2];omega
 ·rw[hS,hs];have:(pw i:Int)*(Qp up n i-V*g)<=(pw i:Int)*(V-1):=Int.mul_le_mul_of_nonneg_left (by omega) (by omega);rw[Int.mul_sub (pw i:Int) V 1,Int.mul_comm (pw i:Int) V] at this;omega
theorem guess_ge {h V v1 two:Int} {B1:Int} (hv1:0<v1) (hB1:0<B1) (hV:v1*B1<=V) (h0:0<=h) (hh:h<(two+1)*B1) (hlt:h<V*1000000000) (hV0:0<V):h/V<=min (two/v1) 999999999:=by
 have hq0:0<=h/V:=Int.ediv_nonneg h0 (by omega);have hqV:h/V*V<=h:=Int.ediv_mul_le h (by omega);have h1:h/V<1000000000:=Int.ediv_lt_of_lt_mul hV0 (by rw[Int.mul_comm];exact hlt)
 have h2:h/V<=two/v1:=by
  refine(Int.le_ediv_iff_mul_le hv1).2 ?_;have a1:h/V*(v1*B1)<=h/V*V:=Int.mul_le_mul_of_nonneg_left hV hq0
  have a2:(h/V*v1)*B1<(two+1)*B1:=by rw[Int.mul_assoc];omega
  have:=Int.lt_of_mul_lt_mul_right a2 (by omega);omega
 omega
theorem jc3 {h V v1 v2 two h2 B2 g:Int} (hB2:0<B2) (hV:(v1*1000000000+v2)*B2<=V) (hh:h<(two*1000000000+h2+1)*B2) (hg:0<=g) (hover:(two-g*v1)*1000000000+h2<g*v2) (hge:h/V<=g) (hV0:0<V):h/V<=g-1:=by
 rcases Int.lt_or_le (h/V) g with hlt | hle
 ·omega
 ·have e:h/V=g:=by omega
  have h1:g*V<=h:=by rw[<- e];exact Int.ediv_mul_le h (by omega)
  have a1:g*((v1*1000000000+v2)*B2)<=g*V:=Int.mul_le_mul_of_nonneg_left hV hg
  have a2:(g*(v1*1000000000+v2))*B2<(two*1000000000+h2+1)*B2:=by rw[Int.mul_assoc];omega
  have a3:=Int.lt_of_mul_lt_mul_right a2 (by omega);rw[Int.mul_add,<- Int.mul_assoc] at a3;rw[Int.sub_mul] at hover;omega
theorem Yx {h V g:Int} (hV0:0<V) (hge:h/V<=g) (hle:¬h<V*g):g=h/V/\0<=h-V*g/\h-V*g<V:=by
 have h1:g<=h/V:=(Int.le_ediv_iff_mul_le hV0).2 (by rw[Int.mul_comm];omega)
 have e:g=h/V:=by omega
 refine⟨e,by omega,?_⟩;have h2:=Int.lt_ediv_add_one_mul_self h hV0;rw[<- e,Int.add_mul,Int.mul_comm g V] at h2;omega
theorem Y5 {h V g:Int} (hV0:0<V) (hge:h/V<=g) (hlt:h<V*g):h/V<=g-1:=by
 have h1:h/V<g:=Int.ediv_lt_of_lt_mul hV0 (by rw[Int.mul_comm];exact hlt);omega
theorem Y6 {f:Nat->Int} {m:Nat} (hd:Dig f (m+1+1)):Ji f (m+1+1)<(f (m+1)*1000000000+f m+1)*(pw m:Int)/\(f (m+1)*1000000000+f m)*(pw m:Int)<=Ji f (m+1+1):=by
 have b:=JA (o:=f) (n:=m) fun k hk=>hd k (by omega)
 rw[Ji,Ji,JK,Int.natCast_mul]
 have e:f (m+1)*((pw m:Int)*((1000000000:Nat):Int))=f (m+1)*1000000000*(pw m:Int):=by rw[Int.mul_comm (pw m:Int),<- Int.mul_assoc];rfl
 rw[e,Int.add_mul,Int.add_mul];omega
theorem jfm {f:Nat->Int} {m:Nat} (hd:Dig f (m+1+1+1)):Ji f (m+1+1+1)<((f (m+1+1)*1000000000+f (m+1))*1000000000+f m+1)*(pw m:Int):=by
 have b:=Y6 (f:=f) (m:=m) fun k hk=>hd k (by omega)
 rw[Ji,JK,JK,Int.natCast_mul,Int.natCast_mul]
 have e:f (m+1+1)*((pw m:Int)*((1000000000:Nat):Int)*((1000000000:Nat):Int))=f (m+1+1)*1000000000*1000000000*(pw m:Int):=by
  rw[Int.mul_comm (pw m:Int),Int.mul_assoc,Int.mul_comm (pw m:Int),<- Int.mul_assoc,<- Int.mul_assoc];rfl
 rw[e];have h1:Ji f (m+2)<(f (m+1)*1000000000+f m+1)*(pw m:Int):=b.1;rw[Int.add_mul,Int.add_mul] at h1;rw[Int.add_mul,Int.add_mul,Int.add_mul (f (m+1+1)*1000000000),Int.add_mul];omega
theorem sum_low {o:Nat->Int} {n L:Nat} (hd:Dig o L) (hn:n<=L) (h:Ji o L<(pw n:Int)):Ji o n=Ji o L:=by
 have e:=Qt o n (L-n);rw[show n+(L-n)=L by omega] at e;have b1:=(JA (o:=o) (n:=n) fun k hk=>hd k (by omega));have b2:=(JA (o:=fun k=>o (n+k)) (n:=L-n) fun k hk=>hd (n+k) (by omega))
 have hp:(0:Int)<(pw n:Int):=by have:=QE n;omega
 generalize Ji (fun k=>o (n+k)) (L-n)=s at e b2
 rcases Int.lt_or_le 0 s with h1 | h1
 ·have:(pw n:Int)*1<=(pw n:Int)*s:=Int.mul_le_mul_of_nonneg_left (by omega) (by omega);omega
 ·have h2:s=0:=by omega
  rw[h2,Int.mul_zero] at e;omega
theorem div_end {A Bv sc Q R:Int} (hsc:0<sc) (h:A*sc=Bv*sc*Q+R) (h0:0<=R) (hlt:R<Bv*sc):Q=A/Bv/\R/sc=A%Bv:=by
 have e:R=sc*(A-Bv*Q):=by
  rw[Int.mul_sub,Int.mul_comm sc A,<- Int.mul_assoc,Int.mul_comm sc Bv];omega
 have h1:0<=A-Bv*Q:=by
  rcases Int.lt_or_le (A-Bv*Q) 0 with h | h
  ·have:=Int.mul_neg_of_pos_of_neg hsc h;omega
  ·exact h
 have h2:A-Bv*Q<Bv:=by
  refine Ur hsc ?_;rw[<- e,Int.mul_comm sc Bv];exact hlt
 have h3:=(Int.ediv_emod_unique (a:=A) (b:=Bv) (q:=Q) (r:=A-Bv*Q) (by omega)).2 ⟨by omega,h1,h2⟩;refine⟨h3.1.symm,?_⟩;rw[h3.2,e,Int.mul_ediv_cancel_left _ (by omega)]
theorem jbf (up:Nat->Int) (i m:Nat):splice up i m (fun k=>up (i+k))=up:=by
 funext k;by_cases h:i<=k/\k<i+m
 ·obtain⟨j,rfl⟩:∃ j,k=i+j:=⟨k-i,by omega⟩;rw[X4 (by omega)]
 ·rw[QP (by omega)]
theorem DivI.skip {X V:Int} {n L M i:Nat} {up qp:Nat->Int} (D:DivI X V n L M (i+1) up qp) (hi:i<M) (hL:M+n=L) (hV:V<(pw n:Int)) (hV0:0<V) (hq:Qp up n i/V<=0):DivI X V n L M i up qp:=by
 have h0:=(D.head hi hL hV hV0).1;have h1:0<=Qp up n i/V:=Int.ediv_nonneg h0 (by omega);have h2:=Int.lt_ediv_add_one_mul_self (Qp up n i) hV0;rw[show Qp up n i/V=0 by omega] at h2;have h:=D.step (g:=0) (r:=fun k=>up (i+k)) hi hL hV hV0 ⟨by omega,by omega⟩ (fun k hk=>D.udig (i+k) (by omega)) (by rw[Int.mul_zero,Int.sub_zero];rfl) (by rw[Int.mul_zero];omega);rw[jbf] at h
 have e:upd qp i 0=qp:=by
  funext k;by_cases hk:k=i
  ·subst hk;rw[upd_same,D.qz k (by omega)]
  ·rw[upd_ne _ _ hk]
 rwa [e] at h
open Go.RowKit Go.Sort Go.ChangeShapes Go.WideShapes Go.ChangeAt
theorem jb5:Tryz.prog.cellsOf 26=2:=by kernel_rfl
theorem jfn:Tryz.prog.cellsOf 4=1:=by kernel_rfl
theorem jfo:Tryz.prog.cellsOf 24=1:=by kernel_rfl
theorem jfp:Tryz.prog.cellsOf 160=1:=by kernel_rfl
theorem open_list {H:Type} {enc:TypeId × Value->H} {W:World} {sp:Nat->Bool} {hd:Bool} {fuel:Nat} {v:Value} {x:DataW H × List MemPlace}
  (h:DataW.trod enc Tryz.prog W 0 sp hd fuel 24 [v]=some x):∃ a n c o,v=.slice a n c/\Rd W a n o/\n<=c:=by
 rcases open_ints Tryz.underlying24 Tryz.underlying160 jfp h with ⟨e,_⟩ | ⟨a,len,cap,zs,e,_,hl,_,hz,_,hc,hw⟩
 ·simp only[List.cons.injEq,and_true] at e;exact⟨none,0,0,fun _=>0,e,Rd.nil _ _ _,zj⟩
 ·simp only[List.cons.injEq,and_true] at e
  have hlz:len<=zs.length:=by rw[hz];split <;> omega
  refine⟨some a,len,cap,fun i=>zs.getD i 0,e,⟨fun hn=>?_,fun i hi=>?_⟩,hl⟩
  ·obtain⟨b,off,rfl,h3⟩:=ints_at hc (by omega);exact⟨b,off,rfl,fun i hi=>h3 i (by omega)⟩
  ·have hmem:zs.getD i 0∈zs:=by
    rw[List.getD_eq_getElem?_getD,List.getElem?_eq_getElem (by omega)];exact List.getElem_mem _
   exact bounds_u32 (hw _ hmem)
end Limb
namespace Mono
open Go.RowKit Go.Sort
def Ju (x y:Int):Int:=if x<y then -1 else if y<x then 1 else 0
theorem Us (x y:Int) (w:World) :
  Calls Tryz.prog 278 #[.int .u16 x,.int .u16 y] w fun e w'=>e=.returned (.int .i64 (Ju x y))/\w'=w:=by
 rcases Int.lt_trichotomy x y with h | h | h
 ·have E:=qh (show Ju x y = -1 by simp[Ju,h]);go_enter Tryz.func278,Tryz.ntmps278;go_wp2;go_ret;exact⟨by rw[E.o];rfl,rfl⟩
 ·have E:=qh (show Ju x y=0 by simp[Ju,h]);subst h;go_enter Tryz.func278,Tryz.ntmps278;go_wp2;go_ret;exact⟨by rw[E.o];rfl,rfl⟩
 ·have E:=qh (show Ju x y=1 by simp[Ju,h];omega);go_enter Tryz.func278,Tryz.ntmps278;go_wp2;go_ret;exact⟨by rw[E.o];rfl,rfl⟩
def Diff (a b:Nat->Int) (k:Nat):Prop:=k<=4/\(∀ j,j<k->a j=b j)/\(k<4->a k≠b k)
theorem X7 (a b:Nat->Int):∃ k,Diff a b k:=by
 by_cases h:∀ k,k<4->a k=b k
 ·exact⟨4,by omega,h,fun hh=>absurd hh (by omega)⟩
 ·obtain⟨k,h1,h2,h3⟩:=Xu (fun k=>a k=b k) 4 h;exact⟨k,by omega,h2,fun _=>h3⟩
def XJ (a b:Nat->Int):Int :=
 if a 0≠b 0 then Ju (a 0) (b 0) else if a 1≠b 1 then Ju (a 1) (b 1) else if a 2≠b 2 then Ju (a 2) (b 2) else Ju (a 3) (b 3)
theorem X8 {a b:Nat->Int} {k:Nat} (h:Diff a b k):XJ a b=if k<4 then Ju (a k) (b k) else 0:=by
 obtain⟨h1,h2,h3⟩:=h
 match k,h1 with
 | 0,_=>simp[XJ,h3 (by omega)]
 | 1,_=>simp[XJ,h2 0 (by omega),h3 (by omega)]
 | 2,_=>simp[XJ,h2 0 (by omega),h2 1 (by omega),h3 (by omega)]
 | 3,_=>simp[XJ,h2 0 (by omega),h2 1 (by omega),h2 2 (by omega)]
 | 4,_=>simp[XJ,h2 0 (by omega),h2 1 (by omega),h2 2 (by omega),h2 3 (by omega),Ju]
theorem jbg (b1 b2 t1 t2:Nat) (a b:Nat->Int) (w:World) (hA:w.rowIs b1 t1 4 (cell a)) (hB:w.rowIs b2 t2 4 (cell b)) :
  Calls Tryz.prog 266 #[.slice (some ⟨b1,0,none⟩) 4 4,.slice (some ⟨b2,0,none⟩) 4 4] w fun e w'=>e=.returned (.int .i64 (XJ a b))/\w'=w:=by
 obtain⟨k0,hD⟩:=X7 a b;have E:=qh (X8 hD);obtain⟨h4,heq,hne⟩:=hD;have EQ:=qh heq;clear heq;have NE:=qh hne;clear hne;go_enter Tryz.func266,Tryz.ntmps266;go_wp2;go_loop [11] (fun i=>∃ k:Nat,k<=k0/\i=.int .i64 k) (fun i=>4-(intOf i).toNat)
 case atStart=>exact⟨0,by omega,rfl⟩
 case round =>
  obtain⟨k,hk,rfl⟩:=hrel;by_cases hlt:k<4
  ·have c1:=hA.cell hlt;have c2:=hB.cell hlt;by_cases hlk:k<k0
   ·have Z:=qh (show Ju (a k) (b k)=0 by rw[EQ.o k hlk];simp[Ju]);go_wp2_with fail
    refine(Us _ _ _).mono ?_;rintro e w' ⟨rfl,rfl⟩;rw[Z.o];go_wp2;go_round
    case rel=>exact⟨k+1,by omega,by go_num⟩
    case measure=>simp[intOf];omega
   ·obtain rfl:k=k0:=by omega
    have Z:=qh (show XJ a b=Ju (a k) (b k) by rw[E.o,if_pos hlt])
    have hnz:(Ju (a k) (b k) != 0)=true:=by
     have:=NE.o hlt;unfold Ju;by_cases h1:a k<b k
     ·simp[h1]
     ·rw[if_neg h1,if_pos (by omega)];rfl
    go_wp2_with fail
    refine(Us _ _ _).mono ?_;rintro e w' ⟨rfl,rfl⟩;go_wp2;go_ret;exact⟨by rw[Z.o];rfl,rfl⟩
  ·have Z:=qh (show XJ a b=0 by rw[E.o,if_neg (by omega)])
   obtain rfl:k=4:=by omega
   go_wp2;go_ret;exact⟨by rw[Z.o];rfl,rfl⟩
end Mono
namespace Limb
open Go.RowKit Go.Sort
theorem chk_fn (x:Int) (w:World) :
  Calls Tryz.prog 246 #[.int .u32 x] w fun e w'=>e=.returned (.bool (decide (1000000000<=x)))/\w'=w:=by
 by_cases h:1000000000<=x
 ·have E:=qh (decide_eq_true h);go_enter Tryz.func246,Tryz.ntmps246;go_wp2;go_ret;exact⟨by rw[E.o];rfl,rfl⟩
 ·have E:=qh (zo h);go_enter Tryz.func246,Tryz.ntmps246;go_wp2;go_ret;exact⟨by rw[E.o];rfl,rfl⟩
theorem cf_chk (args:Array Value) (w:World):(callFunc 246 args).run Tryz.prog w=.ok (.enter 246 args) w:=by kernel_rfl
theorem idx_any (a:Option Addr) (n cap k0:Nat) (o:Nat->Int) (w:World) (h:Rd w a n o) (hn:n<=1000000000) (hk0:k0<=n) (hf:∀ i,i<k0->o i<1000000000) (hb:k0<n->1000000000<=o k0) :
  Calls Tryz.prog 271 #[.slice a n cap,.func (.func 246) #[] #[]] w fun e w'=>e=.returned (.int .i64 (if k0<n then (k0:Int) else -1))/\∃ m,w'=w.drewN m:=by
 have HF:=qh hf;clear hf;have HB:=qh hb;clear hb;have hcf:=cf_chk;go_enter Tryz.func271,Tryz.ntmps271;go_wp2;go_loopw [8] (fun i wr=>∃ j:Nat,j<=k0/\i=.int .i64 j/\∃ m,wr=w.drewN m) (fun i _=>n-(intOf i).toNat)
 case atStart=>exact⟨0,by omega,rfl,0,rfl⟩
 case round =>
  obtain⟨j,hj,rfl,m0,rfl⟩:=hrel;by_cases hjn:j<n
  ·obtain⟨b,off,rfl,hc⟩:=h.cells (by omega);have c1:=hc j hjn;clear hc h;by_cases hjk:j<k0
   ·have D:=HF.o j hjk
    have E:decide (1000000000<=o j)=false:=by simp;omega
    go_wp2_with fail
    refine(chk_fn (o j) _).mono ?_;rintro e w' ⟨rfl,hw⟩;subst w';rw[E];go_wp2;go_roundw
    case rel=>exact⟨j+1,by omega,by go_num,m0,rfl⟩
    case measure=>simp[intOf];omega
   ·obtain rfl:j=k0:=by omega
    have D:=HB.o hjn
    have E:decide (1000000000<=o j)=true:=by simp;omega
    go_wp2_with fail
    refine(chk_fn (o j) _).mono ?_;rintro e w' ⟨rfl,hw⟩;subst w';rw[E];go_wp2;go_ret;exact⟨by first | rfl | (rw[if_pos hjn];rfl),m0,rfl⟩
  ·have hkn:¬k0<n:=by omega
   clear h;go_wp2;go_ret;exact⟨by first | rfl | (rw[if_neg hkn];rfl),m0,rfl⟩
theorem has_any (a:Option Addr) (n cap k0:Nat) (o:Nat->Int) (w:World) (h:Rd w a n o) (hn:n<=1000000000) (hk0:k0<=n) (hf:∀ i,i<k0->o i<1000000000) (hb:k0<n->1000000000<=o k0) :
  Calls Tryz.prog 245 #[.slice a n cap,.func (.func 246) #[] #[]] w fun e w'=>e=.returned (.bool (decide (k0<n)))/\∃ m,w'=w.drewN m:=by
 have C:=qh (idx_any a n cap k0 o w h hn hk0 hf hb);clear h hf hb;by_cases hk:k0<n
 ·have E:=qh (decide_eq_true hk);rw[if_pos hk] at C;go_enter Tryz.func245,Tryz.ntmps245;go_wp2_with fail
  refine C.o.mono ?_;rintro e w' ⟨rfl,m,rfl⟩;go_wp2;go_ret;exact⟨by rw[E.o];rfl,m,rfl⟩
 ·have E:=qh (zo hk);rw[if_neg hk] at C;go_enter Tryz.func245,Tryz.ntmps245;go_wp2_with fail
  refine C.o.mono ?_;rintro e w' ⟨rfl,m,rfl⟩;go_wp2;go_ret;exact⟨by rw[E.o];rfl,m,rfl⟩
theorem Xu (o:Nat->Int) (n:Nat):∃ k,k<=n/\(∀ i,i<k->o i<1000000000)/\(k<n->1000000000<=o k):=by
 induction n with
 | zero=>exact⟨0,by omega,fun i h=>by omega,fun h=>by omega⟩
 | succ n ih =>
  obtain⟨k,h1,h2,h3⟩:=ih;by_cases hk:k<n
  ·exact⟨k,by omega,h2,fun _=>h3 hk⟩
  ·obtain rfl:k=n:=by omega
   by_cases h:o k<1000000000
   ·exact⟨k+1,by omega,fun i hi=>by
     by_cases e:i=k
     ·rw[e];exact h
     ·exact h2 i (by omega),fun h=>by omega⟩
   ·exact⟨k,by omega,h2,fun _=>by omega⟩
open Classical in
theorem Xf (s:Bool) (a:Option Addr) (n cap:Nat) (o:Nat->Int) (w:World) (h:Rd w a n o) (hn:n<=1000000000) :
  Calls Tryz.prog 204 #[Jw s a n cap] w fun e w'=>e=.returned (.bool (decide (okN s n o)))/\Below w.heap.size w w':=by
 obtain⟨k0,hk0,hf,hb⟩:=Xu o n;have C:=qh (fun (w2:World) (hw:Below w.heap.size w w2)=>has_any a n cap k0 o w2 (h.below hw) hn hk0 hf hb);have hcf:=cf_chk;by_cases hk:k0<n
 ·have E:=qh (show decide (okN s n o)=false from zo fun hh=>by have:=hh.1 k0 hk;have:=hb hk;omega);have D:decide (k0<n)=true:=decide_eq_true hk;clear hf hb h;go_enter Tryz.func204,Tryz.ntmps204;go_wp2_with fail
  refine(C.o _ ?_).mono ?_
  ·exact qg
  rintro e w' ⟨rfl,m,rfl⟩;rw[D];go_wp2;go_ret;exact⟨by rw[E.o];rfl,qg⟩
 ·have D:decide (k0<n)=false:=zo hk
  have hfi:∀ i,i<n->o i<1000000000:=fun i hi=>hf i (by omega)
  clear hb;by_cases h0:n=0
  ·subst h0
   have E:=qh (show decide (okN s 0 o) = !s by
    cases s with
    | false=>exact decide_eq_true ⟨hfi,fun _=>rfl,fun h=>by omega⟩
    | true=>exact zo fun hh=>by have:=hh.2.1 rfl;contradiction)
   clear hf h hfi;go_enter Tryz.func204,Tryz.ntmps204;go_wp2_with fail
   refine(C.o _ ?_).mono ?_
   ·exact qg
   rintro e w' ⟨rfl,m,rfl⟩;rw[D]
   cases s with
   | false =>
    go_wp2;go_ret
    exact⟨by rw[E.o];rfl,qg⟩
   | true =>
    go_wp2;go_ret;exact⟨by rw[E.o];rfl,qg⟩
  ·obtain⟨b,off,rfl,hc⟩:=h.cells (by omega);have c1:=hc (n-1) (by omega)
   have E:=qh (show decide (okN s n o)=(o (n-1) != 0) by
    by_cases hz:o (n-1)=0
    ·rw[hz];exact zo fun hh=>hh.2.2 (by omega) hz
    ·rw[show(o (n-1) != 0)=true by simpa using hz]
     exact decide_eq_true ⟨hfi,fun h=>by omega,fun _=>hz⟩)
   have hlt:b<w.heap.size:=block_lt_of_cell c1;obtain⟨q,rfl⟩:∃ q,n=q+1:=⟨n-1,by omega⟩;rw[Nat.add_sub_cancel] at c1 E
   have ex:((q+1:Nat):Int)-1=(q:Int):=by omega
   have ez:(decide (((q+1:Nat):Int)=0))=false:=by simp;omega
   clear hf h hfi hc;go_enter Tryz.func204,Tryz.ntmps204;go_wp2_with fail
   refine(C.o _ ?_).mono ?_
   ·exact qg
   rintro e w' ⟨rfl,m,rfl⟩;rw[D];go_wp2;go_ret;exact⟨by rw[E.o];rfl,qg⟩
end Limb
namespace Limb
def q0 (x y:Int):Int:=if decide (x<0)=decide (y<0) then ((x.natAbs/y.natAbs:Nat):Int) else -((x.natAbs/y.natAbs:Nat):Int)
def r0 (x y:Int):Int:=if x<0 then -((x.natAbs%y.natAbs:Nat):Int) else ((x.natAbs%y.natAbs:Nat):Int)
theorem ja1 (x y:Int):(q0 x y).natAbs=x.natAbs/y.natAbs:=by unfold q0;generalize x.natAbs/y.natAbs=Q;split <;> omega
theorem ja2 (x y:Int):(r0 x y).natAbs=x.natAbs%y.natAbs:=by unfold r0;generalize x.natAbs%y.natAbs=R;split <;> omega
theorem Xy {m:Nat}:(0<Ja m)↔0<m:=by
 have:=Qk (m:=m);omega
theorem jep (x y:Int):((!(decide (x<0)==decide (y<0)))&&decide (0<Ja (x.natAbs/y.natAbs)))=decide (q0 x y<0):=by
 have e:=Xy (m:=x.natAbs/y.natAbs);unfold q0
 generalize x.natAbs/y.natAbs=Q at *
 by_cases h:decide (x<0)=decide (y<0)
 ·rw[if_pos h,h];simp
 ·rw[if_neg h]
  have h1:(decide (x<0)==decide (y<0))=false:=by simpa using h
  rw[h1,Bool.not_false,Bool.true_and];exact decide_eq_decide.2 (e.trans (by omega))
theorem jeq (x y:Int):(decide (x<0)&&decide (0<Ja (x.natAbs%y.natAbs)))=decide (r0 x y<0):=by
 have e:=Xy (m:=x.natAbs%y.natAbs);unfold r0
 generalize x.natAbs%y.natAbs=R at *
 by_cases h:x<0
 ·rw[if_pos h,decide_eq_true h,Bool.true_and];exact decide_eq_decide.2 (e.trans (by omega))
 ·rw[if_neg h,zo h,Bool.false_and];exact(zo (by omega)).symm
theorem div_pos {x y q r:Int} (hy:0<y) (e:x=y*q+r) (h0:0<=r) (h1:r<y):x/y=q/\x%y=r:=by
 have:=(Int.ediv_emod_unique hy (a:=x) (r:=r) (q:=q)).2 ⟨by omega,h0,h1⟩;exact this
theorem jer (A B:Nat):(A:Int)=(B:Int)*((A/B:Nat):Int)+((A%B:Nat):Int):=by
 rw[<- Int.natCast_mul,<- Int.natCast_add,Nat.div_add_mod]
theorem Ut {x y:Int} (hy:y≠0) (h:¬r0 x y<0):x/y=q0 x y/\x%y=r0 x y:=by
 have e:=jer x.natAbs y.natAbs;have hr:x.natAbs%y.natAbs<y.natAbs:=Nat.mod_lt _ (by omega);unfold q0 r0 at *
 generalize x.natAbs%y.natAbs=R at *
 generalize x.natAbs/y.natAbs=Q at *
 have hx:x<0->R=0:=fun hx=>by rw[if_pos hx] at h;omega
 have key:∀ B:Nat,0<B->R<B->((x.natAbs:Int)=(B:Int)*(Q:Int)+(R:Int))->x/(B:Int)=(if x<0 then -(Q:Int) else (Q:Int))/\x%(B:Int)=(if x<0 then -(R:Int) else (R:Int)):=by
  intro B hB hRB hE;by_cases hn:x<0
  ·rw[if_pos hn,if_pos hn];have:=hx hn;refine div_pos (by omega) ?_ (by omega) (by omega);rw[Int.mul_neg];omega
  ·rw[if_neg hn,if_neg hn];exact div_pos (by omega) (by omega) (by omega) (by omega)
 rcases Int.lt_or_gt_of_ne hy with h1 | h1
 ·obtain⟨k1,k2⟩:=key y.natAbs (by omega) hr e
  have ey:y = -((y.natAbs:Nat):Int):=by omega
  have e1:x/y = -(x/((y.natAbs:Nat):Int)):=by conv=>lhs;rw[ey,Int.ediv_neg]
  have e2:x%y=x%((y.natAbs:Nat):Int):=by conv=>lhs;rw[ey,Int.emod_neg]
  rw[e1,e2,k1,k2];refine⟨?_,rfl⟩;by_cases hn:x<0
  ·rw[if_pos hn,if_pos (by simp[hn,h1])];omega
  ·rw[if_neg hn,if_neg (by simp[hn,h1])]
 ·obtain⟨k1,k2⟩:=key y.natAbs (by omega) hr e
  have ey:y=((y.natAbs:Nat):Int):=by omega
  have hy2:¬y<0:=by omega
  rw[<- ey] at k1 k2;rw[k1,k2];refine⟨?_,rfl⟩;by_cases hn:x<0
  ·rw[if_pos hn,if_neg (by simp[hn,hy2])]
  ·rw[if_neg hn,if_pos (by simp[hn,hy2])]
theorem jb6 {x y:Int} (hy:y≠0) (h:r0 x y<0):x/y=q0 x y+(if y<0 then 1 else -1)/\x%y=r0 x y+(y.natAbs:Int):=by
 have e:=jer x.natAbs y.natAbs;have hr:x.natAbs%y.natAbs<y.natAbs:=Nat.mod_lt _ (by omega);unfold q0 r0 at *
 generalize x.natAbs%y.natAbs=R at *
 generalize x.natAbs/y.natAbs=Q at *
 have hx:x<0:=by
  rcases Int.lt_or_le x 0 with h1 | h1
  ·exact h1
  ·rw[if_neg (by omega)] at h;omega
 rw[if_pos hx] at h ⊢
 have key:x/((y.natAbs:Nat):Int) = -(Q:Int)-1/\x%((y.natAbs:Nat):Int) = -(R:Int)+((y.natAbs:Nat):Int):=by
  refine div_pos (by omega) ?_ (by omega) (by omega);rw[Int.mul_sub,Int.mul_neg];omega
 rcases Int.lt_or_gt_of_ne hy with h1 | h1
 ·have ey:y = -((y.natAbs:Nat):Int):=by omega
  have e1:x/y = -(x/((y.natAbs:Nat):Int)):=by conv=>lhs;rw[ey,Int.ediv_neg]
  have e2:x%y=x%((y.natAbs:Nat):Int):=by conv=>lhs;rw[ey,Int.emod_neg]
  rw[e1,e2,key.1,key.2];refine⟨?_,rfl⟩;rw[if_pos h1,if_pos (by simp[hx,h1])];omega
 ·have ey:y=((y.natAbs:Nat):Int):=by omega
  have k1:=key.1;have k2:=key.2
  have hy2:¬y<0:=by omega
  rw[<- ey] at k1 k2;rw[k1,k2];refine⟨?_,by omega⟩;rw[if_neg hy2,if_neg (by simp[hx,hy2])];omega
end Limb
namespace Limb
def Yy (up vp:Nat->Int) (j N:Nat) (g:Int) (k:Nat):Int:=up (j+k)-g*part vp N k
theorem offF_sum (up vp:Nat->Int) (j N:Nat) (g:Int) {m:Nat} (hm:N<=m):Ji (Yy up vp j N g) m=Ji (fun k=>up (j+k)) m-Ji vp N*g:=by
 have e:(Yy up vp j N g)=fun k=>(fun k=>up (j+k)) k+(fun k=>part vp N k*(-g)) k:=by
  funext k;show up (j+k)-g*part vp N k=up (j+k)+part vp N k * -g;rw[Int.mul_neg,Int.mul_comm g];omega
 rw[e,X3,Xx,QD vp hm,Int.mul_neg];omega
theorem cS_neg {f:Nat->Int} {lo:Int} {n:Nat} (hl:lo<=0) (h:∀ i,i<n->lo*999999999<=f i/\f i<=999999999):lo<=cS f n/\cS f n<=0:=by
 induction n with
 | zero=>exact⟨hl,Int.le_refl _⟩
 | succ n ih =>
  have h1:=ih fun i hi=>h i (by omega)
  have h2:=h n (by omega);rw[cS];omega
theorem jfq {a n:Int} (ha:0<=a/\a<1000000000) (hn:0<=n) :
  (a<n%1000000000->a+1000000000-n%1000000000=(a-n)%1000000000/\n/1000000000+1 = -((a-n)/1000000000)) /\
  (¬a<n%1000000000->a-n%1000000000=(a-n)%1000000000/\n/1000000000 = -((a-n)/1000000000)):=by
 omega
def Xq (p ob:Nat->Int) (lb at':Nat) (often:Int) (i:Nat):Nat->Int:=fun j=>if at'<=j/\j<at' + i then cD (Yy p ob at' lb often) (j-at') else p j
theorem jc4 (p ob:Nat->Int) (lb at':Nat) (often:Int):Xq p ob lb at' often 0=p:=by
 funext j;unfold Xq;rw[if_neg (by omega)]
theorem jc5 (p ob:Nat->Int) (lb at':Nat) (often:Int) (i:Nat):Xq p ob lb at' often i (at' + i)=p (at' + i):=by
 unfold Xq;rw[if_neg (by omega)]
theorem jc6 (p ob:Nat->Int) (lb at':Nat) (often:Int) (i:Nat):upd (Xq p ob lb at' often i) (at' + i) (cD (Yy p ob at' lb often) i)=Xq p ob lb at' often (i+1):=by
 funext j;unfold upd Xq;by_cases e:j=at' + i
 ·subst e;rw[if_pos rfl,if_pos (by omega),show at' + i-at'=i by omega]
 ·rw[if_neg e];by_cases h:at'<=j/\j<at' + i
  ·rw[if_pos h,if_pos (by omega)]
  ·rw[if_neg h,if_neg (by omega)]
theorem Ye {p ob:Nat->Int} {lb at':Nat} {often:Int} {i n:Nat} (h:Dig p n):Dig (Xq p ob lb at' often i) n:=by
 intro j hj;unfold Xq;split
 ·exact Qm _ (j-at' + 1) _ (by omega)
 ·exact h j hj
theorem Yf {p ob:Nat->Int} {lb at' m:Nat} {often:Int} (hp:Dig p (at' + m)) (hm:lb<=m) (h0:0<=often*Ji ob lb) (h:often*Ji ob lb*(pw at':Int)<=Ji p (at' + m)) :
  Ji (Xq p ob lb at' often m) (at' + m)=Ji p (at' + m)-often*Ji ob lb*(pw at':Int):=by
 have e1:=Qt (Xq p ob lb at' often m) at' m;have e2:=Qt p at' m
 have e3:Ji (Xq p ob lb at' often m) at'=Ji p at':=JY fun i hi=>by unfold Xq;rw[if_neg (by omega)]
 have e4:Ji (fun i=>Xq p ob lb at' often m (at' + i)) m=Ji (cD (Yy p ob at' lb often)) m:=JY fun i hi=>by
  show Xq p ob lb at' often m (at' + i)=_;unfold Xq;rw[if_pos (by omega),show at' + i-at'=i by omega]
 have b1:=JA (o:=p) (n:=at') fun i hi=>hp i (by omega)
 have b2:=JA (o:=fun i=>p (at' + i)) (n:=m) fun i hi=>hp (at' + i) (by omega)
 have es:=offF_sum p ob at' lb often hm;rw[Int.mul_comm (Ji ob lb)] at es
 generalize often*Ji ob lb=T at *
 generalize Ji (fun i=>p (at' + i)) m=S at *
 have hpp:(0:Int)<(pw at':Int):=by have:=QE at';omega
 have hX:0<=S-T:=by
  rcases Int.lt_or_le (S-T) 0 with h1 | h1
  ·exfalso;have h2:(pw at':Int)*(S-T)<=(pw at':Int)*(-1):=Int.mul_le_mul_of_nonneg_left (by omega) (by omega);rw[Int.mul_sub] at h2;rw[Int.mul_comm T] at h;omega
  ·exact h1
 have hf:=ZT (f:=Yy p ob at' lb often) (n:=m) (by rw[es];exact hX) (by rw[es];omega);rw[e1,e3,e4,hf.2,es,e2,Int.mul_sub,Int.mul_comm T];omega
def YT (p:Nat->Int) (n at':Nat):Int:=1000000000*part p n (at' + 1)+part p n at'
theorem topF_le {p:Nat->Int} {n at':Nat} (hp:Dig p n) (hat:at' < n):YT p n at' * (pw at':Int)<=Ji p n:=by
 have hpp:(0:Int)<(pw at':Int):=by have:=QE at';omega
 unfold YT part;rw[if_pos hat];by_cases h:at' + 1<n
 ·rw[if_pos h];obtain⟨m,rfl⟩:∃ m,n=(at' + 1+1)+m:=⟨n-(at' + 1+1),by omega⟩;rw[Qt,Ji,Ji,JK];have b1:=(JA (o:=p) (n:=at') fun i hi=>hp i (by omega)).1;have b2:=(JA (o:=fun i=>p (at' + 1+1+i)) (n:=m) fun i hi=>hp _ (by omega)).1;have b3:0<=(pw (at' + 1+1):Int)*Ji (fun i=>p (at' + 1+1+i)) m:=Int.mul_nonneg (by omega) b2
  have e:(1000000000*p (at' + 1)+p at')*(pw at':Int)=p at' * (pw at':Int)+p (at' + 1)*((pw at' * 1000000000:Nat):Int):=by
   have h1:1000000000*p (at' + 1)*(pw at':Int)=p (at' + 1)*((pw at':Int)*1000000000):=by ac_rfl
   have h2:((pw at' * 1000000000:Nat):Int)=(pw at':Int)*1000000000:=by rw[Int.natCast_mul];rfl
   rw[Int.add_mul,h1,h2];omega
  omega
 ·obtain rfl:n=at' + 1:=by omega
  rw[if_neg h,Ji];have b1:=(JA (o:=p) (n:=at') fun i hi=>hp i (by omega)).1
  have e:(1000000000*0+p at')*(pw at':Int)=p at' * (pw at':Int):=by congr 1;omega
  omega
theorem jes {p:Nat->Int} {n at':Nat} (hp:Dig p n):0<=YT p n at'/\YT p n at'<=999999999999999999:=by
 unfold YT part;constructor
 ·split <;> split
  ·have h1:=hp _ ‹at' + 1<n›;have h2:=hp _ ‹at' < n›;omega
  ·have h1:=hp _ ‹at' + 1<n›;omega
  ·have h2:=hp _ ‹at' < n›;omega
  ·omega
 ·split <;> split
  ·have h1:=hp _ ‹at' + 1<n›;have h2:=hp _ ‹at' < n›;omega
  ·have h1:=hp _ ‹at' + 1<n›;omega
  ·have h2:=hp _ ‹at' < n›;omega
  ·omega
theorem jc7 {L V v T:Int} {l k:Nat} (hV1:V<(v+1)*(pw l:Int)) (hv:0<v) (hLV:L<V*(pw (k+1):Int)) (hT:T*(pw (k+l):Int)<=L) (hT0:0<=T) (hV0:0<V) :
  0<=T/(v+1)/\T/(v+1)<=999999999/\T/(v+1)*V*(pw k:Int)<=L:=by
 have hk:(0:Int)<(pw k:Int):=by have:=QE k;omega
 have hl:(0:Int)<(pw l:Int):=by have:=QE l;omega
 have ekl:((pw (k+l):Nat):Int)=(pw k:Int)*(pw l:Int):=by rw[YO,Int.natCast_mul]
 have ek1:((pw (k+1):Nat):Int)=(pw k:Int)*1000000000:=by rw[JK,Int.natCast_mul];rfl
 have g0:0<=T/(v+1):=Int.ediv_nonneg hT0 (by omega);have g1:T/(v+1)*(v+1)<=T:=Int.ediv_mul_le _ (by omega);have hkl:(0:Int)<(pw k:Int)*(pw l:Int):=Int.mul_pos hk hl;refine⟨g0,?_,?_⟩
 ·have h1:T*((pw k:Int)*(pw l:Int))<(v+1)*1000000000*((pw k:Int)*(pw l:Int)):=by
   rw[<- ekl];refine Int.lt_of_le_of_lt hT (Int.lt_trans hLV ?_);rw[ek1,ekl];have h2:V*((pw k:Int)*1000000000)<(v+1)*(pw l:Int)*((pw k:Int)*1000000000):=Int.mul_lt_mul_of_pos_right hV1 (Int.mul_pos hk (by decide))
   have h3:(v+1)*(pw l:Int)*((pw k:Int)*1000000000)=(v+1)*1000000000*((pw k:Int)*(pw l:Int)):=by
    ac_rfl
   omega
  have h4:T<(v+1)*1000000000:=Int.lt_of_mul_lt_mul_right h1 (by omega);have h5:T/(v+1)<1000000000:=Int.ediv_lt_of_lt_mul (by omega) (by rw[Int.mul_comm];exact h4);omega
 ·have h1:T/(v+1)*V*(pw k:Int)<=T/(v+1)*((v+1)*(pw l:Int))*(pw k:Int):=Int.mul_le_mul_of_nonneg_right (Int.mul_le_mul_of_nonneg_left (by omega) g0) (by omega)
  have h2:T/(v+1)*((v+1)*(pw l:Int))*(pw k:Int)=T/(v+1)*(v+1)*((pw k:Int)*(pw l:Int)):=by
   ac_rfl
  have h3:T/(v+1)*(v+1)*((pw k:Int)*(pw l:Int))<=T*((pw k:Int)*(pw l:Int)):=Int.mul_le_mul_of_nonneg_right g1 (by omega);rw[ekl] at hT;omega
end Limb
namespace Mono
open Go.RowKit Go.Sort
def KJ (a:Nat->Int) (i:Nat):Int:=a (3-i)
def putObj (X:World) (r:Nat) (o:Obj):World:={ X with heap:=X.heap.setIfInBounds r o }
@[go_sem] theorem Xi (X:World) (r:Nat) (o:Obj):(putObj X r o).heap.size=X.heap.size:=by simp[putObj]
theorem QQ {X:World} {r:Nat} {o o':Obj} (h:X.heap[r]?=some o'):(putObj X r o).heap[r]?=some o:=by
 have:=lt_of_block h;simp[putObj,this]
theorem Qb (X:World) {r k:Nat} (o:Obj) (h:k≠r):(putObj X r o).heap[k]?=X.heap[k]?:=by
 simp[putObj,Array.getElem?_setIfInBounds];omega
theorem Kg {B:Nat} {w X:World} (h:Below B w X) {r:Nat} (hr:B<=r) (o:Obj):Below B w (putObj X r o) :=
 h.trans ⟨rfl,rfl,rfl,by simp[putObj],fun k hk=>Qb X o (by omega)⟩
theorem Yg (b:Bool) (n:Nat) (k:Int) (w:World):(Instr.checkKey b (n+1) 66 (.int .u8 k)).run Tryz.prog w=.ok () w:=by
 rw[Instr.checkKey];simp[Sem.run_bind,run_underlying Tryz.underlying66]
theorem upd0 {X:World} {r:Nat} (h:X.heap[r]?=some (.map #[] 0)) (k:Int) (v:Value) :
  (Instr.mapUpdate 240 (.map (some r)) (.int .u8 k) v).run Tryz.prog X=.ok () (putObj X r (.map #[⟨.int .u8 k,v,0⟩] 1)):=by
 unfold Instr.mapUpdate;simp[Sem.run_bind,run_underlying Tryz.underlying240,h,getObj,setObj,Yg _ 9999,Instr.findKey,run_underlying Tryz.underlying66,Instr.findNow,putObj,Sem.run]
theorem upd1 {X:World} {r:Nat} {k1:Int} {v1:Value} (h:X.heap[r]?=some (.map #[⟨.int .u8 k1,v1,0⟩] 1)) (k:Int) (v:Value) (hk:(k==k1)=false) :
  (Instr.mapUpdate 240 (.map (some r)) (.int .u8 k) v).run Tryz.prog X=.ok () (putObj X r (.map #[⟨.int .u8 k1,v1,0⟩,⟨.int .u8 k,v,1⟩] 2)):=by
 unfold Instr.mapUpdate;simp[Sem.run_bind,run_underlying Tryz.underlying240,h,getObj,setObj,Yg _ 9999,Instr.findKey,run_underlying Tryz.underlying66,Instr.findNow,Instr.sameNow,putObj,Sem.run,hk]
theorem look2 {X:World} {r:Nat} {k1 k2:Int} {v1 v2:Value} (h:X.heap[r]?=some (.map #[⟨.int .u8 k1,v1,0⟩,⟨.int .u8 k2,v2,1⟩] 2)) (k:Int) :
  (Instr.lookup 240 (.map (some r)) (.int .u8 k) false).run Tryz.prog X=.ok (if (k==k1)=true then v1 else if (k==k2)=true then v2 else .slice none 0 0) X:=by
 have hz:∀ w,(zeroValue 239).run Tryz.prog w=.ok (.slice none 0 0) w:=fun _=>by kernel_rfl
 unfold Instr.lookup
 cases h1:k==k1 <;> cases h2:k==k2 <;>
 simp[Sem.run_bind,run_underlying Tryz.underlying240,h,getObj,Yg _ 9999,Instr.findKey,run_underlying Tryz.underlying66,Instr.findNow,Instr.sameNow,Sem.run,hz,h1,h2]
abbrev fnG:Value:=.func (.func 264) #[] #[]
abbrev fnL:Value:=.func (.func 229) #[] #[]
abbrev fnB:Value:=.func (.func 265) #[] #[]
def Ords (B:Nat) (X:World):Prop :=
 X.heap[B]?=some (.map #[⟨.int .u8 1,.slice (some ⟨B+1,0,none⟩) 2 2,0⟩,⟨.int .u8 2,.slice (some ⟨B+1+1,0,none⟩) 2 2,1⟩] 2) /\
 (X.cell? ⟨B+1,0,none⟩=some fnG/\X.cell? ⟨B+1,1,none⟩=some fnL)/\(X.cell? ⟨B+1+1,0,none⟩=some fnG/\X.cell? ⟨B+1+1,1,none⟩=some fnB)
def Y7 (f:Value):Obj:=.cells #[fnG,f] 130
def V8 (B:Nat):Obj:=.map #[⟨.int .u8 1,.slice (some ⟨B+1,0,none⟩) 2 2,0⟩] 1
def ordM2 (B:Nat):Obj:=.map #[⟨.int .u8 1,.slice (some ⟨B+1,0,none⟩) 2 2,0⟩,⟨.int .u8 2,.slice (some ⟨B+1+1,0,none⟩) 2 2,1⟩] 2
def ordW (w:World):World:=putObj ((putObj ((w.alloc (.map #[] 0)).alloc (Y7 fnL)) w.heap.size (V8 w.heap.size)).alloc (Y7 fnB)) w.heap.size (ordM2 w.heap.size)
theorem ordW_ok (w:World):Ords w.heap.size (ordW w)/\Below w.heap.size w (ordW w):=by
 have e0:((w.alloc (.map #[] 0)).alloc (Y7 fnL)).heap[w.heap.size]?=some (.map #[] 0):=(Below.heap_alloc _ _ _ (by simp)).trans (Go.heap_alloc_new w _)
 have e1:((w.alloc (.map #[] 0)).alloc (Y7 fnL)).heap[w.heap.size+1]?=some (Y7 fnL):=by
  have:=Go.heap_alloc_new (w.alloc (.map #[] 0)) (Y7 fnL);rwa [World.size_alloc] at this
 have f0:=QQ (o:=V8 w.heap.size) e0;have f1:=(Qb ((w.alloc (.map #[] 0)).alloc (Y7 fnL)) (V8 w.heap.size) (show w.heap.size+1≠w.heap.size by omega)).trans e1
 have hs:(putObj ((w.alloc (.map #[] 0)).alloc (Y7 fnL)) w.heap.size (V8 w.heap.size)).heap.size=w.heap.size+1+1:=by simp[Xi]
 have g2:=Go.heap_alloc_new (putObj ((w.alloc (.map #[] 0)).alloc (Y7 fnL)) w.heap.size (V8 w.heap.size)) (Y7 fnB);rw[hs] at g2;have g0:=(Below.heap_alloc (putObj ((w.alloc (.map #[] 0)).alloc (Y7 fnL)) w.heap.size (V8 w.heap.size)) (Y7 fnB) _ (by rw[hs];omega)).trans f0;have g1:=(Below.heap_alloc (putObj ((w.alloc (.map #[] 0)).alloc (Y7 fnL)) w.heap.size (V8 w.heap.size)) (Y7 fnB) _ (by rw[hs];omega)).trans f1;have h0:=QQ (o:=ordM2 w.heap.size) g0;have h1:=(Qb _ (ordM2 w.heap.size) (show w.heap.size+1≠w.heap.size by omega)).trans g1;have h2:=(Qb _ (ordM2 w.heap.size) (show w.heap.size+1+1≠w.heap.size by omega)).trans g2;refine⟨⟨h0,⟨?_,?_⟩,?_,?_⟩,?_⟩
 ·exact(cell_of_row _ _ 0 _ _ _ h1)
 ·exact(cell_of_row _ _ 1 _ _ _ h1)
 ·exact(cell_of_row _ _ 0 _ _ _ h2)
 ·exact(cell_of_row _ _ 1 _ _ _ h2)
 ·refine Kg (Below.alloc (Kg ((zk.alloc zj _).alloc (by simp) _) zj _) ?_ _) zj _;rw[hs];omega
end Mono
namespace Limb
theorem Y8 (t l:Int) (hl:l≠0):t/(if l<0 then -((Int.gcd t l:Nat):Int) else ((Int.gcd t l:Nat):Int))=(Rat.divInt t l).num:=by
 rw[Rat.num_divInt,Int.gcd_comm l t];have hd:((Int.gcd t l:Nat):Int) ∣ t:=Int.gcd_dvd_left t l
 rcases Int.lt_or_gt_of_ne hl with h | h
 ·rw[if_pos h,Int.sign_eq_neg_one_of_neg h,Int.ediv_neg,Int.neg_mul,Int.one_mul,Int.neg_ediv_of_dvd hd]
 ·rw[if_neg (by omega),Int.sign_eq_one_of_pos h,Int.one_mul]
theorem Y9 (t l:Int) (hl:l≠0):l/(if l<0 then -((Int.gcd t l:Nat):Int) else ((Int.gcd t l:Nat):Int))=((Rat.divInt t l).den:Int):=by
 rw[Rat.den_divInt,if_neg hl,Int.gcd_comm l t];have hd:((Int.gcd t l:Nat):Int) ∣ l:=Int.gcd_dvd_right t l;rw[Int.natCast_ediv]
 rcases Int.lt_or_gt_of_ne hl with h | h
 ·rw[if_pos h,Int.ediv_neg,<- Int.neg_ediv_of_dvd hd]
  congr 1;omega
 ·rw[if_neg (by omega)]
  congr 1;omega
theorem jet (t l:Int) (hl:l≠0):(if l<0 then -((Int.gcd t l:Nat):Int) else ((Int.gcd t l:Nat):Int))≠0:=by
 have h:Int.gcd t l≠0:=fun h=>hl (Int.eq_zero_of_gcd_eq_zero_right h)
 split <;> omega
def okF (s1:Bool) (n1:Nat) (o1:Nat->Int) (s2:Bool) (n2:Nat) (o2:Nat->Int):Prop :=
 okN s1 n1 o1/\okN s2 n2 o2/\0<Jp s2 n2 o2/\Int.gcd (Jp s1 n1 o1) (Jp s2 n2 o2)=1
open Classical in
noncomputable def Xk (s1:Bool) (n1:Nat) (o1:Nat->Int) (s2:Bool) (n2:Nat) (o2:Nat->Int):Rat:=if okF s1 n1 o1 s2 n2 o2 then Rat.divInt (Jp s1 n1 o1) (Jp s2 n2 o2) else 0
theorem Yz {t l:Int} (hl:0<l) (h:Int.gcd t l=1):(Rat.divInt t l).num=t/\((Rat.divInt t l).den:Int)=l:=by
 have h1:=Y8 t l (by omega);have h2:=Y9 t l (by omega);rw[if_neg (by omega),h] at h1 h2;simp only[Int.natCast_one,Int.ediv_one] at h1 h2;exact⟨h1.symm,h2.symm⟩
theorem KL {s1:Bool} {n1:Nat} {o1:Nat->Int} {s2:Bool} {n2:Nat} {o2:Nat->Int} (h:okF s1 n1 o1 s2 n2 o2):(Xk s1 n1 o1 s2 n2 o2).num=Jp s1 n1 o1/\((Xk s1 n1 o1 s2 n2 o2).den:Int)=Jp s2 n2 o2:=by
 unfold Xk;rw[if_pos h];exact Yz h.2.2.1 h.2.2.2
theorem VK {s1:Bool} {n1:Nat} {o1:Nat->Int} {s2:Bool} {n2:Nat} {o2:Nat->Int} (h:¬okF s1 n1 o1 s2 n2 o2):Xk s1 n1 o1 s2 n2 o2=0:=by
 unfold Xk;rw[if_neg h]
theorem rat_gcd (x:Rat):Int.gcd x.num (x.den:Int)=1:=by
 have:=x.reduced;show Nat.gcd x.num.natAbs ((x.den:Int)).natAbs=1;rw[Int.natAbs_natCast];exact this
theorem QI (x:Rat):(0:Int)<(x.den:Int):=by have:=x.den_pos;omega
open Go.RowKit Go.Sort
def Bx (w:World) (b:Nat) (t:TypeId) (x y:Value):Prop:=w.heap[b]?=some (.cells #[x,y] t (0,0))
def bxf (x y:Value) (i:Nat):Value:=if i=0 then x else y
theorem Bx.row {w:World} {b:Nat} {t:TypeId} {x y:Value} (h:Bx w b t x y):w.rowIs b t 2 (bxf x y) :=
 ⟨#[x,y],h,rfl,fun i hi=>by
  match i,hi with
  | 0,_=>rfl
  | 1,_=>rfl⟩
theorem Bx.XQ {w:World} {b:Nat} {t:TypeId} {f:Nat->Value} (h:w.rowIs b t 2 f):Bx w b t (f 0) (f 1):=by
 obtain⟨c,hb,hn,hc⟩:=h;show w.heap[b]?=_;rw[hb]
 have e:c=#[f 0,f 1]:=by
  apply Array.ext
  ·simpa using hn
  ·intro i h1 h2;have h3:=hc i (by omega);rw[Array.getElem?_eq_getElem h1] at h3
   have h4:i<2:=by omega
   have h5:#[f 0,f 1][i]?=some (f i):=by
    match i,h4 with
    | 0,_=>rfl
    | 1,_=>rfl
   rw[Array.getElem?_eq_getElem h2] at h5;simp only[Option.some.injEq] at h3 h5;rw[h3,h5]
 rw[e]
theorem Bx.c0 {w:World} {b:Nat} {t:TypeId} {x y:Value} (h:Bx w b t x y):w.cell? ⟨b,0,none⟩=some x:=cell_of_row _ _ _ _ _ _ h
theorem Bx.c1 {w:World} {b:Nat} {t:TypeId} {x y:Value} (h:Bx w b t x y):w.cell? ⟨b,1,none⟩=some y:=cell_of_row _ _ _ _ _ _ h
theorem Bx.fz {w:World} {b:Nat} {t:TypeId} {x y:Value} (h:Bx w b t x y) (i:Nat):w.frozen? ⟨b,i,none⟩=false:=h.row.frozen i
theorem Bx.lt {w:World} {b:Nat} {t:TypeId} {x y:Value} (h:Bx w b t x y):b<w.heap.size:=h.row.lt
theorem Bx.of {w w':World} {b:Nat} {t:TypeId} {x y:Value} (h:Bx w b t x y) (e:w'.heap[b]?=w.heap[b]?):Bx w' b t x y:=e.trans h
theorem Bx.below {W w:World} {b B:Nat} {t:TypeId} {x y:Value} (h:Bx W b t x y) (hb:Below B W w) (hlt:b<B):Bx w b t x y:=h.of (hb.block _ hlt)
theorem Bx.bl {W w:World} {b:Nat} {t:TypeId} {x y:Value} (h:Bx W b t x y) (hb:Below W.heap.size W w):Bx w b t x y:=h.below hb h.lt
theorem Bx.alloc {w:World} {b:Nat} {t:TypeId} {x y:Value} (h:Bx w b t x y) (o:Obj):Bx (w.alloc o) b t x y:=h.of (Below.heap_alloc _ _ _ h.lt)
theorem Bx.other {w:World} {b:Nat} {t:TypeId} {x y:Value} (h:Bx w b t x y) {a:Addr} (ha:b≠a.block) (v:Value):Bx (w.setCell a v) b t x y:=h.of (Below.heap_setCell _ _ _ _ ha)
theorem Bx.oz {w:World} {b:Nat} {t:TypeId} {x y:Value} (h:Bx w b t x y) {a:Addr} {v:Value} (ha:b≠a.block:=by dsimp only;omega):Bx (w.setCell a v) b t x y:=h.other ha v
theorem Bx.new (w:World) (t:TypeId) (x y:Value):Bx (w.alloc (.cells #[x,y] t)) w.heap.size t x y:=by show(w.heap.push _)[w.heap.size]?=_;simp
theorem Bx.Zg (w:World) (p:Obj) (t:TypeId) (x y:Value):Bx ((w.alloc p).alloc (.cells #[x,y] t)) (w.heap.size+1) t x y:=by have h:=Bx.new (w.alloc p) t x y;rw[World.size_alloc] at h;exact h
theorem Bx.new3 (w:World) (p q:Obj) (t:TypeId) (x y:Value):Bx (((w.alloc p).alloc q).alloc (.cells #[x,y] t)) (w.heap.size+1+1) t x y:=by have h:=Bx.Zg (w.alloc p) q t x y;rw[World.size_alloc] at h;exact h
theorem Bx.drewN {w:World} {b:Nat} {t:TypeId} {x y:Value} (h:Bx w b t x y) (m:Nat):Bx (w.drewN m) b t x y:=h
theorem Bx.set0 {w:World} {b:Nat} {t:TypeId} {x y:Value} (h:Bx w b t x y) (v:Value):Bx (w.setCell ⟨b,0,none⟩ v) b t v y:=Bx.XQ (h.row.set 0 v)
theorem Bx.set1 {w:World} {b:Nat} {t:TypeId} {x y:Value} (h:Bx w b t x y) (v:Value):Bx (w.setCell ⟨b,1,none⟩ v) b t x v:=Bx.XQ (h.row.set 1 v)
theorem Bx.set {w:World} {b:Nat} {t:TypeId} {x y:Value} (h:Bx w b t x y) (u v:Value):Bx ((w.setCell ⟨b,0,none⟩ u).setCell ⟨b,1,none⟩ v) b t u v:=(h.set0 u).set1 v
theorem Bx.all {w:World} {b:Nat} {t:TypeId} {x y:Value} (h:Bx w b t x y):w.cell? ⟨b,0,none⟩=some x/\w.cell? ⟨b,1,none⟩=some y/\(∀ i,w.frozen? ⟨b,i,none⟩=false)/\b<w.heap.size:=⟨h.c0,h.c1,h.fz,h.lt⟩
end Limb
namespace Limb
structure Xl (A B:Int) (la kk:Nat) (lp qp:Nat->Int):Prop where
 dl:Dig lp la
 dq:Dig qp (la+1)
 sum:A=B*Ji qp (la+1)+Ji lp la
 lt:Ji lp la<B*(pw kk:Int)
 zero:∀ i,i<kk->qp i=0
structure X9 (A B:Int) (la j:Nat) (lp qp:Nat->Int):Prop where
 dl:Dig lp la
 dq:Dig qp (la+1)
 sum:A=B*Ji qp (la+1)+Ji lp la
 lt:B*(qp j*(pw j:Int))+Ji lp la<B*(pw (j+1):Int)
 zero:∀ i,i<j->qp i=0
theorem Xl.inner {A B:Int} {la j:Nat} {lp qp:Nat->Int} (h:Xl A B la (j+1) lp qp):X9 A B la j lp qp :=
 ⟨h.dl,h.dq,h.sum,by rw[h.zero j (by omega),Int.zero_mul,Int.mul_zero,Int.zero_add];exact h.lt,fun i hi=>h.zero i (by omega)⟩
theorem X9.outer {A B:Int} {la j:Nat} {lp qp:Nat->Int} (h:X9 A B la j lp qp) (hlt:Ji lp la<B*(pw j:Int)):Xl A B la j lp qp:=⟨h.dl,h.dq,h.sum,hlt,h.zero⟩
theorem X9.lt2 {A B:Int} {la j:Nat} {lp qp:Nat->Int} (h:X9 A B la j lp qp) (hB:0<B) (hj:j<la+1):Ji lp la<B*(pw (j+1):Int):=by
 have h1:=(h.dq j hj).1;have h2:0<=B*(qp j*(pw j:Int)):=Int.mul_nonneg (by omega) (Int.mul_nonneg h1 (by omega));have:=h.lt;omega
theorem X9.step {A B:Int} {la j:Nat} {lp qp lp':Nat->Int} {g:Int} (h:X9 A B la j lp qp) (hB:0<B) (hj:j<la+1) (hg:0<=g) (hd:Dig lp' la) (hs:Ji lp' la=Ji lp la-g*B*(pw j:Int)) :
  qp j+g<1000000000/\X9 A B la j lp' (upd qp j (qp j+g)):=by
 have hp:(0:Int)<(pw j:Int):=by have:=QE j;omega
 have h0:=h.dq j hj;have h1:=(JA hd).1
 have e1:B*((qp j+g)*(pw j:Int))=B*(qp j*(pw j:Int))+g*B*(pw j:Int):=by
  rw[Int.add_mul,Int.mul_add]
  have:B*(g*(pw j:Int))=g*B*(pw j:Int):=by ac_rfl
  omega
 have hlt:=h.lt
 have hq:qp j+g<1000000000:=by
  have h2:B*((qp j+g)*(pw j:Int))<B*(1000000000*(pw j:Int)):=by
   have e2:B*(1000000000*(pw j:Int))=B*(pw (j+1):Int):=by rw[JK,Int.natCast_mul,Int.mul_comm (pw j:Int)];rfl
   omega
  have h3:=Int.lt_of_mul_lt_mul_left h2 (by omega);exact Int.lt_of_mul_lt_mul_right h3 (by omega)
 refine⟨hq,hd,KH h.dq j ⟨by omega,hq⟩,?_,?_,fun i hi=>by rw[upd_ne _ _ (by omega)];exact h.zero i hi⟩
 ·rw[VJ _ _ hj,hs];have e3:=h.sum
  have e4:B*(Ji qp (la+1)+(qp j+g-qp j)*(pw j:Int))=B*Ji qp (la+1)+g*B*(pw j:Int):=by
   rw[Int.mul_add,show qp j+g-qp j=g by omega]
   have:B*(g*(pw j:Int))=g*B*(pw j:Int):=by ac_rfl
   omega
  omega
 ·rw[upd_same];omega
theorem Xl.done {A B:Int} {la:Nat} {lp qp:Nat->Int} (h:Xl A B la 0 lp qp) (hB:0<B):Ji qp (la+1)=A/B/\Ji lp la=A%B:=by
 have h1:=(JA h.dl).1;have h2:=h.lt;rw[Qa] at h2;have:=(Int.ediv_emod_unique hB (a:=A) (r:=Ji lp la) (q:=Ji qp (la+1))).2 ⟨by have:=h.sum;omega,h1,by omega⟩;exact⟨this.1.symm,this.2.symm⟩
theorem Xl.start {la kk:Nat} {B:Int} {lp:Nat->Int} (hd:Dig lp la) (h:Ji lp la<B*(pw kk:Int)):Xl (Ji lp la) B la kk lp (fun _=>0) :=
 ⟨hd,fun i _=>by omega,by rw[X0 (fun _ _=>rfl)];omega,h,fun _ _=>rfl⟩
def Qx (o:Nat->Int) (k i:Nat):Int:=if i<k then 0 else o (i-k)
theorem Z7 {o:Nat->Int} {k n:Nat} (h:Dig o n):Dig (Qx o k) (k+n):=by
 intro i hi;unfold Qx;split
 ·omega
 ·exact h _ (by omega)
theorem jc8 (o:Nat->Int) (k n:Nat):Ji (Qx o k) (k+n)=Ji o n*(pw k:Int):=by
 rw[Qt,X0 (o:=Qx o k) (n:=k) fun i hi=>by unfold Qx;rw[if_pos hi]];rw[JY (o:=fun i=>Qx o k (k+i)) (o':=o) fun i hi=>by unfold Qx;rw[if_neg (by omega),show k+i-k=i by omega]];rw[Int.mul_comm];omega
theorem jc9 {A:Int} {la lb j m:Nat} {lp qp ob:Nat->Int} (db:Dig ob lb) (hlb:lb=m+1) (ht:0<ob m) (h:X9 A (Ji ob lb) la j lp qp) (hj:j+lb<=la) (hB:0<Ji ob lb) :
  0<=YT lp la (j+m)/(ob m+1)/\YT lp la (j+m)/(ob m+1)<=999999999/\YT lp la (j+m)/(ob m+1)*Ji ob lb*(pw j:Int)<=Ji lp la:=by
 subst hlb;have b:=(JA (o:=ob) (n:=m) fun i hi=>db i (by omega)).2;exact jc7 (L:=Ji lp la) (V:=Ji ob (m+1)) (v:=ob m) (T:=YT lp la (j+m)) (l:=m) (k:=j) (by rw[Ji,Int.add_mul];omega) ht (h.lt2 hB (by omega)) (topF_le h.dl (by omega)) (jes h.dl).1 hB
end Limb
namespace Mono
open Go.RowKit Go.Sort
def Zo (o:Int) (a b:Nat->Int):Int :=
 if o=1 then (if Ju (JQ a) (JQ b)=0 then XJ a b else Ju (JQ a) (JQ b))
 else if o=2 then (if Ju (JQ a) (JQ b)=0 then (if XJ (KJ b) (KJ a)=0 then XJ a b else XJ (KJ b) (KJ a)) else Ju (JQ a) (JQ b))
 else XJ a b
end Mono
namespace Pol
structure Mo where
 x:Nat
 y:Nat
 z:Nat
 t:Nat
theorem Mo.eq_iff (a b:Mo):a=b↔a.x=b.x/\a.y=b.y/\a.z=b.z/\a.t=b.t:=by
 constructor
 ·rintro rfl;exact⟨rfl,rfl,rfl,rfl⟩
 ·rintro⟨h1,h2,h3,h4⟩;cases a;cases b;simp_all
instance:DecidableEq Mo:=fun a b=>decidable_of_iff _ (Mo.eq_iff a b).symm
def Mo.one:Mo:=⟨0,0,0,0⟩
def Mo.mul (a b:Mo):Mo:=⟨a.x+b.x,a.y+b.y,a.z+b.z,a.t+b.t⟩
theorem Mo.mul_comm (a b:Mo):a.mul b=b.mul a:=by simp only[Mo.mul,Mo.mk.injEq];omega
theorem Mo.mul_left_cancel {a b c:Mo} (h:a.mul b=a.mul c):b=c:=by
 simp only[Mo.mul,Mo.mk.injEq] at h;rw[Mo.eq_iff];omega
def Mo.lt (a b:Mo):Prop:=a.x<b.x\/(a.x=b.x/\(a.y<b.y\/(a.y=b.y/\(a.z<b.z\/(a.z=b.z/\a.t<b.t)))))
instance (a b:Mo):Decidable (a.lt b):=by unfold Mo.lt;infer_instance
theorem Mo.lt_irrefl (a:Mo):¬a.lt a:=by unfold Mo.lt;omega
theorem Mo.lt_trans {a b c:Mo} (h:a.lt b) (k:b.lt c):a.lt c:=by unfold Mo.lt at *;omega
theorem Mo.lt_asymm {a b:Mo} (h:a.lt b):¬b.lt a:=by unfold Mo.lt at *;omega
theorem Mo.ja3 (a b:Mo):a.lt b\/a=b\/b.lt a:=by rw[Mo.eq_iff];unfold Mo.lt;omega
abbrev Tm:=Mo × Rat
def ev:List Tm->(Mo->Rat)->Rat
 | [],_=>0
 | t :: r,f=>t.2*f t.1+ev r f
theorem Xb (f:Mo->Rat):ev [] f=0:=rfl
theorem Jq (t:Tm) (r:List Tm) (f:Mo->Rat):ev (t :: r) f=t.2*f t.1+ev r f:=rfl
theorem QU (l r:List Tm) (f:Mo->Rat):ev (l++r) f=ev l f+ev r f:=by
 induction l with
 | nil=>rw[ze,Xb,Rat.zero_add]
 | cons t l ih=>rw[zi,Jq,Jq,ih,Rat.add_assoc]
theorem ev_congr {l:List Tm} {f g:Mo->Rat} (h:∀ t∈l,f t.1=g t.1):ev l f=ev l g:=by
 induction l with
 | nil=>rfl
 | cons t l ih=>rw[Jq,Jq,h t (List.mem_cons_self ..),ih fun s hs=>h s (List.mem_cons_of_mem _ hs)]
theorem ev_perm {l r:List Tm} (h:l.Perm r) (f:Mo->Rat):ev l f=ev r f:=by
 induction h with
 | nil=>rfl
 | cons t _ ih=>rw[Jq,Jq,ih]
 | swap s t l=>rw[Jq,Jq,Jq,Jq];grind
 | trans _ _ h1 h2=>rw[h1,h2]
theorem jeu (l:List Tm):ev l (fun _=>0)=0:=by
 induction l with
 | nil=>rfl
 | cons t l ih=>rw[Jq,ih];grind
theorem ev_add (l:List Tm) (f g:Mo->Rat):ev l (fun m=>f m+g m)=ev l f+ev l g:=by
 induction l with
 | nil=>rw[Xb,Xb,Xb,Rat.add_zero]
 | cons t l ih=>rw[Jq,Jq,Jq,ih];grind
theorem ev_smul (l:List Tm) (c:Rat) (f:Mo->Rat):ev l (fun m=>c*f m)=c*ev l f:=by
 induction l with
 | nil=>rw[Xb,Xb,Rat.mul_zero]
 | cons t l ih=>rw[Jq,Jq,ih];grind
def at_ (m:Mo):Mo->Rat:=fun a=>if a=m then 1 else 0
def cf (l:List Tm) (m:Mo):Rat:=ev l (at_ m)
theorem Zp (t:Tm) (r:List Tm) (m:Mo):cf (t :: r) m=(if t.1=m then t.2 else 0)+cf r m:=by
 unfold cf;rw[Jq];unfold at_;split <;> grind
theorem ZJ (l r:List Tm) (m:Mo):cf (l++r) m=cf l m+cf r m:=QU l r _
theorem ZU {l:List Tm} {m:Mo} (h:∀ t∈l,t.1≠m):cf l m=0:=by
 unfold cf;rw[ev_congr (g:=fun _=>0) fun t ht=>by unfold at_;rw[if_neg (h t ht)],jeu]
def sm:List Mo->(Mo->Rat)->Rat
 | [],_=>0
 | m :: r,f=>f m+sm r f
structure Canon (l:List Tm):Prop where
 falls:l.Pairwise (fun s t=>t.1.lt s.1)
 non:∀ t∈l,t.2≠0
theorem Canon.nil:Canon []:=⟨List.Pairwise.nil,fun _ h=>(by cases h)⟩
theorem Canon.tail {t:Tm} {r:List Tm} (h:Canon (t :: r)):Canon r:=⟨(List.pairwise_cons.1 h.falls).2,fun s hs=>h.non s (List.mem_cons_of_mem _ hs)⟩
theorem Canon.head {t:Tm} {r:List Tm} (h:Canon (t :: r)):∀ s∈r,s.1.lt t.1:=(List.pairwise_cons.1 h.falls).1
theorem Canon.Zq {t:Tm} {r:List Tm} (h:Canon (t :: r)):cf (t :: r) t.1=t.2:=by
 rw[Zp,if_pos rfl,ZU fun s hs e=>by have:=h.head s hs;rw[e] at this;exact Mo.lt_irrefl _ this,Rat.add_zero]
theorem Canon.cf_gt {t:Tm} {r:List Tm} (h:Canon (t :: r)) {m:Mo} (hm:t.1.lt m):cf (t :: r) m=0 :=
 ZU fun s hs e=>by
  rcases List.mem_cons.1 hs with rfl | hs
  ·rw[e] at hm;exact Mo.lt_irrefl _ hm
  ·have:=h.head s hs;rw[e] at this;exact Mo.lt_asymm this hm
theorem Canon.uniq:∀ {l r:List Tm},Canon l->Canon r->(∀ m,cf l m=cf r m)->l=r
 | [],[],_,_,_=>rfl
 | [],t :: r,_,h,e=>by
  have:=e t.1;rw[h.Zq] at this
  exact absurd this.symm (h.non t (List.mem_cons_self ..))
 | t :: l,[],h,_,e=>by
  have:=e t.1;rw[h.Zq] at this
  exact absurd this (h.non t (List.mem_cons_self ..))
 | s :: l,t :: r,h,k,e=>by
  rcases Mo.ja3 s.1 t.1 with hlt | heq | hgt
  ·have:=e t.1;rw[k.Zq,h.cf_gt hlt] at this;exact absurd this.symm (k.non t (List.mem_cons_self ..))
  ·have h1:=e s.1;rw[h.Zq,heq,k.Zq] at h1;have hst:s=t:=Prod.ext heq h1;subst hst
   have:=Canon.uniq h.tail k.tail fun m=>by
    have:=e m;rw[Zp,Zp] at this;grind
   rw[this]
  ·have:=e s.1;rw[h.Zq,k.cf_gt hgt] at this;exact absurd this (h.non s (List.mem_cons_self ..))
theorem Canon.Zv {l:List Tm} (h:Canon l) {t:Tm} (ht:t∈l):cf l t.1=t.2:=by
 induction l with
 | nil=>cases ht
 | cons s l ih =>
  rcases List.mem_cons.1 ht with rfl | ht'
  ·exact h.Zq
  ·rw[Zp,if_neg (fun e=>by have:=h.head t ht';rw[e] at this;exact Mo.lt_irrefl _ this),ih h.tail ht',Rat.zero_add]
theorem Canon.mem_cf {l:List Tm} {m:Mo} (e:cf l m≠0):∃ c,(m,c)∈l:=by
 refine Classical.byContradiction fun hn=>e (ZU fun t ht he=>hn ⟨t.2,?_⟩)
 rw[<- he];exact ht
end Pol
namespace Pol
def ins (t:Tm):List Tm->List Tm
 | []=>if t.2=0 then [] else [t]
 | s :: r=>if t.1=s.1 then (if t.2+s.2=0 then r else (s.1,t.2+s.2) :: r) else if s.1.lt t.1 then (if t.2=0 then s :: r else t :: s :: r) else s :: ins t r
theorem jev {t u:Tm}:∀ {l:List Tm},u∈ins t l->u.1=t.1\/u∈l
 | [],h=>by
  unfold ins at h;split at h
  ·cases h
  ·exact .inl (by rw[List.mem_singleton.1 h])
 | s :: r,h=>by
  unfold ins at h;split at h
  ·rename_i e;split at h
   ·exact .inr (List.mem_cons_of_mem _ h)
   ·rcases List.mem_cons.1 h with h | h
    ·exact .inl (by rw[h,e])
    ·exact .inr (List.mem_cons_of_mem _ h)
  ·split at h
   ·split at h
    ·exact .inr h
    ·rcases List.mem_cons.1 h with h | h
     ·exact .inl (by rw[h])
     ·exact .inr h
   ·rcases List.mem_cons.1 h with h | h
    ·exact .inr (by rw[h];exact List.mem_cons_self ..)
    ·exact(jev h).imp id (List.mem_cons_of_mem _)
theorem Uu (t:Tm):∀ {l:List Tm},Canon l->Canon (ins t l)
 | [],_=>by
  unfold ins;split
  ·exact Canon.nil
  ·rename_i h;exact⟨List.pairwise_singleton _ _,fun s hs=>by rw[List.mem_singleton.1 hs];exact h⟩
 | s :: r,h=>by
  unfold ins;split
  ·split
   ·exact h.tail
   ·rename_i h0;exact⟨List.pairwise_cons.2 ⟨h.head,h.tail.falls⟩,fun u hu=>(List.mem_cons.1 hu).elim (fun e=>by rw[e];exact h0) (fun hu=>h.tail.non u hu)⟩
  ·rename_i hne;split
   ·rename_i hlt;split
    ·exact h
    ·rename_i h0;refine⟨List.pairwise_cons.2 ⟨fun u hu=>?_,h.falls⟩,fun u hu=>(List.mem_cons.1 hu).elim (fun e=>by rw[e];exact h0) (fun hu=>h.non u hu)⟩
     rcases List.mem_cons.1 hu with rfl | hu
     ·exact hlt
     ·exact Mo.lt_trans (h.head u hu) hlt
   ·rename_i hnl
    have hgt:t.1.lt s.1:=((Mo.ja3 s.1 t.1).resolve_left fun k=>hnl k).resolve_left fun e=>hne e.symm
    have k:=Uu t h.tail;refine⟨List.pairwise_cons.2 ⟨fun u hu=>?_,k.falls⟩,fun u hu=>(List.mem_cons.1 hu).elim (fun e=>by rw[e];exact h.non s (List.mem_cons_self ..)) (fun hu=>k.non u hu)⟩
    rcases jev hu with e | hu
    ·rw[e];exact hgt
    ·exact h.head u hu
theorem ins_ev (t:Tm) (f:Mo->Rat):∀ (l:List Tm),ev (ins t l) f=t.2*f t.1+ev l f
 | []=>by
  unfold ins;split
  ·rename_i h;rw[h,Xb];grind
  ·rw[Jq]
 | s :: r=>by
  unfold ins;split
  ·rename_i e;split
   ·rename_i h0
    have h0:t.2 = - s.2:=by grind
    rw[Jq,e,h0];grind
   ·rw[Jq,Jq,e];grind
  ·split
   ·split
    ·rename_i h0;rw[h0];grind
    ·rw[Jq]
   ·rw[Jq,Jq,ins_ev t f r];grind
def nf (l:List Tm):List Tm:=l.foldr ins []
theorem Qi:∀ (l:List Tm),Canon (nf l)
 | []=>Canon.nil
 | t :: l=>Uu t (Qi l)
theorem jda (f:Mo->Rat):∀ (l:List Tm),ev (nf l) f=ev l f
 | []=>rfl
 | t :: l=>by show ev (ins t (nf l)) f=_;rw[ins_ev,jda f l,Jq]
theorem nf_cf (l:List Tm) (m:Mo):cf (nf l) m=cf l m:=jda _ l
theorem nf_eq {l r:List Tm} (hl:Canon l) (h:∀ m,cf l m=cf r m):nf r=l:=(Canon.uniq hl (Qi r) fun m=>by rw[h m,nf_cf]).symm
theorem nf_self {l:List Tm} (h:Canon l):nf l=l:=nf_eq h fun _=>rfl
theorem nf_same {l r:List Tm} (h:∀ f,ev l f=ev r f):nf l=nf r:=nf_eq (Qi r) fun m=>by rw[nf_cf];exact(h _).symm
def QR (c:Rat) (l:List Tm):List Tm:=l.map fun t=>(t.1,t.2*c)
def mulL (p q:List Tm):List Tm:=p.flatMap fun s=>q.map fun t=>(s.1.mul t.1,s.2*t.2)
theorem Uv (c:Rat) (l:List Tm) (f:Mo->Rat):ev (QR c l) f=c*ev l f:=by
 induction l with
 | nil=>show(0:Rat)=c*0;grind
 | cons t l ih=>show t.2*c*f t.1+ev (QR c l) f=_;rw[ih,Jq];grind
theorem ev_row (s:Tm) (q:List Tm) (f:Mo->Rat):ev (q.map fun t=>(s.1.mul t.1,s.2*t.2)) f=s.2*ev q (fun b=>f (s.1.mul b)):=by
 induction q with
 | nil=>show(0:Rat)=s.2*0;grind
 | cons t q ih=>rw[List.map_cons,Jq,ih,Jq];grind
theorem ev_mulL (p q:List Tm) (f:Mo->Rat):ev (mulL p q) f=ev p (fun a=>ev q (fun b=>f (a.mul b))):=by
 induction p with
 | nil=>rfl
 | cons s p ih=>show ev ((q.map _)++mulL p q) f=_;rw[QU,ih,ev_row,Jq]
def Qf (p q:List Tm):List Tm:=nf (p++q)
def Qn (c:Rat) (p:List Tm):List Tm:=nf (QR c p)
def Xt (p q:List Tm):List Tm:=nf (mulL p q)
def VX (p q:List Tm):List Tm:=Qf p (Qn (-1) q)
theorem QV (p q:List Tm) (f:Mo->Rat):ev (Qf p q) f=ev p f+ev q f:=by unfold Qf;rw[jda,QU]
theorem Uw (c:Rat) (p:List Tm) (f:Mo->Rat):ev (Qn c p) f=c*ev p f:=by unfold Qn;rw[jda,Uv]
theorem ZV (p q:List Tm) (f:Mo->Rat):ev (Xt p q) f=ev p (fun a=>ev q (fun b=>f (a.mul b))):=by unfold Xt;rw[jda,ev_mulL]
theorem jan (p q:List Tm) (f:Mo->Rat):ev (VX p q) f=ev p f-ev q f:=by unfold VX;rw[QV,Uw];grind
theorem JN (p q:List Tm):Canon (Qf p q):=Qi _
theorem Xr (c:Rat) (q:List Tm):Canon (Qn c q):=Qi _
theorem Xc (p q:List Tm):Canon (Xt p q):=Qi _
theorem Xz (p q:List Tm):Canon (VX p q):=Qi _
theorem JZ {p q:List Tm} (hp:Canon p) (hq:Canon q) (h:∀ f,ev p f=ev q f):p=q:=Canon.uniq hp hq fun _=>h _
theorem jdb (p q r:List Tm):Qf (Qf p q) r=Qf p (Qf q r):=JZ (JN _ _) (JN _ _) fun f=>by simp only[QV];grind

end Pol
end Go.Proofs.YtgkkbkoiaccmfaaGreatDoor
