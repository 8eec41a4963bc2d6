/-
  The walk of divide's closure of package limbs; parts put into an own list by copy.
-/
import Derived.Test.YthacfgmdihcffaaGreatDoorPzTD
import Derived.Laws.CopyRow
set_option linter.unusedSimpArgs false
set_option linter.unusedVariables false
set_option maxHeartbeats 16000000
set_option maxRecDepth 100000
open Go.Proofs.Tryz
namespace Go.Proofs.YthacfgmdihcffaaGreatDoor
namespace Limb
open Go.RowKit Go.Sort Go.FreshH
theorem YX (l:Bool) (n:Option Addr) (f c1:Nat) (v:Nat->Int) (h:World) (P:Rd h n f v) (af:f<=100000000) (Q:f<=c1) :
  Cl 167 #[Jv l n f c1] h (VK h (- Jp l f v)):=by
 obtain⟨Z,U,G,V,W,D⟩:=Xw l n f c1 v h P Zo Q
 generalize Jp l f v=z1 at G V W D ⊢
 have x:=qh D;clear D;have T:=qh G;clear P G;have w:=qh<|(Bx.new h 30 (.bool l) (.slice n f c1)).alloc (.cells #[.bool false,.slice none 0 0] 30);have g:=qh<|Bx.Zu h (.cells #[.bool l,.slice n f c1] 30) 30 (.bool false) (.slice none 0 0);obtain⟨X,t⟩:=gn (decide (-z1<0));have A:=qh<|And.intro ((jfq z1).trans t.symm) t;clear t;go_enter func167,ntmps167;go_wp2_with fail
 refine(x.o _ ?_).mono ?_
 ·exact qg
 rintro e R ⟨rfl,i⟩;have d:=w.o.bl i;have b:=g.o.bl i;have m:=qh ((zk.alloc (by go_size) _ |>.alloc (by go_size) _).trans (i.mono (by go_size)):Bl h R);have O:=qh d;have C:=qh b;clear w g d b i;go_wp2_with fail
 refine(XK (decide (z1<0)) Z (Ja z1.natAbs) U (dgi z1.natAbs) R (T.o.below m.o) Zo).mono ?_;rintro e Y ⟨a,c,rfl,E,-,j⟩;have d:=O.o.bl j;have b:=C.o.bl j;have J:=qh<|m.o.trans (j.mono m.o.size);have H:=qh d;have I:=qh b;have S:=qh<|E.mono m.o.size;have ae:=C.o.lt;have z:=qh E;obtain⟨o,q,r,s⟩:=d.all;clear O C d b j m E
 go_upto_region 2 with (fail)
 obtain⟨ag,F⟩:=gn ((Y.setCell ⟨h.heap.size,0,none⟩ (.bool (decide (z1<0)))).setCell ⟨h.heap.size,1,none⟩ (.slice a (Ja z1.natAbs) c));have d:=H.o.set (.bool (decide (z1<0))) (.slice a (Ja z1.natAbs) c);have b:=(I.o.other (a:=⟨h.heap.size,0,none⟩) Zd (.bool (decide (z1<0)))).other (a:=⟨h.heap.size,1,none⟩) Zd (.slice a (Ja z1.natAbs) c);have B:=(J.o.setCell (p:=⟨h.heap.size,0,none⟩) (by simp) (.bool (decide (z1<0)))).setCell (p:=⟨h.heap.size,1,none⟩) (by simp) (.slice a (Ja z1.natAbs) c);have u:=(z.o.other (p:=⟨h.heap.size,0,none⟩) Zd (.bool (decide (z1<0)))).other (p:=⟨h.heap.size,1,none⟩) Zd (.slice a (Ja z1.natAbs) c);rw[<- F] at d b B u;rw[<- F];have g:=qh b;have HG:=qh B;have M:=qh<|Xk (!decide (z1<0)) X a (Ja z1.natAbs) c z1.natAbs _ (dgi z1.natAbs) ag u (Jr _ _) Zo (Jz _) A.o.1;have y:=qh u;clear o q r s H I F J x S z u B;obtain⟨o,q,r,s⟩:=d.all;clear d b;go_wp2_with fail
 refine M.o.mono ?_;rintro e w3 ⟨rfl,k⟩;have b:=g.o.bl k;have K:=qh b;obtain⟨aa,ab,ac,ad⟩:=b.all;have L:=qh<|HG.o.trans (k.mono HG.o.size);have N:=qh<|y.o.below k;clear y HG g M b k o q r s;go_wp2_with fail
 unfold VK;rw[Int.natAbs_neg,<- A.o.2];refine bodyPost_ret (Je rfl _ _ _ _ _ _ _ rfl (K.o.set _ _) underlying30 rfl Zk) rfl ⟨a,c,rfl,?_,?_⟩
 ·exact((N.o.oz).oz).mono Zo
 ·exact(L.o.sc).sc
theorem Kt (n:Bool) (q:Option Addr) (i c1:Nat) (E:Nat->Int) (k:Bool) (m:Option Addr) (f c2:Nat) (v:Nat->Int) (t:World)
  (X:Rd t q i E) (ac:i<=100000000) (aa:i<=c1) (N:Rd t m f v) (ad:f<=100000000) (J:f<=c2) :
  Cl 248 #[Jv n q i c1,Jv k m f c2] t (VK t (Jp n i E-Jp k f v)):=by
 have ab:Ja (Jp k f v).natAbs<=f:=by
  obtain⟨_,_,_,l2,_⟩:=Xw k m f c2 v t N Zo J;exact l2
 have p:=qh (λ(c:World) (d:Bl t c)=>YX k m f c2 v c (N.below d) ad J);obtain⟨z1,C⟩:=gn (Jp n i E);obtain⟨g,D⟩:=gn (Jp k f v);rw[<- D] at p ab;rw[<- C,<- D];obtain⟨L2,Z⟩:=gn (Ja g.natAbs);obtain⟨F,A⟩:=gn (decide (-g<0));obtain⟨sC,B⟩:=gn (decide (z1-g<0));obtain⟨V,O⟩:=gn ((z1-g).natAbs);have u:=qh (λ(c:World) (d:Bl t c) (l:Option Addr) (ao:Nat) (hr:Rd c l (Ja g.natAbs) (dgi g.natAbs)) (hd:Ja g.natAbs<=ao)=>XL n q i c1 E F l (Ja g.natAbs) ao (dgi g.natAbs) c (X.below d) ac aa hr Zo hd);rw[jjs g F A,<- C,<- Int.sub_eq_add_neg] at u;unfold VK at p u;rw[Int.natAbs_neg] at p;rw[<- A] at p;rw[<- B,<- O] at u;have S:=qh<|And.intro O B;clear C D A B O X N Z;have w:=qh<|((Bx.new t 30 (.bool n) (.slice q i c1)).alloc (.cells #[.bool k,.slice m f c2] 30)).alloc (.cells #[.bool false,.slice none 0 0] 30);have x:=qh<|(Bx.Zu t (.cells #[.bool n,.slice q i c1] 30) 30 (.bool k) (.slice m f c2)).alloc (.cells #[.bool false,.slice none 0 0] 30);have y:=qh<|Bx.new3 t (.cells #[.bool n,.slice q i c1] 30) (.cells #[.bool k,.slice m f c2] 30) 30 (.bool false) (.slice none 0 0);have ag:=qh ((zk.alloc (by go_size) _ |>.alloc (by go_size) _ |>.alloc (by go_size) _):Bl t (((t.alloc (.cells #[.bool n,.slice q i c1] 30)).alloc (.cells #[.bool k,.slice m f c2] 30)).alloc (.cells #[.bool false,.slice none 0 0] 30)));go_enter func248,ntmps248
 go_upto_region 1 with (fail)
 obtain⟨M,P⟩:=gn (((t.alloc (.cells #[.bool n,.slice q i c1] 30)).alloc (.cells #[.bool k,.slice m f c2] 30)).alloc (.cells #[.bool false,.slice none 0 0] 30));rw[<- P] at w x y ag;rw[<- P];have G:=qh (λ(c:World) (d:Bl M c)=>And.intro (w.o.bl d).c0 (w.o.bl d).c1);have H:=qh (λ(c:World) (d:Bl M c)=>And.intro (x.o.bl d).c0 (x.o.bl d).c1);have HG:=ag;clear P ag
 refine Ji 4 (JI [(2,Sp.made (λl:Option Addr × Nat=>Jv F l.1 (Ja g.natAbs) l.2) (λl c=>Own 128 c M.heap.size l.1 (Ja g.natAbs) l.2 (dgi g.natAbs))),
   (3,Sp.made (λl:Option Addr × Nat=>Jv sC l.1 (Ja V) l.2) (λl c=>Own 128 c M.heap.size l.1 (Ja V) l.2 (dgi V)))])
  (λc=>Bl M c) Zk Zk
  (Jb (Sp.Jf λl t c Q d=>Q.below d) (Jb (Sp.Jf λl t c Q d=>Q.below d) Jh)) (λ_ _ Q d=>Q.trans (d.mono Q.size)) (zk.drew) ?_
 simp only[zx,zy,zv,zw]
 iterate 2
  (refine Jy rfl rfl ?_ (λc j=>?_) ?_;rotate_left;· (have h:=Has.world j;(have hs:=G.o _ h;have hs:=H.o _ h);clear j;go_simp;try rfl))
 (refine Jc rfl rfl (λc j=>?_) ?_;· (have h:=Has.world j;go_simp;((refine(p.o c (HG.o.trans (h.mono HG.o.size))).mono ?_;rintro e af ⟨a,r,rfl,ah,d⟩;exact⟨_,rfl,⟨⟨a,r,rfl⟩,⟨a,r,rfl,ah.mono h.size⟩⟩,d⟩))))
 rintro _ ⟨l,rfl⟩
 (refine Jc rfl rfl (λc j=>?_) ?_;· (have h:=Has.world j;go_simp;((have Y:=JU (T:=128) (x:=l) (b:=M.heap.size) (s:=F) (L:=Ja g.natAbs) (o:=dgi g.natAbs) (j.fact 2 Zk);refine(u.o c (HG.o.trans (h.mono HG.o.size)) l.1 l.2 Y.rd Y.le).mono ?_;rintro e af ⟨a,r,rfl,ah,d⟩;exact⟨_,rfl,⟨⟨a,r,rfl⟩,⟨a,r,rfl,ah.mono h.size⟩⟩,d⟩))))
 rintro _ ⟨ai,rfl⟩;refine Jn (λw5 z I=>?_);have W:=JU (T:=128) (b:=M.heap.size) (s:=sC) (L:=Ja V) (o:=dgi V) (x:=ai) (I 3);have HO:=qh W;have K:=y.o.bl z;have R:=qh K;obtain⟨aj,ak,am,an⟩:=K.all;have U:=qh<|HG.o.trans (z.mono HG.o.size);have aq:=y.o.lt;have ae:=HG.o.size;clear I W K z G H;go_wp2_with fail
 unfold VK;rw[<- S.o.1,<- S.o.2];refine bodyPost_ret (Je rfl _ _ _ _ _ _ _ rfl (R.o.set _ _) underlying30 rfl Zk) rfl ⟨ai.1,ai.2,rfl,?_,?_⟩
 ·exact((HO.o.oz).oz).mono ae
 ·exact(U.o.sc).sc
end Limb
namespace Book
open Go.RowKit Go.Sort Go.FreshH Limb
variable {w w':World} {base cap g n t:Nat} {F:Nat->Value} {a:Option Addr}
structure Qe (w:World) (base:Nat) (a:Option Addr) (n cap:Nat) (F:Nat->Value):Prop where
 le:n<=cap
 place:(a=none/\n=0/\cap=0)\/∃ g cur,a=some ⟨g,0,none⟩/\base<=g/\w.heap[g]?=some (.cells cur 37 (0,0))/\cap*8<=cur.size/\∀ i,i<n*8->cur[i]?=some (F i)
theorem Qe.keep (l:Qe w base a n cap F) (j:∀ k,a=some k->w'.heap[k.block]?=w.heap[k.block]?):Qe w' base a n cap F:=by
 refine⟨l.le,?_⟩
 rcases l.place with h | ⟨g,c,d,f,hg,b,i⟩
 ·exact Or.inl h
 ·exact Or.inr ⟨g,c,d,f,(j _ d).trans hg,b,i⟩
theorem Qe.below (k:Qe w base a n cap F) (i:Bl w w'):Qe w' base a n cap F:=by
 refine⟨k.le,?_⟩
 rcases k.place with f | ⟨g,c,h,d,hg,b,j⟩
 ·exact Or.inl f
 ·exact Or.inr ⟨g,c,h,d,(i.block g (lt_of_block hg)).trans hg,b,j⟩
theorem Qe.mono {b:Nat} (j:Qe w base a n cap F) (l:b<=base):Qe w b a n cap F:=by
 refine⟨j.le,?_⟩
 rcases j.place with f | ⟨g,d,h,k,hg,c,i⟩
 ·exact Or.inl f
 ·exact Or.inr ⟨g,d,h,Zo,hg,c,i⟩
theorem Qe.blk (j:Qe w base a n cap F) {p:Addr} (b:a=some p):p=⟨p.block,0,none⟩/\base<=p.block/\p.block<w.heap.size:=by
 rcases j.place with d | ⟨g,i,f,c,hg,h,k⟩
 ·rw[d.1] at b;cases b
 ·obtain rfl:=Option.some.inj (f.symm.trans b);exact⟨rfl,c,lt_of_block hg⟩
theorem Qe.QF (d:Qe w base a n cap F) (h:0<n):∃ g,a=some ⟨g,0,none⟩:=by
 rcases d.place with f | ⟨g,c,b,_⟩
 ·omega
 ·exact⟨g,b⟩
theorem Qe.fz (k:Qe w base (some ⟨g,0,none⟩) n cap F) (i:Nat):w.frozen? ⟨g,i,none⟩=false:=by
 rcases k.place with c | ⟨j,b,d,h,hg,f,l⟩
 ·cases c.1
 ·cases d;exact frozen_of_row w _ i b _ hg
theorem Qe.cell (m:Qe w base (some ⟨g,0,none⟩) n cap F) {i:Nat} (h:i<n*8):w.cell? ⟨g,i,none⟩=some (F i):=by
 rcases m.place with b | ⟨l,j,c,k,hg,f,d⟩
 ·cases b.1
 ·cases c
  rw[cell_of_row _ _ _ _ _ _ hg];exact d i h
theorem Qe.congr {d:Nat->Value} (m:Qe w base a n cap F) (e:∀ c,c<n*8->F c=d c):Qe w base a n cap d:=by
 refine⟨m.le,?_⟩
 rcases m.place with j | ⟨g,f,k,h,hg,b,l⟩
 ·exact Or.inl j
 ·exact Or.inr ⟨g,f,k,h,hg,b,λc i=>by rw[l c i,e c i]⟩
def updV (F:Nat->Value) (t:Nat) (v:Value) (i:Nat):Value:=if i=t then v else F i
theorem Qe.put (d:Qe w base (some ⟨g,0,none⟩) n cap F) (p:t<n*8) (v:Value):Qe (w.setCell ⟨g,t,none⟩ v) base (some ⟨g,0,none⟩) n cap (updV F t v):=by
 refine⟨d.le,?_⟩
 rcases d.place with h | ⟨o,b,i,f,hg,c,j⟩
 ·cases h.1
 ·cases i
  have l:=Nat.mul_le_mul_right 8 d.le;refine Or.inr ⟨g,b.setIfInBounds t v,rfl,f,heap_setCell_same w g t b _ _ hg,by simpa using c,λm k=>?_⟩;rw[Array.getElem?_setIfInBounds];by_cases e:t=m
  ·subst e;rw[if_pos rfl,if_pos Zo];unfold updV;rw[if_pos rfl]
  ·rw[if_neg e];unfold updV;rw[if_neg λd=>e d.symm];exact j m k
def Xr (w:World) (g t:Nat) (m:Nat->Value):World:=(((((((w.setCell ⟨g,t*8,none⟩ (m 0)).setCell ⟨g,t*8+1,none⟩ (m 1)).setCell ⟨g,t*8+2,none⟩ (m 2)).setCell ⟨g,t*8+3,none⟩ (m 3)).setCell ⟨g,t*8+4,none⟩ (m 4)).setCell ⟨g,t*8+5,none⟩ (m 5)).setCell ⟨g,t*8+6,none⟩ (m 6)).setCell ⟨g,t*8+7,none⟩ (m 7)
def updT (F:Nat->Value) (t:Nat) (m:Nat->Value) (i:Nat):Value:=if i/8=t then m (i%8) else F i
theorem Qe.Xr (i:Qe w base (some ⟨g,0,none⟩) n cap F) (j:t<n) (b:Nat->Value):Qe (Book.Xr w g t b) base (some ⟨g,0,none⟩) n cap (updT F t b):=by
 have h:=(((((((i.put (t:=t*8) Zo (b 0)).put (t:=t*8+1) Zo (b 1)).put (t:=t*8+2) Zo (b 2)).put (t:=t*8+3) Zo (b 3)).put (t:=t*8+4) Zo (b 4)).put (t:=t*8+5) Zo (b 5)).put (t:=t*8+6) Zo (b 6)).put (t:=t*8+7) Zo (b 7)
 refine h.congr λf _=>?_
 unfold updT updV;by_cases e:f/8=t
 ·rw[if_pos e];have d:f%8<8:=Nat.mod_lt _ Ze;have c:f=t*8+f%8:=Zo
  generalize f%8=r at d c
  subst c
  match r,d with
  | 0,_=>rw[if_neg Zo,if_neg Zo,if_neg Zo,if_neg Zo,if_neg Zo,if_neg Zo,if_neg Zo,if_pos Zo]
  | 1,_=>rw[if_neg Zo,if_neg Zo,if_neg Zo,if_neg Zo,if_neg Zo,if_neg Zo,if_pos rfl]
  | 2,_=>rw[if_neg Zo,if_neg Zo,if_neg Zo,if_neg Zo,if_neg Zo,if_pos rfl]
  | 3,_=>rw[if_neg Zo,if_neg Zo,if_neg Zo,if_neg Zo,if_pos rfl]
  | 4,_=>rw[if_neg Zo,if_neg Zo,if_neg Zo,if_pos rfl]
  | 5,_=>rw[if_neg Zo,if_neg Zo,if_pos rfl]
  | 6,_=>rw[if_neg Zo,if_pos rfl]
  | 7,_=>rw[if_pos rfl]
 ·rw[if_neg e,if_neg Zo,if_neg Zo,if_neg Zo,if_neg Zo,if_neg Zo,if_neg Zo,if_neg Zo,if_neg Zo]
def mc (j:Nat) (i:Nat):Value:=match i with
 | 0=>.bool false
 | 1=>.slice none 0 0
 | 2=>.bool false
 | 3=>.slice none 0 0
 | 4=>.int .u16 ((j:Int)+2)
 | _=>.int .u16 0
theorem jb4 (b:Nat) (c:World) (l:b<=30000):Cl 122 #[.int .i64 ((b:Int)+1)] c λe w'=>e=.returned (.agg #[.bool false,.slice none 0 0,.bool false,.slice none 0 0,.int .u16 ((b:Int)+2),.int .u16 0,.int .u16 0,.int .u16 0])/\Bl c w':=by
 have d:=IntWalk.i64_in ((b:Int)+1) Zo;have f:=IntWalk.i64_in (1+((b:Int)+1)) Zo;have h:=IntWalk.u16_in (1+((b:Int)+1)) Zo;have i:((b:Int)+1).tmod 60000=(b:Int)+1:=Int.tmod_eq_of_lt Zo Zo;have j:((b:Int)+1).tdiv 60000=0:=Int.tdiv_eq_zero_of_lt Zo Zo;have k:1+((b:Int)+1)=(b:Int)+2:=Zo;go_enter func122,ntmps122;go_wp2;exact bodyPost_ret (Je rfl _ _ _ _ _ _ _ rfl (heap_alloc_new c _) underlying37 rfl Zk) rfl ⟨rfl,zk.alloc zj _⟩
end Book
namespace Limb
open Go.RowKit
theorem Own.JD {c:Nat} {d:World} {base:Nat} {a:Option Addr} {n b:Nat} {o:Nat->Int} (h:Own c d base a n b o) (f:Obj):Own c (d.alloc f) base a n b o:=h.below (zk.alloc zj f)
end Limb
namespace Book
open Go.RowKit Go.Sort Go.FreshH Limb
structure jg3 (w1 wr:World) (i n:Nat) (ai:Option Addr) (ci t:Nat) (a:Option Addr) (c:Nat) (hv:Nat->Value):Prop where
 own:Own 128 wr 0 a (n+t) c (λ_=>mk i)
 old:Own 128 wr 0 ai n ci (λ_=>mk i)
 plc:(a=ai/\c=ci)\/∃ g,a=some ⟨g,0,none⟩/\w1.heap.size<g
 box:wr.rowIs w1.heap.size 127 3 hv
 tch:Touch (λg=>∃ p,ai=some p/\p.block=g) w1 wr
 olt:∀ p,ai=some p->p.block<w1.heap.size
theorem grow_step {z wr m:World} {A n B C v q:Nat} {a u d:Option Addr} {y:Nat->Value} {o:Obj} (j:jg3 z wr A n u v B a C y) (x:Own 128 m 0 d (n+B+1) q (upd (λ_=>mk A) (n+B) (mk A)))
  (r:(d=a/\q=C/\(wr.alloc o).grownBy m (a.map (·.block)))\/((∃ g,d=some ⟨g,0,none⟩/\wr.heap.size+1<=g)/\(wr.alloc o).grownBy m none/\C<n+B+1)) :
  jg3 z m A n u v (B+1) d q y:=by
 have b:Own 128 m 0 d (n+(B+1)) q (λ_=>mk A):=x.congr λD _=>by unfold upd;split <;> rfl
 have G:=j.tch.size;have E:=j.box.lt
 have l:Own 128 (wr.alloc o) 0 u n v (λ_=>mk A):=j.old.keep λp k=>Below.heap_alloc _ _ _ (by have:=j.olt p k;omega)
 have f:(wr.alloc o).rowIs z.heap.size 127 3 y:=j.box.alloc o;have i:=j.tch.alloc o
 rcases r with ⟨rfl,rfl,hg⟩ | ⟨⟨g,rfl,s⟩,hg,-⟩
 ·rcases j.plc with ⟨rfl,rfl⟩ | ⟨g,rfl,s⟩
  ·refine⟨b,b.less Zo,.inl ⟨rfl,rfl⟩,f.of_block (hg.block _ (by simp;omega) (λe=>?_)),i.grown hg (λD c=>?_),j.olt⟩
   ·cases h:d with
    | none=>rw[h] at e;cases e
    | some p=>rw[h] at e;simp at e;have:=j.olt p h;omega
   ·cases h:d with
    | none=>rw[h] at c;cases c
    | some p=>rw[h] at c;simp at c;exact .inl ⟨p,rfl,c⟩
  ·refine⟨b,l.keep (λp k=>hg.block _ (by have:=j.olt p k;simp;omega) (λe=>by have:=j.olt p k;simp at e;omega)),.inr ⟨g,rfl,s⟩,f.of_block (hg.block _ (by simp;omega) (λe=>by simp at e;omega)),
    i.grown hg (λD c=>.inr (by simp at c;omega)),j.olt⟩
 ·refine⟨b,l.keep (λp k=>hg.block _ (by have:=j.olt p k;simp;omega) (λe=>by cases e)),.inr ⟨g,rfl,Zo⟩,f.of_block (hg.block _ (by simp;omega) (λe=>by cases e)),
   i.grown hg (λD c=>by cases c),j.olt⟩
end Book
namespace Limb
open Go.RowKit Go.Sort Go.FreshH
def tw (o:Nat->Int) (n i:Nat):Int:=if i<n then o i else 77
theorem ja2 (p:Nat) (a:Option Addr) (n u:Nat) (o:Nat->Int) (i:World) (d:Rd i (some ⟨p,0,none⟩) (n+1) (tw o n)) (l:Rd i a n o) (E:n<=1000000000) :
  Cl 221 #[.slice (some ⟨p,0,none⟩) n (n+1),.slice a n u] i λe w'=>e=.returned (.bool true)/\∃ m,w'=i.drewN m:=by
 have q:=qh l;have r:=qh d;have C:=IntWalk.i64_in ((n:Int)+1) Zo;have D:((n+1:Nat):Int)=(n:Int)+1:=Zo;have H:¬((n:Int)+1<=(n:Int)):=Zo;clear l d;go_enter func221,ntmps221;go_wp2;go_loopw [5] (λx wr=>∃ t:Nat,t<=n/\x=.int .i64 t/\∃ m,wr=i.drewN m) (λx _=>n-(intOf x).toNat)
 case atStart=>exact⟨0,Zo,rfl,0,rfl⟩
 case round =>
  obtain⟨t,A,rfl,h⟩:=hrel;have j:=qh h
  have c:∀ z,wr.cell? z=i.cell? z:=by obtain⟨m,rfl⟩:=h;intro z;rfl
  clear h;obtain⟨B,G,v,b⟩:=r.o.cells Zo
  cases v
  by_cases d:t<n
  ·obtain⟨s,y,rfl,f⟩:=q.o.cells Zo
   have c1:wr.cell? ⟨p,t,none⟩=some (.int .u32 (o t)):=by
    have k:=(c _).trans (b t Zo);rw[Nat.zero_add] at k;rw[k];show some (Value.int .u32 (if t<n then o t else 77))=_;rw[if_pos d]
   have c2:wr.cell? ⟨s,y+t,none⟩=some (.int .u32 (o t)):=(c _).trans (f t d);clear b f c;go_wp2;go_quiet (fail);go_wp2;go_roundw
   case rel=>exact⟨t+1,Zo,by go_num,by obtain⟨m,e⟩:=j.o;exact⟨_,by rw[e,World.drewN_drewN]⟩⟩
   case measure=>simp[intOf];omega
  ·obtain rfl:t=n:=Zo
   have c1:wr.cell? ⟨p,t,none⟩=some (.int .u32 77):=by
    have k:=(c _).trans (b t Zo);rw[Nat.zero_add] at k;rw[k];show some (Value.int .u32 (if t<t then o t else 77))=_;rw[if_neg Zo]
   clear b c;go_wp2;go_ret;exact⟨rfl,j.o⟩
theorem VM (h:Bool) (j:Nat) (a:Option Addr) (n b:Nat) (o:Nat->Int) (f:World) (d:Rd f (some ⟨j,0,none⟩) (n+1) (tw o n)) (c:Rd f a n o) (k:n<=1000000000) :
  Cl 175 #[Jv h (some ⟨j,0,none⟩) n (n+1),Jv h a n b] f λe w'=>e=.returned (.bool true)/\Bl f w':=by
 have i:=qh (λ(w':World) (l:Bl f w')=>ja2 j a n b o w' (d.below l) (c.below l) k)
 have m:(h==h)=true:=by simp
 clear c d;go_enter func175,ntmps175;go_wp2_with fail
 refine(i.o _ ?_).mono ?_
 ·exact qg
 rintro e p ⟨rfl,q,rfl⟩;go_wp2;go_ret;exact⟨rfl,qg⟩
end Limb
namespace Book
open Go.RowKit Go.Sort Go.FreshH Limb
variable {w:World} {g k vb:Nat} {X:Nat->Value}
def Yo (ν:Nat->Nat) (w:World) (vb k:Nat) (A:Nat->Option Addr) (N C:Nat->Nat) (X:Nat->Value):Prop :=
 ∃ m f,w.rowIs vb 120 m f/\∀ j,j<k->3*j+2<m/\f (3*j)=.slice (A j) (N j) (C j)/\f (3*j+1)=X j/\f (3*j+2)=.int .i64 ((ν j:Int)+1)
theorem Yo.cells {d:Nat->Nat} {o:Nat->Option Addr} {q p:Nat->Nat} (r:Yo d w vb k o q p X) {c:Nat} (m:c<k) :
  w.cell? ⟨vb,c*3,none⟩=some (.slice (o c) (q c) (p c))/\w.cell? ⟨vb,c*3+1,none⟩=some (X c)/\w.cell? ⟨vb,c*3+2,none⟩=some (.int .i64 ((d c:Int)+1))/\(∀ u,w.frozen? ⟨vb,u,none⟩=false)/\vb<w.heap.size:=by
 obtain⟨v,f,b,l⟩:=r;obtain⟨s,h,i,j⟩:=l c m;rw[Nat.mul_comm c 3];exact⟨by rw[<- h];exact b.cell Zo,by rw[<- i];exact b.cell Zo,by rw[<- j];exact b.cell Zo,b.frozen,b.lt⟩
theorem Yo.keep {b:Nat->Nat} {w':World} {h:Nat->Option Addr} {j i:Nat->Nat} (l:Yo b w vb k h j i X) (e:w'.heap[vb]?=w.heap[vb]?):Yo b w' vb k h j i X:=by
 obtain⟨m,f,d,c⟩:=l;exact⟨m,f,d.of_block e,c⟩
theorem Yo.lt {c:Nat->Nat} {d:Nat->Option Addr} {i h:Nat->Nat} (j:Yo c w vb k d i h X):vb<w.heap.size:=by
 obtain⟨m,f,b,l⟩:=j;exact b.lt
theorem Yo.jdl {d:Nat->Nat} {q:Nat->Option Addr} {s r:Nat->Nat} (u:Yo d w vb k q s r X) (c:Nat) (v:Value):Yo d (w.setCell ⟨vb,c*3+1,none⟩ v) vb k q s r (λb=>if b=c then v else X b):=by
 obtain⟨x,f,o,m⟩:=u;refine⟨x,_,o.set (c*3+1) v,λb p=>?_⟩;obtain⟨h,i,j,l⟩:=m b p;refine⟨h,?_,?_,?_⟩
 ·rw[if_neg Zo];exact i
 ·show(if 3*b+1=c*3+1 then v else f (3*b+1))=if b=c then v else X b
  by_cases e:b=c
  ·subst e;rw[if_pos Zo,if_pos rfl]
  ·rw[if_neg Zo,if_neg e];exact j
 ·rw[if_neg Zo];exact l
theorem jj0 {f y:Nat} {i:Nat->Option Addr} {j z:Nat->Nat} {l:Nat->Nat->Value} {m:Nat->Value} (p:Part k i) (h:∀ c,c<k->Qe w 0 (i c) (j c) (z c) (l c)) (r:f<k) (hg:i f=some ⟨g,0,none⟩) (u:y<j f) :
  ∀ c,c<k->Qe (Xr w g y m) 0 (i c) (j c) (z c) (if c=f then updT (l f) y m else l c):=by
 intro c d;by_cases e:c=f
 ·subst e;rw[if_pos rfl,hg];have A:=h c d;rw[hg] at A;exact A.Xr u m
 ·rw[if_neg e]
  refine(h c d).keep λx s=>?_
  have b:∀ (v:World) (o:Nat) (B:Value),(v.setCell ⟨g,o,none⟩ B).heap[x.block]?=v.heap[x.block]?:=λv o B=>Below.heap_setCell _ _ _ _ (λq=>p c d f r e x _ s hg q)
  unfold Xr;rw[b,b,b,b,b,b,b,b]
theorem jg4 {b h:Nat} {d:TypeId} {f:Nat->Value} (i:w.rowIs b d h f) (hg:g≠b) (j:Nat) (c:Nat->Value):(Book.Xr w g j c).rowIs b d h f:=by
 unfold Book.Xr;exact(((((((i.setOther Zd _).setOther Zd _).setOther Zd _).setOther Zd _).setOther Zd _).setOther Zd _).setOther Zd _).setOther Zd _
theorem Touch.Xr {d:Nat->Prop} {a b:World} (f:Touch d a b) (c:d g\/a.heap.size<=g) (i:Nat) (h:Nat->Value):Touch d a (Book.Xr b g i h) :=
 (((((((f.setCell (p:=⟨g,_,none⟩) c _).setCell (p:=⟨g,_,none⟩) c _).setCell (p:=⟨g,_,none⟩) c _).setCell (p:=⟨g,_,none⟩) c _).setCell (p:=⟨g,_,none⟩) c _).setCell (p:=⟨g,_,none⟩) c _).setCell (p:=⟨g,_,none⟩) c _).setCell (p:=⟨g,_,none⟩) c _
theorem jb5 (b R k W:Nat) (E:Nat->Option Addr) (N ae:Nat->Nat) (aj:Nat->Nat->Value) (f:Nat->Value) (h:Nat->Nat) (S:World) (hk:k<=30000) (ad:∀ c,c<k->h c<=30000) (hB:S.rowIs b 59 13 f) (hf:f 6=.slice (some ⟨R,0,none⟩) k W)
  (hA:Yo h S R k E N ae (λ_=>.slice none 0 0)) (x:∀ c,c<k->Qe S 0 (E c) (N c) (ae c) (aj c)) (hN:∀ c,c<k->N c<=100000000) (hS:¬UA k E b/\¬UA k E R) (hD:Part k E) :
  Cl 50 #[.pointer (some ⟨b,0,none⟩)] S λe w'=>(∃ v,e=.returned v)/\Touch (UA k E) S w'/\∀ c,c<k->Qe w' 0 (E c) (N c) (ae c) (λi=>mc (h c) (i%8)):=by
 have HB:=qh hB;have HA:=qh hA;have HO:=qh x;have HS:=qh hS;have HD:=qh hD;have HN:=qh hN;have HF:=qh hf;have HV:=qh ad;clear hB hA x hS hD hN hf ad;go_enter func50,ntmps50;go_wp2;go_loopw [2] (λv wr=>∃ d:Nat,d<=k/\v=.int .i64 d/\Touch (UA k E) S wr/\∃ u:Nat->Nat->Value,(∀ c,c<k->Qe wr 0 (E c) (N c) (ae c) (u c))/\∀ c,c<d->∀ i,i<N c*8->u c i=mc (h c) (i%8)) (λv _=>k-(intOf v).toNat)
 case atStart=>exact⟨0,Zo,rfl,Touch.refl _ _,aj,HO.o,λc r=>Zo⟩
 case round =>
  obtain⟨s,rfl⟩:=gn wr;obtain⟨d,an,rfl,P,u,aa,hM⟩:=hrel;have KT:=qh P;have KO:=qh aa;have KM:=qh hM;have KB:=qh<|HB.o.of_block (P.block _ HB.o.lt HS.o.1);have KA:=qh<|HA.o.keep (P.block _ HA.o.lt HS.o.2);clear P aa hM
  have b2:s.cell? ⟨b,6,none⟩=some (.slice (some ⟨R,0,none⟩) k W):=by rw[<- HF.o];exact KB.o.cell (i:=6) Zo
  by_cases y:d<k
  ·obtain⟨a0,a1,a2,-,au⟩:=KA.o.cells y;obtain⟨a,ha⟩:=gn (E d);obtain⟨n,Q⟩:=gn (N d);obtain⟨i,l⟩:=gn (ae d);rw[<- ha,<- Q,<- l] at a0;have EA:=qh ha;have K:=qh Q;have EC:=qh l
   have aq:n<=100000000:=by rw[Q];exact HN.o d y
   clear ha Q l;go_wp2
   go_loopw [4] (λv J=>∃ t:Nat,t<=n/\v=.int .i64 t/\J.rowIs s.heap.size 120 3 (hcell a n i (.slice none 0 0) ((h d:Int)+1))/\Touch (UA k E) S J /\
    ∃ u:Nat->Nat->Value,(∀ c,c<k->Qe J 0 (E c) (N c) (ae c) (u c))/\(∀ c,c<d->∀ i,i<N c*8->u c i=mc (h c) (i%8))/\∀ i,i<t*8->u d i=mc (h d) (i%8)) (λv _=>n-(intOf v).toNat)
   case atStart =>
    refine⟨0,Zo,rfl,?_,KT.o.alloc _,u,λc r=>(KO.o c r).below (zk.alloc zj _),KM.o,λi l=>Zo⟩
    have ai:=World.rowIs_alloc s #[Value.slice a n i,Value.slice none 0 0,Value.int IntKind.i64 ((h d:Int)+1)] 120 (hcell a n i (.slice none 0 0) ((h d:Int)+1)) (λD I=>by
     match D,I with
     | 0,_=>rfl
     | 1,_=>rfl
     | 2,_=>rfl)
    exact ai
   case round =>
    obtain⟨t,ar,rfl,O,ab,V,G,Y,Z⟩:=hrel;have M:=qh ab;have B:=qh G;have L:=qh<|And.intro Y Z;have z:=qh O;have av:S.heap.size<=s.heap.size:=KT.o.size;have ag:wr.cell? ⟨s.heap.size,0,none⟩=some (.slice a n i):=O.cell (i:=0) Zo;have ah:wr.cell? ⟨s.heap.size,2,none⟩=some (.int .i64 ((h d:Int)+1)):=O.cell (i:=2) Zo;clear O ab G Y Z;by_cases ht:t<n
    ·obtain⟨g,hg⟩:=(B.o d y).QF (by rw[<- K.o];omega);obtain rfl:=EA.o.trans hg;have x:=B.o d y;rw[<- EA.o,<- K.o] at x;have T:=qh (λ(D:Nat) (I:D<n*8)=>x.cell I);have ac:=x.fz;have A:=(x.blk rfl).2.2;have am:g<S.heap.size:=((HO.o d y).blk hg).2.2;have U:=qh (λ(w':World) (C:Bl wr w')=>And.intro ((C.cell (p:=⟨s.heap.size,0,none⟩) z.o.lt).trans ag) ((C.cell (p:=⟨s.heap.size,2,none⟩) z.o.lt).trans ah));have ao:s.heap.size<wr.heap.size:=z.o.lt;clear x;go_wp2
     refine Ji 7 (JI [(5,Sp.know (.agg #[.bool false,.slice none 0 0,.bool false,.slice none 0 0,.int .u16 ((h d:Int)+2),.int .u16 0,.int .u16 0,.int .u16 0]))]) (λw'=>Bl wr w') Zk Zk
      (Jb (Sp.Jk _) Jh) (λ_ _ ai C=>ai.trans (C.mono ai.size)) (zk.drew) ?_
     simp only[zx,zy,zv,zw]
     iterate 5
      (refine Jy rfl rfl ?_ (λw' q=>?_) ?_;rotate_left;· (have H:=Has.world q;(have hs:=U.o _ H);clear q;go_simp;try rfl))
     (refine Jc rfl rfl (λw' q=>?_) ?_;· (have H:=Has.world q;go_simp;((refine(jb4 (h d) w' (HV.o d y)).mono ?_;rintro e aw ⟨rfl,C⟩;exact⟨_,rfl,rfl,C⟩))))
     rintro _ rfl
     (refine Jy rfl rfl ?_ (λw' q=>?_) ?_;rotate_left;· (have H:=Has.world q;(skip);clear q;go_simp;try rfl))
     refine Jn (λw5 o af=>?_);clear af U;have z:=qh<|z.o.of_block (o.block _ z.o.lt);have M:=qh<|M.o.trans (Touch.of_below (o.mono zj));have B:=qh (λc r=>(B.o c r).below o)
     have j:∀ D,D<n*8->w5.cell? ⟨g,D,none⟩=some (V d D):=λD I=>(o.cell (p:=⟨g,D,none⟩) A).trans (T.o D I)
     have s0:=j (t*8) Zo;have s1:=j (t*8+1) Zo;have s2:=j (t*8+2) Zo;have s3:=j (t*8+3) Zo;have s4:=j (t*8+4) Zo;have s5:=j (t*8+5) Zo;have s6:=j (t*8+6) Zo;have s7:=j (t*8+7) Zo
     have ac:=λD=>(o.frozen (p:=⟨g,D,none⟩) A).trans (ac D)
     have ak:g<w5.heap.size:=Nat.lt_of_lt_of_le A o.size;have ST:=qh<|jj0 (m:=mc (h d)) HD.o B.o y hg (by rw[<- K.o];exact ht);clear o j T;go_wp2;go_roundw
     case rel =>
      refine⟨t+1,Zo,by go_num,?_,?_,_,ST.o,?_,?_⟩
      ·exact jg4 z.o Zo t (mc (h d))
      ·exact M.o.Xr (Or.inl ⟨d,y,_,hg,rfl⟩) t (mc (h d))
      ·intro c r i l;rw[if_neg Zo];exact L.o.1 c r i l
      ·intro i l;rw[if_pos rfl];unfold updT;by_cases e:i/8=t
       ·rw[if_pos e]
       ·rw[if_neg e];exact L.o.2 i Zo
     case measure=>simp[intOf];omega
    ·obtain rfl:t=n:=Zo;go_wp2;go_roundw
     case rel =>
      refine⟨d+1,Zo,by go_num,M.o,V,B.o,λc r i l=>?_⟩;by_cases e:c=d
      ·subst e;exact L.o.2 i (by rw[K.o];exact l)
      ·exact L.o.1 c Zo i l
     case measure=>simp[intOf];omega
  ·obtain rfl:d=k:=Zo;go_wp2_with fail
   (try simp only[Exit.inBlock,Exit.then])
   refine bodyPost_end (results_none rfl _ _ _) rfl ?_;exact⟨⟨_,rfl⟩,KT.o,λc r=>(KO.o c r).congr λi l=>KM.o c r i l⟩
end Book
namespace Limb
open Go.RowKit Go.Sort Go.FreshH
theorem Vq (d:Bool) (a:Option Addr) (n b:Nat) (c:World):(Instr.field 30 (Jv d a n b) 1).run prog c=.ok (.slice a n b) c:=by kernel_rfl
theorem nat_sum {o:Nat->Int} {n:Nat} (b:Dig o n):(((Jj o n).toNat:Nat):Int)=Jj o n:=by have:=(JB b).1;omega
theorem jb6 (a b:Option Addr) (f T d U:Nat) (i m:Nat->Int) (c:Int) (L:World) (V:Rd L a f i) (W:Rd L b d m) (u:Dig i f) (H:Dig m d) (ad:f<=200000000) (Z:d<=200000000) (ho:0<=c/\c<=999999999) :
  Cl 251 #[.slice a f T,.slice b d U,.int .u64 c] L λe w'=>e=.returned (.bool (decide (Jj i f<Jj m d*c)))/\Bl L w':=by
 obtain⟨X,K⟩:=gn ((Jj i f).toNat);obtain⟨r,hY⟩:=gn ((Jj m d*c).toNat)
 have I:(X:Int)=Jj i f:=by rw[K];exact nat_sum u
 have J:(r:Int)=Jj m d*c:=by
  have:=Int.mul_nonneg (JB H).1 ho.1;omega
 rw[<- I,<- J];have u1:=IntWalk.u32_in c Zo;have M:=qh<|XR a f T i L V Zo;have G:=qh (λ(w':World) (v:Bl L w')=>jfs b d U m c w' (W.below v) H Z ho);rw[<- J] at G;have N:=qh u;have P:=qh I.symm;have lX:=qh (show Ja X<=f by rw[K];exact JW u);obtain⟨LX,z⟩:=gn (Ja X);have y:=qh z;clear V W u H K hY I J z;have aa:=Vq;go_enter func251,ntmps251;go_wp2_with fail
 refine M.o.mono ?_;rintro e w1 ⟨S,c1,rfl,h,Y,A⟩;have HO:=qh h;have C:=qh A;have j:=qh<|Zw false S f c1 i w1 h.rd N.o Zo h.le Y;rw[show(Jj i f).toNat=X by have:=P.o;omega,Bool.false_and,<- y.o] at j;clear h A Y M;go_wp2_with fail
 refine j.o.mono ?_;rintro e w2 ⟨rfl,p⟩;have E:=qh (XZ (HO.o.below p) N.o P.o).rd;have s:=qh<|C.o.trans (p.mono C.o.size);clear p j C;go_wp2_with fail
 refine(G.o _ s.o).mono ?_;rintro e w3 ⟨g,ab,rfl,x,hs,h,q⟩;have HP:=qh h;have O:=qh<|And.intro x hs;have D:=qh<|s.o.trans (q.mono s.o.size);have E:=qh<|E.o.below q;have j:=qh<|Zw false (some ⟨g,0,none⟩) (d+1) (d+1) ab w3 h.rd x Zo zj (λv=>by cases v);obtain⟨LY,o⟩:=gn (Ja r);rw[show(Jj ab (d+1)).toNat=r by omega,Bool.false_and,<- o] at j
 have lY:=qh (show Ja r<=d+1 by
  have:=JW x
  rwa [show(Jj ab (d+1)).toNat=r by omega] at this)
 have R:=qh o;clear h q G s x hs o;go_wp2_with fail
 refine j.o.mono ?_;rintro e w4 ⟨rfl,l⟩;have B:=qh<|XE X r S (some ⟨g,0,none⟩) (Ja X) (Ja r) w4 (E.o.below l) (XZ (HP.o.below l) O.o.1 O.o.2).rd (Zh lX) (Zh lY);rw[<- y.o,<- R.o] at B;have G4:=qh<|D.o.trans (l.mono D.o.size);clear l j D;go_wp2_with fail
 refine B.o.mono ?_;rintro e w5 ⟨rfl,ae,rfl⟩
 have ac:decide (Js (X:Int) (r:Int)<0)=decide ((X:Int)<(r:Int)):=by
  refine decide_eq_decide.2 ?_
  rcases Int.lt_trichotomy (X:Int) (r:Int) with v | v | v
  ·rw[JK v];omega
  ·rw[J7 v];omega
  ·rw[JS v];omega
 have Q:=qh ac;clear ac B;go_wp2;go_ret;exact⟨by rw[<- Q.o];rfl,QC G4.o ae⟩
end Limb
namespace Book
open Go.RowKit Go.Sort Go.FreshH Limb
variable {w w' w1 w2 wr:World} {base c cap ci i j k n t vb:Nat} {F X Y hv:Nat->Value} {a ai:Option Addr}
theorem jiw (b:j<=30000):0<=mk j/\mk j<=4294967295:=by unfold mk;omega
theorem jb7 (b:Nat) (d:World) (m:b<=30000):Cl 118 #[.int .i64 ((b:Int)+1)] d λe w'=>e=.returned (.int .u32 (mk b))/\w'=d:=by
 have f:=IntWalk.i64_in (1000+((b:Int)+1)) Zo;have h:=IntWalk.u32_in (1000+((b:Int)+1)) Zo
 have l:1000+((b:Int)+1)=mk b:=by unfold mk;omega
 go_enter func118,ntmps118;go_wp2;go_ret;exact⟨rfl,rfl⟩
theorem isL_any (f:Int) (b:Nat) (d:World) (o:b<=30000):Cl 130 #[.int .u32 f,.int .i64 ((b:Int)+1)] d λe w'=>e=.returned (.bool (f==mk b))/\w'=d:=by
 have h:=IntWalk.i64_in (1000+((b:Int)+1)) Zo;have l:=IntWalk.u32_in (1000+((b:Int)+1)) Zo
 have m:1000+((b:Int)+1)=mk b:=by unfold mk;omega
 go_enter func130,ntmps130;go_wp2;go_ret;exact⟨rfl,rfl⟩
def Yz (ν:Nat->Nat) (w:World) (vb k:Nat) (A:Nat->Option Addr) (N C:Nat->Nat) (X:Nat->Value):Prop :=
 ∃ m f,w.rowIs vb 127 m f/\∀ j,j<k->3*j+2<m/\f (3*j)=.slice (A j) (N j) (C j)/\f (3*j+1)=X j/\f (3*j+2)=.int .i64 ((ν j:Int)+1)
theorem Yz.cells {d:Nat->Nat} {q:Nat->Option Addr} {s r:Nat->Nat} (u:Yz d w vb k q s r X) (p:j<k) :
  w.cell? ⟨vb,j*3,none⟩=some (.slice (q j) (s j) (r j))/\w.cell? ⟨vb,j*3+1,none⟩=some (X j)/\w.cell? ⟨vb,j*3+2,none⟩=some (.int .i64 ((d j:Int)+1))/\(∀ i,w.frozen? ⟨vb,i,none⟩=false)/\vb<w.heap.size:=by
 obtain⟨x,f,b,o⟩:=u;obtain⟨v,h,l,m⟩:=o j p;rw[Nat.mul_comm j 3];exact⟨by rw[<- h];exact b.cell Zo,by rw[<- l];exact b.cell Zo,by rw[<- m];exact b.cell Zo,b.frozen,b.lt⟩
theorem Yz.keep {b:Nat->Nat} {l:Nat->Option Addr} {o m:Nat->Nat} (p:Yz b w vb k l o m X) (e:w'.heap[vb]?=w.heap[vb]?):Yz b w' vb k l o m X:=by
 obtain⟨q,f,h,d⟩:=p;exact⟨q,f,h.of_block e,d⟩
theorem Yz.lt {d:Nat->Nat} {h:Nat->Option Addr} {m l:Nat->Nat} (o:Yz d w vb k h m l X):vb<w.heap.size:=by
 obtain⟨q,f,b,p⟩:=o;exact b.lt
theorem Yz.jdl {d:Nat->Nat} {s:Nat->Option Addr} {x u:Nat->Nat} (y:Yz d w vb k s x u X) (b:Nat) (v:Value):Yz d (w.setCell ⟨vb,b*3+1,none⟩ v) vb k s x u (λj=>if j=b then v else X j):=by
 obtain⟨z,f,q,p⟩:=y;refine⟨z,_,q.set (b*3+1) v,λj r=>?_⟩;obtain⟨h,l,m,o⟩:=p j r;refine⟨h,?_,?_,?_⟩
 ·rw[if_neg Zo];exact l
 ·show(if 3*j+1=b*3+1 then v else f (3*j+1))=if j=b then v else X j
  by_cases e:j=b
  ·subst e;rw[if_pos Zo,if_pos rfl]
  ·rw[if_neg Zo,if_neg e];exact m
 ·rw[if_neg Zo];exact o
theorem Yz.congr {d:Nat->Nat} {m:Nat->Option Addr} {p o:Nat->Nat} (q:Yz d w vb k m p o X) (e:∀ j,j<k->X j=Y j):Yz d w vb k m p o Y:=by
 obtain⟨r,f,l,h⟩:=q;exact⟨r,f,l,λj b=>by rw[<- e j b];exact h j b⟩
theorem jj1 (b M k Q:Nat) (y:Nat->Option Addr) (H aa:Nat->Nat) (ah:Nat->Nat->Int) (f:Nat->Value) (h:Nat->Nat) (N:World) (hk:k<=30000) (Z:∀ j,j<k->h j<=30000) (hB:N.rowIs b 59 13 f) (hf:f 2=.slice (some ⟨M,0,none⟩) k Q)
  (hA:Yz h N M k y H aa (λ_=>.slice none 0 0)) (s:∀ j,j<k->Own 128 N 0 (y j) (H j) (aa j) (ah j)) (hN:∀ j,j<k->H j<=1000000000) (hS:¬UA k y b/\¬UA k y M) (hD:Part k y) :
  Cl 46 #[.pointer (some ⟨b,0,none⟩)] N λe w'=>(∃ v,e=.returned v)/\Touch (UA k y) N w'/\∀ j,j<k->Own 128 w' 0 (y j) (H j) (aa j) (λ_=>mk (h j)):=by
 have HF:=qh hf;have O:=qh Z;have HB:=qh hB;have HA:=qh hA;have HO:=qh s;have HS:=qh hS;have HD:=qh hD;have HN:=qh hN;clear hB hA s hS hD hN hf Z;go_enter func46,ntmps46;go_wp2;go_loopw [2] (λv wr=>∃ i:Nat,i<=k/\v=.int .i64 i/\Touch (UA k y) N wr/\∃ r:Nat->Nat->Int,(∀ j,j<k->Own 128 wr 0 (y j) (H j) (aa j) (r j))/\∀ j,j<i->∀ c,c<H j->r j c=mk (h j)) (λv _=>k-(intOf v).toNat)
 case atStart=>exact⟨0,Zo,rfl,Touch.refl _ _,ah,HO.o,λj m=>Zo⟩
 case round =>
  obtain⟨w1,rfl⟩:=gn wr;obtain⟨i,ak,rfl,J,r,T,hM⟩:=hrel;have KT:=qh J;have KO:=qh T;have KM:=qh hM;have KB:=qh<|HB.o.of_block (J.block _ HB.o.lt HS.o.1);have KA:=qh<|HA.o.keep (J.block _ HA.o.lt HS.o.2);clear J T hM
  have b2:w1.cell? ⟨b,2,none⟩=some (.slice (some ⟨M,0,none⟩) k Q):=by rw[<- HF.o];exact KB.o.cell (i:=2) Zo
  by_cases q:i<k
  ·obtain⟨a0,a1,a2,-,aq⟩:=KA.o.cells q;obtain⟨a,ha⟩:=gn (y i);obtain⟨n,L⟩:=gn (H i);obtain⟨c,d⟩:=gn (aa i);rw[<- ha,<- L,<- d] at a0;have EA:=qh ha;have D:=qh L;have EC:=qh d
   have an:n<=1000000000:=by rw[L];exact HN.o i q
   clear ha L d;go_wp2
   go_loopw [4] (λv C=>∃ t:Nat,t<=n/\v=.int .i64 t/\C.rowIs w1.heap.size 127 3 (hcell a n c (.slice none 0 0) ((h i:Int)+1))/\Touch (UA k y) N C /\
    ∃ r:Nat->Nat->Int,(∀ j,j<k->Own 128 C 0 (y j) (H j) (aa j) (r j))/\(∀ j,j<i->∀ c,c<H j->r j c=mk (h j))/\∀ c,c<t->r i c=mk (h i)) (λv _=>n-(intOf v).toNat)
   case atStart =>
    refine⟨0,Zo,rfl,?_,KT.o.alloc _,r,λj m=>(KO.o j m).below (zk.alloc zj _),KM.o,λc d=>Zo⟩
    have af:=World.rowIs_alloc w1 #[Value.slice a n c,Value.slice none 0 0,Value.int IntKind.i64 ((h i:Int)+1)] 127 (hcell a n c (.slice none 0 0) ((h i:Int)+1)) (λag hq=>by
     match ag,hq with
     | 0,_=>rfl
     | 1,_=>rfl
     | 2,_=>rfl)
    exact af
   case round =>
    obtain⟨t,ao,rfl,I,U,ab,z,R,S⟩:=hrel;have G:=qh U;have x:=qh z;have E:=qh<|And.intro R S;have u:=qh I;have ar:N.heap.size<=w1.heap.size:=KT.o.size;have ad:wr.cell? ⟨w1.heap.size,0,none⟩=some (.slice a n c):=I.cell (i:=0) Zo;have ae:wr.cell? ⟨w1.heap.size,2,none⟩=some (.int .i64 ((h i:Int)+1)):=I.cell (i:=2) Zo;clear I U z R S;by_cases ht:t<n
    ·obtain⟨g,hg⟩:=(x.o i q).QF (by rw[<- D.o];omega);obtain rfl:=EA.o.trans hg;have s:=x.o i q;rw[<- EA.o,<- D.o] at s;obtain⟨vo,V⟩:∃ vo,wr.cell? ⟨g,t,none⟩=some vo:=⟨_,s.cell ht⟩;have W:=s.fz;have B:=(s.blk rfl).2.2;have aj:g<N.heap.size:=((HO.o i q).blk hg).2.2;have P:=qh (λ(w':World) (K:Bl wr w')=>And.intro ((K.cell (p:=⟨w1.heap.size,0,none⟩) u.o.lt).trans ad) ((K.cell (p:=⟨w1.heap.size,2,none⟩) u.o.lt).trans ae));have am:w1.heap.size<wr.heap.size:=u.o.lt;clear s;go_wp2
     refine Ji 7 (JI [(5,Sp.know (.int .u32 (mk (h i))))]) (λw'=>Bl wr w') Zk Zk
      (Jb (Sp.Jk _) Jh) (λ_ _ af K=>af.trans (K.mono af.size)) (zk.drew) ?_
     simp only[zx,zy,zv,zw]
     iterate 5
      (refine Jy rfl rfl ?_ (λw' l=>?_) ?_;rotate_left;· (have A:=Has.world l;(have hs:=P.o _ A);clear l;go_simp;try rfl))
     (refine Jc rfl rfl (λw' l=>?_) ?_;· (have A:=Has.world l;go_simp;((refine(jb7 (h i) w' (O.o i q)).mono ?_;rintro e au ⟨rfl,rfl⟩;exact⟨_,rfl,rfl,zk⟩))))
     rintro _ rfl
     (refine Jy rfl rfl ?_ (λw' l=>?_) ?_;rotate_left;· (have A:=Has.world l;(skip);clear l;go_simp;try rfl))
     refine Jn (λw5 o ac=>?_);clear ac P;have u:=qh<|u.o.of_block (o.block _ u.o.lt);have G:=qh<|G.o.trans (Touch.of_below (o.mono zj));have x:=qh (λj m=>(x.o j m).below o);have V:=(o.cell (p:=⟨g,t,none⟩) B).trans V
     have W:=λag=>(o.frozen (p:=⟨g,ag,none⟩) B).trans (W ag)
     have ST:=qh<|own_step HD.o x.o q hg (by rw[<- D.o];exact ht) (jiw (O.o i q));clear o;go_wp2;go_roundw
     case rel =>
      refine⟨t+1,Zo,by go_num,u.o.setOther Zd _,G.o.setCell (p:=⟨g,t,none⟩) (Or.inl ⟨i,q,_,hg,rfl⟩) _,_,ST.o,?_,?_⟩
      ·intro j m c d;rw[if_neg Zo];exact E.o.1 j m c d
      ·intro c d;rw[if_pos rfl];by_cases e:c=t
       ·subst e;exact upd_same _ _ _
       ·rw[upd_ne _ _ e];exact E.o.2 c Zo
     case measure=>simp[intOf];omega
    ·obtain rfl:t=n:=Zo;go_wp2;go_roundw
     case rel =>
      refine⟨i+1,Zo,by go_num,G.o,ab,x.o,λj m c d=>?_⟩;by_cases e:j=i
      ·subst e;exact E.o.2 c (by rw[D.o];exact d)
      ·exact E.o.1 j Zo c d
     case measure=>simp[intOf];omega
  ·obtain rfl:i=k:=Zo;go_wp2_with fail
   (try simp only[Exit.inBlock,Exit.then])
   refine bodyPost_end (results_none rfl _ _ _) rfl ?_;exact⟨⟨_,rfl⟩,KT.o,λj m=>(KO.o j m).congr λc d=>KM.o j m c d⟩
structure jd6 (ν:Nat->Nat) (w wr:World) (vb k:Nat) (A:Nat->Option Addr) (N C:Nat->Nat) (i:Nat) (LA:Nat->Option Addr) (LC:Nat->Nat):Prop where
 tch:Touch (λg=>UA k A g\/g=vb) w wr
 arr:Yz ν wr vb k A N C (λj=>if j<i then .slice (LA j) (N j+40) (LC j) else .slice none 0 0)
 own:∀ j,j<k->Own 128 wr 0 (A j) (N j) (C j) (λ_=>mk (ν j))
 lng:∀ j,j<i->Own 128 wr 0 (LA j) (N j+40) (LC j) (λ_=>mk (ν j))/\(LA j=A j\/∃ g,LA j=some ⟨g,0,none⟩/\w.heap.size<=g)
theorem jel {v:Nat->Nat} {s LA:Nat->Option Addr} {B G A:Nat->Nat} (p:jd6 v w w1 vb k s B G i LA A) (o:i<k) (x:jg3 w1 wr (v i) (B i) (s i) (G i) 40 a c hv)
  (H:¬UA k s vb) (E:Part k s) (J:vb<w.heap.size) (D:∀ j,j<k->∀ d,s j=some d->d.block<w.heap.size) :
  jd6 v w (wr.setCell ⟨vb,i*3+1,none⟩ (.slice a (B i+40) c)) vb k s B G (i+1) (λj=>if j=i then a else LA j) (λj=>if j=i then c else A j):=by
 have I:=p.tch.size
 have m:∀ j,j<k->∀ d,s j=some d->d.block≠vb:=λj f d b e=>H ⟨j,f,d,b,e⟩
 refine⟨?_,?_,λj f=>?_,λj f=>?_⟩
 ·exact(p.tch.trans (x.tch.weak λr _ ⟨d,b,e⟩=>Or.inl ⟨i,o,d,b,e⟩)).setCell (p:=⟨vb,i*3+1,none⟩) (Or.inl (Or.inr rfl)) _
 ·refine((p.arr.keep (x.tch.block _ Zo (λ⟨d,b,e⟩=>m i o d b e))).jdl i _).congr λj f=>?_
  show(if j=i then _ else if j<i then _ else _)=(if j<i+1 then Value.slice (if j=i then a else LA j) _ (if j=i then c else A j) else _);by_cases e:j=i
  ·subst e;rw[if_pos rfl,if_pos Zo,if_pos rfl,if_pos rfl]
  ·rw[if_neg e,if_neg e,if_neg e];by_cases l:j<i
   ·rw[if_pos l,if_pos Zo]
   ·rw[if_neg l,if_neg Zo]
 ·have u:Own 128 wr 0 (s j) (B j) (G j) (λ_=>mk (v j)):=by
   by_cases e:j=i
   ·subst e;exact x.old
   ·exact(p.own j f).keep λd b=>x.tch.block _ (by have:=D j f d b;omega) (λ⟨r,h,q⟩=>E j f i o e d r b h q.symm)
  exact u.keep λd b=>Below.heap_setCell _ _ _ _ (m j f d b)
 ·by_cases e:j=i
  ·subst e;rw[if_pos rfl,if_pos rfl];refine⟨x.own.keep λd b=>Below.heap_setCell _ _ _ _ ?_,?_⟩
   ·rcases x.plc with ⟨l,_⟩ | ⟨g,l,y⟩
    ·exact m j o d (l▸b)
    ·rw[l] at b;cases b;dsimp only;omega
   ·rcases x.plc with ⟨l,_⟩ | ⟨g,l,y⟩
    ·exact .inl l
    ·exact .inr ⟨g,l,Zo⟩
  ·rw[if_neg e,if_neg e];obtain⟨u,C⟩:=p.lng j Zo
   have z:∀ d,LA j=some d->d.block≠vb/\∀ r,s i=some r->r.block≠d.block:=by
    intro d b
    rcases C with l | ⟨g,l,y⟩
    ·rw[l] at b;exact⟨m j Zo d b,λr h q=>E j Zo i o e d r b h q.symm⟩
    ·rw[l] at b;cases b
     exact⟨Zd,λr h=>by have:=D i o r h;dsimp only;omega⟩
   refine⟨(u.keep λd b=>x.tch.block _ (u.blk b).2.2 (λ⟨r,h,q⟩=>(z d b).2 r h q)).keep λd b=>Below.heap_setCell _ _ _ _ (z d b).1,C⟩
theorem jj2 (b l k s:Nat) (C:Nat->Option Addr) (N P:Nat->Nat) (f:Nat->Value) (d:Nat->Nat) (O:World) (hk:k<=30000) (E:∀ j,j<k->d j<=30000) (hB:O.rowIs b 59 13 f) (hf:f 2=.slice (some ⟨l,0,none⟩) k s)
  (J:Yz d O l k C N P (λ_=>.slice none 0 0)) (L:∀ j,j<k->Own 128 O 0 (C j) (N j) (P j) (λ_=>mk (d j))) (hN:∀ j,j<k->N j<=900000000) (hS:¬UA k C b/\¬UA k C l) (hD:Part k C) (aa:b≠l) :
  Cl 58 #[.pointer (some ⟨b,0,none⟩)] O λe w'=>(∃ v,e=.returned v)/\∃ LA q,jd6 d O w' l k C N P k LA q:=by
 have S:=qh hf;have D:=qh E;have R:=qh hB;have HA:=qh J;have HO:=qh L;have y:=qh hS;have HD:=qh hD;have HN:=qh hN;have T:=qh (And.intro J.lt λj hj M m=>((L j hj).blk (p:=M) m).2.2);clear hB J L hS hD hN hf E;go_enter func58,ntmps58;go_wp2;go_loopw [2] (λv wr=>∃ i:Nat,i<=k/\v=.int .i64 i/\∃ LA q,jd6 d O wr l k C N P i LA q) (λv _=>k-(intOf v).toNat)
 case atStart=>exact⟨0,Zo,rfl,λ_=>none,λ_=>0,Touch.refl _ _,HA.o.congr (λj _=>by rw[if_neg Zo]),HO.o,λj hj=>Zo⟩
 case round =>
  obtain⟨w1,rfl⟩:=gn wr;obtain⟨i,am,rfl,LA,q,K⟩:=hrel;have p:=qh K;have H:=qh<|R.o.of_block (K.tch.block _ R.o.lt (λag=>ag.elim y.o.1 (λag=>aa ag)));clear K
  have b2:w1.cell? ⟨b,2,none⟩=some (.slice (some ⟨l,0,none⟩) k s):=by rw[<- S.o];exact H.o.cell (i:=2) Zo
  by_cases h:i<k
  ·obtain⟨U,V,a2,-,ab⟩:=p.o.arr.cells h;rw[if_neg Zo] at V;obtain⟨n,u⟩:=gn (N i);obtain⟨ai,A⟩:=gn (C i);obtain⟨ci,B⟩:=gn (P i);rw[<- A,<- u,<- B] at U
   have ao:n<=900000000:=by rw[u];exact HN.o i h
   have G:=qh A;have Q:=qh u;have EC:=qh B
   have G0:=qh (show jg3 w1 (w1.alloc (.cells #[.slice ai n ci,.slice none 0 0,.int .i64 ((d i:Int)+1)] 127)) (d i) n ai ci 0 ai ci (hcell ai n ci (.slice none 0 0) ((d i:Int)+1)) from by
    have I:=p.o.own i h;rw[<- A,<- u,<- B] at I;have Z:=I.below (zk.alloc zj (.cells #[.slice ai n ci,.slice none 0 0,.int .i64 ((d i:Int)+1)] 127))
    exact⟨Z,Z,.inl ⟨rfl,rfl⟩,World.rowIs_alloc w1 #[Value.slice ai n ci,Value.slice none 0 0,Value.int IntKind.i64 ((d i:Int)+1)] 127 (hcell ai n ci (.slice none 0 0) ((d i:Int)+1)) (λau hq=>by
     match au,hq with
     | 0,_=>rfl
     | 1,_=>rfl
     | 2,_=>rfl),(Touch.refl _ _).alloc _,λM m=>(I.blk m).2.2⟩)
   clear A u B;go_wp2;go_loopw [4,5] (λv aj wr=>∃ t:Nat,t<=40/\aj=.int .i64 t/\∃ a c,v=.slice a (n+t) c/\jg3 w1 wr (d i) n ai ci t a c (hcell ai n ci (.slice none 0 0) ((d i:Int)+1))) (λ_ aj _=>40-(intOf aj).toNat)
   case atStart=>exact⟨0,Zo,rfl,ai,ci,rfl,G0.o⟩
   case round =>
    obtain⟨t,ah,rfl,a,c,rfl,z⟩:=hrel;have r:=qh z;have ak:wr.cell? ⟨w1.heap.size,2,none⟩=some (.int .i64 ((d i:Int)+1)):=z.box.cell (i:=2) Zo;have an:=z.box.lt;clear z;by_cases ht:t<40
    ·go_wp2_with (first
      | (go_at_call 118;refine(jb7 (d i) _ (D.o i h)).mono ?_;rintro e w2 ⟨rfl,ac⟩;obtain rfl:=ac.symm)
      | (at_builtin;refine Km rfl _ _ rfl (by rfl) (r.o.own.JD _) Zo (Nat.zero_le _) (v:=mk (d i)) (by rfl) ?c1 (jiw (D.o i h)) (by rfl) ?_))
     case c1=>simp
     intro a' c' w2 x o;have NI:=qh<|grow_step r.o x o;clear x o;go_wp2;go_roundw
     case rel=>exact⟨t+1,Zo,by go_num,a',c',rfl,NI.o⟩
     case measure=>simp[intOf];omega
    ·obtain rfl:t=40:=Zo;have W:=(r.o.tch.block _ (show b<w1.heap.size from H.o.lt) (λ⟨M,m,e⟩=>y.o.1 ⟨i,h,M,G.o▸m,e⟩))
     have b4:wr.cell? ⟨b,2,none⟩=some (.slice (some ⟨l,0,none⟩) k s):=by rw[<- S.o];exact(H.o.of_block W).cell (i:=2) Zo
     have v3:=(p.o.arr.keep (r.o.tch.block _ (show l<w1.heap.size from ab) (λ⟨M,m,e⟩=>y.o.2 ⟨i,h,M,G.o▸m,e⟩))).cells h;obtain⟨ad,ae,af,aq,ar⟩:=v3;rw[if_neg Zo] at ae;have HG:=qh<|jel p.o h (by rw[<- G.o,<- Q.o,<- EC.o];exact r.o) y.o.2 HD.o T.o.1 T.o.2;rw[<- Q.o] at HG;clear b2 W U V a2 ad af;go_wp2;go_roundw
     case rel=>exact⟨i+1,Zo,by go_num,_,_,HG.o⟩
     case measure=>simp[intOf];omega
  ·obtain rfl:i=k:=Zo;go_wp2_with fail
   (try simp only[Exit.inBlock,Exit.then])
   refine bodyPost_end (results_none rfl _ _ _) rfl ?_;exact⟨⟨_,rfl⟩,LA,q,p.o⟩
theorem jj3 (b L k u:Nat) (ac LA:Nat->Option Addr) (N ad C:Nat->Nat) (f:Nat->Value) (d:Nat->Nat) (M:World) (hk:k<=30000) (z:∀ j,j<k->d j<=30000) (U:M.rowIs b 59 13 f) (hf:f 2=.slice (some ⟨L,0,none⟩) k u)
  (T:Yz d M L k ac N ad (λj=>.slice (LA j) (N j+40) (C j))) (Z:∀ j,j<k->Own 128 M 0 (ac j) (N j) (ad j) (λ_=>mk (d j))) (V:∀ j,j<k->Own 128 M 0 (LA j) (N j+40) (C j) (λ_=>mk (d j))) (W:∀ j,j<k->N j<=900000000) :
  Cl 70 #[.pointer (some ⟨b,0,none⟩)] M λe w'=>e=.returned (.bool true)/\Bl M w':=by
 have HF:=qh hf;have R:=qh z;have Q:=qh U;have P:=qh T;have HO:=qh Z;have HL:=qh V;have HN:=qh W;clear U T Z V W hf z;go_enter func70,ntmps70;go_wp2;go_loopw [3] (λv wr=>∃ i:Nat,i<=k/\v=.int .i64 i/\Bl M wr) (λv _=>k-(intOf v).toNat)
 case atStart=>exact⟨0,Zo,rfl,zk⟩
 case round =>
  obtain⟨w1,rfl⟩:=gn wr;obtain⟨i,ah,rfl,q⟩:=hrel;have m:=qh q;have KB:=qh<|Q.o.of_block (q.block _ Q.o.lt);have KA:=qh<|P.o.keep (q.block _ P.o.lt);clear q
  have b2:w1.cell? ⟨b,2,none⟩=some (.slice (some ⟨L,0,none⟩) k u):=by rw[<- HF.o];exact KB.o.cell (i:=2) Zo
  by_cases o:i<k
  ·obtain⟨a0,a1,a2,-,am⟩:=KA.o.cells o;have D:=(HO.o i o).below m.o;have p:=(HL.o i o).below m.o;obtain⟨n,s⟩:=gn (N i);obtain⟨ai,ha⟩:=gn (ac i);obtain⟨ci,hc⟩:=gn (ad i);obtain⟨l,x⟩:=gn (C i);obtain⟨gq,y⟩:=p.QF Zo;rw[<- x,y,<- s] at p a1;rw[<- ha,<- s,<- hc] at a0 D
   have aj:n<=900000000:=by rw[s];exact HN.o i o
   have S:=qh D;have LL:=qh p;obtain⟨O,r⟩:=gn (w1.alloc (.cells #[.slice ai n ci,.slice (some ⟨gq,0,none⟩) (n+40) l,.int .i64 ((d i:Int)+1)] 127))
   have ae:=World.rowIs_alloc w1 #[Value.slice ai n ci,Value.slice (some ⟨gq,0,none⟩) (n+40) l,Value.int IntKind.i64 ((d i:Int)+1)] 127 (hcell ai n ci (.slice (some ⟨gq,0,none⟩) (n+40) l) ((d i:Int)+1)) (λan hq=>by
     match an,hq with
     | 0,_=>rfl
     | 1,_=>rfl
     | 2,_=>rfl)
   rw[<- r] at ae;have E:=qh<|bq r (zk.alloc zj _);have G:=qh<|show O.rowIs w1.heap.size 127 3 (hcell ai n ci (.slice (some ⟨gq,0,none⟩) (n+40) l) ((d i:Int)+1)) from ae;have HW:=qh r;have ag:=IntWalk.i64_in ((n:Int)+40) Zo;have ec:((n+40:Nat):Int)=(n:Int)+40:=Zo;clear ha s hc x D p ae r y
   go_upto_region 5 with (fail)
   rw[<- HW.o];have H:O.cell? ⟨w1.heap.size,0,none⟩=some (.slice ai n ci):=G.o.cell (i:=0) Zo;have I:O.cell? ⟨w1.heap.size,1,none⟩=some (.slice (some ⟨gq,0,none⟩) (n+40) l):=G.o.cell (i:=1) Zo;have J:O.cell? ⟨w1.heap.size,2,none⟩=some (.int .i64 ((d i:Int)+1)):=G.o.cell (i:=2) Zo;go_wp2;go_loopw [5] (λv wr=>∃ t:Nat,t<=n+40/\v=.int .i64 t/\∃ ab,wr=O.drewN ab) (λv _=>n+40-(intOf v).toNat)
   case atStart=>exact⟨0,Zo,rfl,0,rfl⟩
   case round =>
    obtain⟨t,ak,rfl,K⟩:=hrel;have A:=qh K
    have h:∀ af,wr.cell? af=O.cell? af:=by obtain⟨ab,rfl⟩:=K;intro af;rfl
    clear K;have g0:wr.cell? ⟨w1.heap.size,0,none⟩=some (.slice ai n ci):=(h _).trans H;have g1:wr.cell? ⟨w1.heap.size,1,none⟩=some (.slice (some ⟨gq,0,none⟩) (n+40) l):=(h _).trans I;have g2:wr.cell? ⟨w1.heap.size,2,none⟩=some (.int .i64 ((d i:Int)+1)):=(h _).trans J;have B:=qh (λ(v1:World)=>isL_any (mk (d i)) (d i) v1 (R.o i o));rw[show(mk (d i)==mk (d i))=true by simp] at B;by_cases ht:t<n+40
    ·have c1:wr.cell? ⟨gq,t,none⟩=some (.int .u32 (mk (d i))):=(h _).trans ((LL.o.below E.o).cell ht);have x1:(t:Int)<(n:Int)+40:=Zo;by_cases aa:t<n
     ·obtain⟨g,rfl⟩:=S.o.QF Zo;have c2:wr.cell? ⟨g,t,none⟩=some (.int .u32 (mk (d i))):=(h _).trans ((S.o.below E.o).cell aa);have x2:(t:Int)<(n:Int):=Zo;clear h H I J;go_wp2;go_quiet (first | with_reducible exact Yn (B.o _));go_wp2;go_roundw
      case rel=>exact⟨t+1,Zo,by go_num,by obtain⟨ab,e⟩:=A.o;exact⟨_,by rw[e,World.drewN_drewN]⟩⟩
      case measure=>simp[intOf];omega
     ·have x2:¬(t:Int)<(n:Int):=Zo;clear h H I J;go_wp2;go_quiet (first | with_reducible exact Yn (B.o _));go_wp2;go_roundw
      case rel=>exact⟨t+1,Zo,by go_num,by obtain⟨ab,e⟩:=A.o;exact⟨_,by rw[e,World.drewN_drewN]⟩⟩
      case measure=>simp[intOf];omega
    ·have x1:¬(t:Int)<(n:Int)+40:=Zo;obtain rfl:t=n+40:=Zo;go_wp2;go_roundw
     case rel=>exact⟨i+1,Zo,by go_num,by obtain⟨ab,e⟩:=A.o;rw[e];exact QC (m.o.trans (E.o.mono m.o.size)) _⟩
     case measure=>simp[intOf];omega
  ·obtain rfl:i=k:=Zo;go_wp2;go_ret;exact⟨rfl,m.o⟩
theorem info8T:(prog.info? 37).map (λi=>(i.zero,i.size,i.bytes))=some (some (.agg #[.bool false,.slice none 0 0,.bool false,.slice none 0 0,.int .u16 0,.int .u16 0,.int .u16 0,.int .u16 0]),8,72):=by kernel_rfl
def vcs (F:Nat->Value) (k:Nat):List Value:=(List.range k).map F
theorem QO (b:Nat->Value) (k:Nat):(vcs b k).length=k:=by unfold vcs;rw[List.length_map,List.length_range]
theorem UC (b:Nat->Value) (d:i<k):(vcs b k)[i]?=some (b i):=by unfold vcs;rw[List.getElem?_map,List.getElem?_range d];rfl
theorem jam {v:Value} (d:(vcs F k)[i]?=some v):i<k/\v=F i:=by
 have b:=(List.getElem?_eq_some_iff.1 d).1;rw[QO] at b;rw[UC F b] at d;exact⟨b,(Option.some.inj d).symm⟩
def UD (F:Nat->Value) (n:Nat) (m:Nat->Value) (i:Nat):Value:=if i<n*8 then F i else m (i-n*8)
theorem push_get {b:Nat->Value} (d:i<(n+1)*8):(vcs F (n*8)++vcs b 8)[i]?=some (UD F n b i):=by
 unfold UD;by_cases e:i<n*8
 ·rw[List.getElem?_append_left (by rw[QO];exact e),UC F e,if_pos e]
 ·rw[List.getElem?_append_right (by rw[QO];omega),QO,UC b Zo,if_neg e]
theorem jj4 (V:Qe w base a n cap F) (hn:n<=1000000000) (Q:base<=w.heap.size) {q:Nat} {b:Nat->Value} (R:∀ i,i<8->w.cell? ⟨q,i,none⟩=some (b i)) (O:∀ i,i<8->(b i).oneCell'=true) (A Z N:Nat) (T:Z=1) :
  ∃ z o w',(Builtin.append_ #[22,22] A #[.slice a n cap,.slice (some ⟨q,0,none⟩) Z N]).run prog w=.ok (.slice z (n+1) o) w'/\Qe w' base z (n+1) o (UD F n b) /\
   ((z=a/\o=cap/\w.grownBy w' (a.map (·.block)))\/((∃ g,z=some ⟨g,0,none⟩/\w.heap.size<=g)/\w.grownBy w' none/\cap<n+1)):=by
 subst T;obtain⟨I,r,C,f,D⟩:=info_parts info8T
 have m:∀ j y,(vcs b 8)[j]?=some y->w.cell? ((⟨q,0,none⟩:Addr).add j)=some y:=by
  intro j y u;obtain⟨E,rfl⟩:=jam u;rw[Addr.add_lit,Nat.zero_add];exact R j E
 have H:∀ y∈vcs b 8,y.oneCell'=true:=λy U=>by
  obtain⟨j,u⟩:=List.mem_iff_getElem?.1 U;obtain⟨E,rfl⟩:=jam u;exact O j E
 have M:∀ k,(Builtin.zeroCells (Value.agg #[.bool false,.slice none 0 0,.bool false,.slice none 0 0,.int .u16 0,.int .u16 0,.int .u16 0,.int .u16 0]).cells k).size=k*8:=λk=>by rw[size_zeroCells];rfl
 have d:∀ l,l<n+1->Qe (w.drew.alloc (.cells ((vcs F (n*8)).toArray++(vcs b 8).toArray++Builtin.zeroCells (Value.agg #[.bool false,.slice none 0 0,.bool false,.slice none 0 0,.int .u16 0,.int .u16 0,.int .u16 0,.int .u16 0]).cells (grownCap w (n+1) l 37-(n+1))) 37)) base (some ⟨w.heap.size,0,none⟩) (n+1) (grownCap w (n+1) l 37) (UD F n b) /\
   w.grownBy (w.drew.alloc (.cells ((vcs F (n*8)).toArray++(vcs b 8).toArray++Builtin.zeroCells (Value.agg #[.bool false,.slice none 0 0,.bool false,.slice none 0 0,.int .u16 0,.int .u16 0,.int .u16 0,.int .u16 0]).cells (grownCap w (n+1) l 37-(n+1))) 37)) none:=by
  intro l ho;have K:=grownCap_ge w (n+1) l 37;refine⟨⟨K,Or.inr ⟨w.heap.size,_,rfl,Q,heap_alloc_new w.drew _,?_,λi r=>?_⟩⟩,⟨rfl,rfl,rfl,by simp,λk G _=>heap_alloc_old w.drew _ G⟩⟩
  ·rw[Array.size_append,Array.size_append,List.size_toArray,List.size_toArray,QO,QO,M];omega
  ·rw[Array.getElem?_append_left (by rw[Array.size_append,List.size_toArray,List.size_toArray,QO,QO];omega),<- Array.getElem?_toList,Array.toList_append];exact push_get r
 rcases V.place with ⟨rfl,rfl,rfl⟩ | ⟨g,s,rfl,J,hg,S,B⟩
 ·have x:=run_append_nil (P:=prog) w 22 A 37 I _ underlying22 r C ⟨q,0,none⟩ 1 N (vcs b 8) (by rw[f,QO]) m Zo Zo (by rw[D];omega);have h:=d 0 Zo;simp only[Nat.zero_add,Nat.zero_mul,vcs,List.range_zero,List.map_nil,Array.empty_append] at h;exact⟨_,_,_,x,h.1,Or.inr ⟨⟨_,rfl,zj⟩,h.2,Zo⟩⟩
 ·by_cases p:n+1<=cap
  ·have x:=run_append_room (P:=prog) w 22 A 37 I underlying22 r g n cap s hg ⟨q,0,none⟩ 1 N (vcs b 8) (by rw[f,QO]) m H p (by rw[f,QO];omega);refine⟨_,_,_,x,⟨p,Or.inr ⟨g,_,rfl,J,setRow_heap w g s _ _ _ hg,?_,λi r=>?_⟩⟩,Or.inl ⟨rfl,rfl,⟨rfl,rfl,rfl,by simp,λk _ G=>setRow_other w g k _ (λe=>G (by simp[e]))⟩⟩⟩
   ·simp only[List.size_toArray,List.length_append,List.length_take,List.length_drop,Array.length_toList,QO,f];omega
   ·rw[f,List.getElem?_toArray,List.append_assoc]
    have v:(s.toList.take (n*8)).length=n*8:=by rw[List.length_take,Array.length_toList];omega
    unfold UD;by_cases e:i<n*8
    ·rw[List.getElem?_append_left (by rw[v];exact e),List.getElem?_take,if_pos e,Array.getElem?_toList,B i e,if_pos e]
    ·rw[List.getElem?_append_right (by rw[v];omega),v,List.getElem?_append_left (by rw[QO];omega),UC b Zo,if_neg e]
  ·have holds:∀ j y,(vcs F (n*8))[j]?=some y->w.cell? ((⟨g,0,none⟩:Addr).add j)=some y:=by
    intro j y u;obtain⟨L,rfl⟩:=jam u;rw[Addr.add_lit,Nat.zero_add,cell_of_row _ _ _ _ _ _ hg];exact B j L
   have W:=V.le;have x:=run_append_grow (P:=prog) w 22 A 37 I _ underlying22 r C ⟨g,0,none⟩ n cap (vcs F (n*8)) (by rw[QO,f]) holds ⟨q,0,none⟩ 1 N (vcs b 8) (by rw[f,QO]) m Zo Zo (growslice_fits Zo (by rw[D];omega));have h:=d cap Zo;exact⟨_,_,_,x,h.1,Or.inr ⟨⟨_,rfl,zj⟩,h.2,Zo⟩⟩
theorem jcy {m:Array Oper} {rest:List Oper} {h:Oper} {l:Act} {J:Exit->Act->World->Prop} (r:h.guard=none) (L M:Operand)
  (C:h.op=.call { callee:=.builtin .append,args:=#[L,M],argTypes:=#[22,22] })
  {o:World} {base:Nat} {a:Option Addr} {n d:Nat} {I:Nat->Value} (E:l.eval L=.slice a n d) (N:Qe o base a n d I) (B:n<=1000000000) (y:base<=o.heap.size)
  {p:Nat} {mm:Nat->Value} {H K:Nat} (G:l.eval M=.slice (some ⟨p,0,none⟩) H K) (z:∀ i,i<8->o.cell? ⟨p,i,none⟩=some (mm i)) (s:∀ i,i<8->(mm i).oneCell'=true) (A:H=1)
  (x:∀ f b w',Qe w' base f (n+1) b (UD I n mm)->((f=a/\b=d/\o.grownBy w' (a.map (·.block)))\/((∃ g,f=some ⟨g,0,none⟩/\o.heap.size<=g)/\o.grownBy w' none/\d<n+1)) ->
   wpList prog m J rest (l.put h.dst (.slice f (n+1) b)) w'):wpList prog m J (h :: rest) l o:=by
 refine wpList_plain r λO q=>?_
 obtain⟨f,b,w',D,u,v⟩:=jj4 N B y z s h.type H K A;unfold Oper.wp execOp;simp only[C,resolve,invoke,builtin,Sem.run_bind,Sem.run_pure,Result.andThen_ok,List.map_toArray,List.map_cons,List.map_nil,E,G,D];exact q _ _ (x _ _ _ u v)
theorem Yo.congr {d:Nat->Nat} {m:Nat->Option Addr} {p o:Nat->Nat} (q:Yo d w vb k m p o X) (e:∀ j,j<k->X j=Y j):Yo d w vb k m p o Y:=by
 obtain⟨r,f,l,h⟩:=q;exact⟨r,f,l,λj b=>by rw[<- e j b];exact h j b⟩
def mcf (j:Nat):Nat->Value:=λc=>mc j (c%8)
theorem mc_one (d b:Nat) (_:b<8):(mc d b).oneCell'=true:=by
 unfold mc
 split <;> rfl
theorem mc_cell (d:World) (f:Nat) {b:Nat} (h:b<8):(d.alloc (.cells #[.bool false,.slice none 0 0,.bool false,.slice none 0 0,.int .u16 ((f:Int)+2),.int .u16 0,.int .u16 0,.int .u16 0] 37)).cell? ⟨d.heap.size,b,none⟩=some (mc f b):=by
 rw[cell_of_row _ _ _ _ _ _ (heap_alloc_new d _)]
 match b,h with
 | 0,_=>rfl
 | 1,_=>rfl
 | 2,_=>rfl
 | 3,_=>rfl
 | 4,_=>rfl
 | 5,_=>rfl
 | 6,_=>rfl
 | 7,_=>rfl
structure Yp (w1 wr:World) (i n:Nat) (ai:Option Addr) (ci t:Nat) (a:Option Addr) (c:Nat) (hv:Nat->Value):Prop where
 own:Qe wr 0 a (n+t) c (mcf i)
 old:Qe wr 0 ai n ci (mcf i)
 plc:(a=ai/\c=ci)\/∃ g,a=some ⟨g,0,none⟩/\w1.heap.size<g
 box:wr.rowIs w1.heap.size 120 3 hv
 tch:Touch (λg=>∃ p,ai=some p/\p.block=g) w1 wr
 olt:∀ p,ai=some p->p.block<w1.heap.size
theorem Yp.below (d:Yp w1 wr i n ai ci t a c hv) (b:Bl wr w2):Yp w1 w2 i n ai ci t a c hv :=
 ⟨d.own.below b,d.old.below b,d.plc,d.box.of_block (b.block _ d.box.lt),d.tch.trans (Touch.of_below b),d.olt⟩
theorem Qe.less {q:Nat} (r:Qe w base a n cap F) (m:q<=n):Qe w base a q cap F:=by
 refine⟨zm m r.le,?_⟩
 rcases r.place with ⟨h,s,l⟩ | ⟨g,d,o,f,hg,b,p⟩
 ·exact Or.inl ⟨h,Zo,l⟩
 ·exact Or.inr ⟨g,d,o,f,hg,b,λi u=>p i Zo⟩
theorem jg5 {u:Nat} {f:Option Addr} {o:Obj} (p:Yp w1 wr i n ai ci t a c hv) (y:Qe w2 0 f (n+t+1) u (UD (mcf i) (n+t) (mc i)))
  (v:(f=a/\u=c/\(wr.alloc o).grownBy w2 (a.map (·.block)))\/((∃ g,f=some ⟨g,0,none⟩/\wr.heap.size+1<=g)/\(wr.alloc o).grownBy w2 none/\c<n+t+1)) :
  Yp w1 w2 i n ai ci (t+1) f u hv:=by
 have b:Qe w2 0 f (n+(t+1)) u (mcf i):=y.congr λz d=>by unfold UD mcf;split;rfl;rw[show z-(n+t)*8=z%8 by omega]
 have B:=p.tch.size;have A:=p.box.lt
 have r:Qe (wr.alloc o) 0 ai n ci (mcf i):=p.old.keep λs q=>Below.heap_alloc _ _ _ (by have:=p.olt s q;omega)
 have l:(wr.alloc o).rowIs w1.heap.size 120 3 hv:=p.box.alloc o;have m:=p.tch.alloc o
 rcases v with ⟨rfl,rfl,hg⟩ | ⟨⟨g,rfl,x⟩,hg,-⟩
 ·rcases p.plc with ⟨rfl,rfl⟩ | ⟨g,rfl,x⟩
  ·refine⟨b,b.less Zo,.inl ⟨rfl,rfl⟩,l.of_block (hg.block _ (by simp;omega) (λe=>?_)),m.grown hg (λz d=>?_),p.olt⟩
   ·cases h:f with
    | none=>rw[h] at e;cases e
    | some s=>rw[h] at e;simp at e;have:=p.olt s h;omega
   ·cases h:f with
    | none=>rw[h] at d;cases d
    | some s=>rw[h] at d;simp at d;exact .inl ⟨s,rfl,d⟩
  ·refine⟨b,r.keep (λs q=>hg.block _ (by have:=p.olt s q;simp;omega) (λe=>by have:=p.olt s q;simp at e;omega)),.inr ⟨g,rfl,x⟩,l.of_block (hg.block _ (by simp;omega) (λe=>by simp at e;omega)),
    m.grown hg (λz d=>.inr (by simp at d;omega)),p.olt⟩
 ·refine⟨b,r.keep (λs q=>hg.block _ (by have:=p.olt s q;simp;omega) (λe=>by cases e)),.inr ⟨g,rfl,Zo⟩,l.of_block (hg.block _ (by simp;omega) (λe=>by cases e)),
   m.grown hg (λz d=>by cases d),p.olt⟩
structure jd7 (ν:Nat->Nat) (w wr:World) (vb k:Nat) (A:Nat->Option Addr) (N C:Nat->Nat) (i:Nat) (LA:Nat->Option Addr) (LC:Nat->Nat):Prop where
 tch:Touch (λg=>UA k A g\/g=vb) w wr
 arr:Yo ν wr vb k A N C (λj=>if j<i then .slice (LA j) (N j+40) (LC j) else .slice none 0 0)
 own:∀ j,j<k->Qe wr 0 (A j) (N j) (C j) (mcf (ν j))
 lng:∀ j,j<i->Qe wr 0 (LA j) (N j+40) (LC j) (mcf (ν j))/\(LA j=A j\/∃ g,LA j=some ⟨g,0,none⟩/\w.heap.size<=g)
theorem jem {v:Nat->Nat} {s LA:Nat->Option Addr} {B G A:Nat->Nat} (p:jd7 v w w1 vb k s B G i LA A) (o:i<k) (x:Yp w1 wr (v i) (B i) (s i) (G i) 40 a c hv)
  (H:¬UA k s vb) (E:Part k s) (J:vb<w.heap.size) (D:∀ j,j<k->∀ d,s j=some d->d.block<w.heap.size) :
  jd7 v w (wr.setCell ⟨vb,i*3+1,none⟩ (.slice a (B i+40) c)) vb k s B G (i+1) (λj=>if j=i then a else LA j) (λj=>if j=i then c else A j):=by
 have I:=p.tch.size
 have m:∀ j,j<k->∀ d,s j=some d->d.block≠vb:=λj f d b e=>H ⟨j,f,d,b,e⟩
 refine⟨?_,?_,λj f=>?_,λj f=>?_⟩
 ·exact(p.tch.trans (x.tch.weak λr _ ⟨d,b,e⟩=>Or.inl ⟨i,o,d,b,e⟩)).setCell (p:=⟨vb,i*3+1,none⟩) (Or.inl (Or.inr rfl)) _
 ·refine((p.arr.keep (x.tch.block _ Zo (λ⟨d,b,e⟩=>m i o d b e))).jdl i _).congr λj f=>?_
  show(if j=i then _ else if j<i then _ else _)=(if j<i+1 then Value.slice (if j=i then a else LA j) _ (if j=i then c else A j) else _);by_cases e:j=i
  ·subst e;rw[if_pos rfl,if_pos Zo,if_pos rfl,if_pos rfl]
  ·rw[if_neg e,if_neg e,if_neg e];by_cases l:j<i
   ·rw[if_pos l,if_pos Zo]
   ·rw[if_neg l,if_neg Zo]
 ·have u:Qe wr 0 (s j) (B j) (G j) (mcf (v j)):=by
   by_cases e:j=i
   ·subst e;exact x.old
   ·exact(p.own j f).keep λd b=>x.tch.block _ (by have:=D j f d b;omega) (λ⟨r,h,q⟩=>E j f i o e d r b h q.symm)
  exact u.keep λd b=>Below.heap_setCell _ _ _ _ (m j f d b)
 ·by_cases e:j=i
  ·subst e;rw[if_pos rfl,if_pos rfl];refine⟨x.own.keep λd b=>Below.heap_setCell _ _ _ _ ?_,?_⟩
   ·rcases x.plc with ⟨l,_⟩ | ⟨g,l,y⟩
    ·exact m j o d (l▸b)
    ·rw[l] at b;cases b;dsimp only;omega
   ·rcases x.plc with ⟨l,_⟩ | ⟨g,l,y⟩
    ·exact .inl l
    ·exact .inr ⟨g,l,Zo⟩
  ·rw[if_neg e,if_neg e];obtain⟨u,C⟩:=p.lng j Zo
   have z:∀ d,LA j=some d->d.block≠vb/\∀ r,s i=some r->r.block≠d.block:=by
    intro d b
    rcases C with l | ⟨g,l,y⟩
    ·rw[l] at b;exact⟨m j Zo d b,λr h q=>E j Zo i o e d r b h q.symm⟩
    ·rw[l] at b;cases b
     exact⟨Zd,λr h=>by have:=D i o r h;dsimp only;omega⟩
   refine⟨(u.keep λd b=>x.tch.block _ (u.blk b).2.2 (λ⟨r,h,q⟩=>(z d b).2 r h q)).keep λd b=>Below.heap_setCell _ _ _ _ (z d b).1,C⟩
theorem jb8 (b h k s:Nat) (D:Nat->Option Addr) (P R:Nat->Nat) (f:Nat->Value) (d:Nat->Nat) (Q:World) (hk:k<=30000) (G:∀ j,j<k->d j<=30000) (hB:Q.rowIs b 59 13 f) (hf:f 6=.slice (some ⟨h,0,none⟩) k s)
  (L:Yo d Q h k D P R (λ_=>.slice none 0 0)) (N:∀ j,j<k->Qe Q 0 (D j) (P j) (R j) (mcf (d j))) (hN:∀ j,j<k->P j<=100000000) (hS:¬UA k D b/\¬UA k D h) (hD:Part k D) (aa:b≠h) :
  Cl 62 #[.pointer (some ⟨b,0,none⟩)] Q λe w'=>(∃ v,e=.returned v)/\∃ LA r,jd7 d Q w' h k D P R k LA r:=by
 have U:=qh hf;have V:=qh G;have T:=qh hB;have HA:=qh L;have HO:=qh N;have z:=qh hS;have HD:=qh hD;have HN:=qh hN;have W:=qh (And.intro L.lt λj hj H o=>((N j hj).blk (p:=H) o).2.2);clear hB L N hS hD hN hf G;go_enter func62,ntmps62;go_wp2;go_loopw [2] (λv wr=>∃ i:Nat,i<=k/\v=.int .i64 i/\∃ LA r,jd7 d Q wr h k D P R i LA r) (λv _=>k-(intOf v).toNat)
 case atStart=>exact⟨0,Zo,rfl,λ_=>none,λ_=>0,Touch.refl _ _,HA.o.congr (λj _=>by rw[if_neg Zo]),HO.o,λj hj=>Zo⟩
 case round =>
  obtain⟨w1,rfl⟩:=gn wr;obtain⟨i,ak,rfl,LA,r,M⟩:=hrel;have q:=qh M;have J:=qh<|T.o.of_block (M.tch.block _ T.o.lt (λag=>ag.elim z.o.1 (λag=>aa ag)));clear M
  have b2:w1.cell? ⟨b,6,none⟩=some (.slice (some ⟨h,0,none⟩) k s):=by rw[<- U.o];exact J.o.cell (i:=6) Zo
  by_cases l:i<k
  ·obtain⟨Z,a1,a2,-,ac⟩:=q.o.arr.cells l;rw[if_neg Zo] at a1;obtain⟨n,x⟩:=gn (P i);obtain⟨ai,B⟩:=gn (D i);obtain⟨ci,C⟩:=gn (R i);rw[<- B,<- x,<- C] at Z
   have am:n<=100000000:=by rw[x];exact HN.o i l
   have I:=qh B;have S:=qh x;have EC:=qh C
   have G0:=qh (show Yp w1 (w1.alloc (.cells #[.slice ai n ci,.slice none 0 0,.int .i64 ((d i:Int)+1)] 120)) (d i) n ai ci 0 ai ci (hcell ai n ci (.slice none 0 0) ((d i:Int)+1)) from by
    have K:=q.o.own i l;rw[<- B,<- x,<- C] at K;have h2:=K.below (zk.alloc zj (.cells #[.slice ai n ci,.slice none 0 0,.int .i64 ((d i:Int)+1)] 120))
    exact⟨h2,h2,.inl ⟨rfl,rfl⟩,World.rowIs_alloc w1 #[Value.slice ai n ci,Value.slice none 0 0,Value.int IntKind.i64 ((d i:Int)+1)] 120 (hcell ai n ci (.slice none 0 0) ((d i:Int)+1)) (λan O=>by
     match an,O with
     | 0,_=>rfl
     | 1,_=>rfl
     | 2,_=>rfl),(Touch.refl _ _).alloc _,λH o=>(K.blk o).2.2⟩)
   clear B x C;go_wp2;go_loopw [4,5] (λv aj wr=>∃ t:Nat,t<=40/\aj=.int .i64 t/\∃ a c,v=.slice a (n+t) c/\Yp w1 wr (d i) n ai ci t a c (hcell ai n ci (.slice none 0 0) ((d i:Int)+1))) (λ_ aj _=>40-(intOf aj).toNat)
   case atStart=>exact⟨0,Zo,rfl,ai,ci,rfl,G0.o⟩
   case round =>
    obtain⟨t,ah,rfl,a,c,rfl,A⟩:=hrel;have m:=qh A;have E:wr.cell? ⟨w1.heap.size,2,none⟩=some (.int .i64 ((d i:Int)+1)):=A.box.cell (i:=2) Zo;have ab:=A.box.lt;clear A;by_cases ht:t<40
    ·go_wp2_with fail
     with_reducible refine(jb4 (d i) wr (V.o i l)).mono ?_
     rintro e w9 ⟨rfl,u⟩;have m:=qh<|m.o.below u;have E:=(u.cell (p:=⟨w1.heap.size,2,none⟩) ab).trans E;clear u
     go_wp2_with (first
      | (at_builtin;refine jcy rfl _ _ rfl (by rfl) (m.o.own.below (zk.alloc zj _)) Zo (Nat.zero_le _) (mm:=mc (d i)) (by rfl) ?c1 (mc_one (d i)) (by rfl) ?_))
     case c1=>exact λan O=>mc_cell w9 (d i) O
     intro a' c' w2 y p;have NI:=qh<|jg5 m.o y p;clear y p;go_wp2;go_roundw
     case rel=>exact⟨t+1,Zo,by go_num,a',c',rfl,NI.o⟩
     case measure=>simp[intOf];omega
    ·obtain rfl:t=40:=Zo;have b3:=(m.o.tch.block _ (show b<w1.heap.size from J.o.lt) (λ⟨H,o,e⟩=>z.o.1 ⟨i,l,H,I.o▸o,e⟩))
     have b4:wr.cell? ⟨b,6,none⟩=some (.slice (some ⟨h,0,none⟩) k s):=by rw[<- U.o];exact(J.o.of_block b3).cell (i:=6) Zo
     have v3:=(q.o.arr.keep (m.o.tch.block _ (show h<w1.heap.size from ac) (λ⟨H,o,e⟩=>z.o.2 ⟨i,l,H,I.o▸o,e⟩))).cells l;obtain⟨ad,ae,af,ao,aq⟩:=v3;rw[if_neg Zo] at ae;have HG:=qh<|jem q.o l (by rw[<- I.o,<- S.o,<- EC.o];exact m.o) z.o.2 HD.o W.o.1 W.o.2;rw[<- S.o] at HG;clear b2 b3 Z a1 a2 ad af;go_wp2;go_roundw
     case rel=>exact⟨i+1,Zo,by go_num,_,_,HG.o⟩
     case measure=>simp[intOf];omega
  ·obtain rfl:i=k:=Zo;go_wp2_with fail
   (try simp only[Exit.inBlock,Exit.then])
   refine bodyPost_end (results_none rfl _ _ _) rfl ?_;exact⟨⟨_,rfl⟩,LA,r,q.o⟩
def held (a:Option Addr) (n c k:Nat):List Value:=[.slice a n c,.slice none 0 0,.int .i64 ((k:Int)+1)]
theorem jfv {f b:List Value} {d h:Nat} (o:d<=f.length) (l:b.length=h):(f.take d++b++f.drop (d+h)).take (d+h)=f.take d++b:=by
 have m:(f.take d++b).length=d+h:=by simp[l];omega
 rw[<- m];exact List.take_left
theorem Yq {y:World->World->Prop} {l:Program} {o:Oper} {a:Act} {h d:World} {b:Value->World->Prop} {v u r:Value} (z A:Operand) (f:TypeId)
  (p:o.op=.call { callee:=.builtin .append,args:=#[z,A],argTypes:=#[f,f] }) (s:a.eval z=v) (x:a.eval A=u)
  (q:(Builtin.append_ #[f,f] o.type #[v,u]).run l h=.ok r d) (m:b r d/\y h d):JC l y h b ((execOp a.eval o).run l h):=by
 unfold execOp;simp only[p,resolve,invoke,builtin,Sem.run_bind,Sem.run_pure,Result.andThen_ok,List.map_toArray,List.map_cons,List.map_nil,s,x,q];exact m
end Book
namespace Limb
open Go.RowKit Go.Sort Go.FreshH
theorem jj5:(prog.info? 128).map (·.size)=some 1:=by kernel_rfl
theorem jfw {s:World} {base d E u i m:Nat} {up r:Nat->Int} {a:Option Addr} (G:Own 128 s base (some ⟨d,0,none⟩) E u up) (Q:i+m<=E) (N:0<m) (C:Rd s a m r) (D l o:Nat) :
  ∃ v w',(Builtin.copy_ #[28,28] D #[.slice (some ⟨d,i,none⟩) m l,.slice a m o]).run prog s=.ok v w'/\Own 128 w' base (some ⟨d,0,none⟩) E u (splice up i m r)/\s.grownBy w' (some d):=by
 obtain⟨b,off,rfl,K⟩:=C.cells N
 rcases G.place with H | ⟨g,f,J,z,hg,L,p⟩
 ·cases H.1
 cases J
 have B:=G.le
 have q:=run_copy_row (P:=prog) s 28 28 D 128 d i m l ⟨b,off,none⟩ m o f 128 (ucs r m) underlying28 jj5 hg (by rw[Qm];exact(Nat.min_self m).symm)
  (by
   intro j R M;obtain⟨A,rfl⟩:=ZT M;rw[Addr.add_lit]
   exact K j A) (by rw[Qm];omega) jdg
 refine⟨_,_,q,⟨B,Or.inr ⟨d,_,rfl,z,setRow_heap s d f _ _ _ hg,?_,λk h=>?_⟩,λk h=>?_⟩,⟨rfl,rfl,rfl,by simp,λk _ h=>setRow_other s d k _ (λe=>h (by simp[e]))⟩⟩
 ·simp only[List.size_toArray,List.length_append,List.length_take,List.length_drop,Array.length_toList,Qm];omega
 ·rw[List.getElem?_toArray,Qm]
  have y:(f.toList.take i).length=i:=by simp;omega
  have I:(f.toList.take i++ucs r m).length=i+m:=by rw[List.length_append,y,Qm]
  by_cases x:k<i
  ·rw[List.getElem?_append_left Zo,List.getElem?_append_left Zo,List.getElem?_take,if_pos x,Array.getElem?_toList,p k h];show some (Value.int .u32 (up k))=some (Value.int .u32 (splice up i m r k));rw[Xb (Or.inl x)]
  ·by_cases O:k<i+m
   ·obtain⟨j,rfl⟩:∃ j,k=i+j:=⟨k-i,Zo⟩;rw[List.getElem?_append_left Zo,List.getElem?_append_right Zo,y,Nat.add_sub_cancel_left,Yl _ _ _ Zo];show some (Value.int .u32 (r j))=some (Value.int .u32 (splice up i m r (i+j)));rw[ZL Zo]
   ·rw[List.getElem?_append_right Zo,I,List.getElem?_drop,show i+m+(k-(i+m))=k by omega,Array.getElem?_toList,p k h];show some (Value.int .u32 (up k))=some (Value.int .u32 (splice up i m r k));rw[Xb (Or.inr Zo)]
 ·by_cases e:i<=k/\k<i+m
  ·obtain⟨j,rfl⟩:∃ j,k=i+j:=⟨k-i,Zo⟩;rw[ZL Zo];exact C.rng j Zo
  ·rw[Xb Zo];exact G.rng k h
theorem ja0 (b:Array Value) (d:World):(callFunc 250 b).run prog d=.ok (.enter 250 b) d:=by kernel_rfl
theorem jgm (l:World) (o m p r f n v q:Nat) (B:Option Addr) (up b:Nat->Int) (d:Int) (k:Nat) (c1:l.cell? ⟨o,0,none⟩=some (.slice (some ⟨r,f,none⟩) (n+1) v)) (c2:l.cell? ⟨m,0,none⟩=some (.int .u64 d))
  (c3:l.cell? ⟨p,0,none⟩=some (.slice B n q)) (c4:l.cell? ⟨r,f+k,none⟩=some (.int .u32 (up (f+k)))) (K:k<n+1) (s:Rd l B n b) (L:n<=200000000) (hg:0<=d/\d<=999999999) (x:0<=up (f+k)/\up (f+k)<=999999999) (h:0<=part b n k/\part b n k<=999999999) :
  Cl 250 #[.int .i64 k,.pointer (some ⟨o,0,none⟩),.pointer (some ⟨m,0,none⟩),.pointer (some ⟨p,0,none⟩)] l λe w'=>e=.returned (.int .i64 (up (f+k)-d*part b n k))/\Bl l w':=by
 have C:=qh (λ(w1:World) (J:∃ y,w1=l.drewN y)=>YU B n q b k w1 (by obtain⟨y,rfl⟩:=J;exact s.drewN y) Zo Zo);have z:d*part b n k<=999999999*999999999:=Int.mul_le_mul hg.2 h.2 h.1 Zo;have A:0<=d*part b n k:=Int.mul_nonneg hg.1 h.1;have D:=IntWalk.i64_in (up (f+k)) Zo;have E:=IntWalk.u64_in (part b n k) Zo;have G:=IntWalk.u64_in (d*part b n k) Zo;have H:=IntWalk.i64_in (d*part b n k) Zo;have I:=IntWalk.i64_in (up (f+k)-d*part b n k) Zo;have M:(k:Int)<((n+1:Nat):Int):=Zo;have N:(k:Int)<(n:Int)+1:=Zo
 generalize part b n k=u at *
 generalize up (f+k)=t at *
 clear s z A x h;go_enter func250,ntmps250;go_wp2;go_quiet (first | with_reducible exact Yn (C.o _ ⟨_,rfl⟩));go_wp2;go_ret;exact⟨rfl,QC zk _⟩
def Zy (up vp:Nat->Int) (j N:Nat) (g:Int) (k:Nat):Int:=up (j+k)-g*part vp N k
theorem jb9 (up b:Nat->Int) (f d:Nat) (h:Int):Jj (Zy up b f d h) (d+1)=QN up d f-Jj b d*h:=by
 have e:Zy up b f d h=λk=>(λk=>up (f+k)) k+part b d k*(-h):=by
  funext k;unfold Zy;rw[Int.mul_neg,Int.mul_comm];show _=up (f+k)+_;omega
 rw[e,ZI,XW,Q4 _ Zo,Int.mul_neg];unfold QN;omega
theorem Rd.at_own {p:World} {base b l f d o:Nat} {up:Nat->Int} (m:Own 128 p base (some ⟨b,0,none⟩) l f up) (q:d+o<=l):Rd p (some ⟨b,d,none⟩) o (λk=>up (d+k)) :=
 ⟨λ_=>⟨b,d,rfl,λi h=>m.cell Zo⟩,λi h=>m.rng _ Zo⟩
end Limb
end Go.Proofs.YthacfgmdihcffaaGreatDoor
