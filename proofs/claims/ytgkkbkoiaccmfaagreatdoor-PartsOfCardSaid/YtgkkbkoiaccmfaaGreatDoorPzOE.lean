/-
  The walk of divide's closure of package limbs; parts put into an own list by copy.
-/
import Derived.Test.YtgkkbkoiaccmfaaGreatDoorPzOD
import Derived.Deep.DeepCutAuto
import Derived.Laws.CopyRow
set_option linter.unusedSimpArgs false
set_option linter.unusedVariables false
set_option maxHeartbeats 16000000
set_option maxRecDepth 100000
namespace Go.Proofs.YtgkkbkoiaccmfaaGreatDoor
namespace Limb
open Go.RowKit Go.Sort Go.Fresh
theorem KH (s1:Bool) (a1:Option Addr) (n1 c1:Nat) (o1:Nat->Int) (w:World) (h1:Rd w a1 n1 o1) (hn1:n1<=100000000) (hc1:n1<=c1) :
  Calls Tryz.prog 145 #[Jw s1 a1 n1 c1] w (Yy w (- Jp s1 n1 o1)):=by
 obtain⟨x1,d1,r1,l1,m1,O1⟩:=Q7 s1 a1 n1 c1 o1 w h1 (by omega) hc1
 generalize Jp s1 n1 o1=z1 at r1 l1 m1 O1 ⊢
 have HO1:=qh O1;clear O1;have HR:=qh r1;clear h1 r1;have HB1:=qh ((Bx.new w 26 (.bool s1) (.slice a1 n1 c1)).alloc (.cells #[.bool false,.slice none 0 0] 26));have HB2:=qh (Bx.XQ w (.cells #[.bool s1,.slice a1 n1 c1] 26) 26 (.bool false) (.slice none 0 0));obtain⟨sB,hsB⟩:∃ sB,sB=decide (-z1<0):=⟨_,rfl⟩;have HSB:=qh (And.intro ((jcj z1).trans hsB.symm) hsB);clear hsB;go_enter Tryz.func145,Tryz.ntmps145;go_wp2_with fail
 refine(HO1.o _ ?_).mono ?_
 ·exact qg
 rintro e w1 ⟨rfl,hb1⟩;have B1:=HB1.o.bl hb1;have B2:=HB2.o.bl hb1;have G1:=qh ((zk.alloc (by go_size) _ |>.alloc (by go_size) _).trans (hb1.mono (by go_size)):Below w.heap.size w w1);have K1:=qh B1;have K2:=qh B2;clear HB1 HB2 B1 B2 hb1;go_wp2_with fail
 refine(XF (decide (z1<0)) x1 (Ja z1.natAbs) d1 (dgi z1.natAbs) w1 (HR.o.below G1.o) (by omega)).mono ?_;rintro e w2 ⟨a,cap,rfl,hO,-,hb2⟩;have B1:=K1.o.bl hb2;have B2:=K2.o.bl hb2;have G2:=qh (G1.o.trans (hb2.mono G1.o.size));have C1:=qh B1;have C2:=qh B2;have HO:=qh (hO.mono G1.o.size);have hlt:=K2.o.lt;have HOw:=qh hO;obtain⟨b10,b11,b12,b13⟩:=B1.all;clear K1 K2 B1 B2 hb2 G1 hO
 go_upto_region 2 with (fail)
 obtain⟨W,hW⟩:∃ W,W=((w2.setCell ⟨w.heap.size,0,none⟩ (.bool (decide (z1<0)))).setCell ⟨w.heap.size,1,none⟩ (.slice a (Ja z1.natAbs) cap)):=⟨_,rfl⟩;have B1:=C1.o.set (.bool (decide (z1<0))) (.slice a (Ja z1.natAbs) cap);have B2:=(C2.o.other (a:=⟨w.heap.size,0,none⟩) (by dsimp only;omega) (.bool (decide (z1<0)))).other (a:=⟨w.heap.size,1,none⟩) (by dsimp only;omega) (.slice a (Ja z1.natAbs) cap);have G3:=(G2.o.setCell (p:=⟨w.heap.size,0,none⟩) (by simp) (.bool (decide (z1<0)))).setCell (p:=⟨w.heap.size,1,none⟩) (by simp) (.slice a (Ja z1.natAbs) cap);have O3:=(HOw.o.other (p:=⟨w.heap.size,0,none⟩) (by dsimp only;omega) (.bool (decide (z1<0)))).other (p:=⟨w.heap.size,1,none⟩) (by dsimp only;omega) (.slice a (Ja z1.natAbs) cap);rw[<- hW] at B1 B2 G3 O3;rw[show((w2.setCell ⟨w.heap.size,0,none⟩ (.bool (decide (z1<0)))).setCell ⟨w.heap.size,1,none⟩ (.slice a (Ja z1.natAbs) cap))=W from hW.symm];have HB2:=qh B2;have HG:=qh G3;have HN:=qh (QX (!decide (z1<0)) sB a (Ja z1.natAbs) cap z1.natAbs _ (dgi z1.natAbs) W O3 (Js _ _) (by omega) (Jy _) HSB.o.1);have HO3:=qh O3;clear b10 b11 b12 b13 C1 C2 hW G2 HO1 HO HOw O3 G3;obtain⟨b10,b11,b12,b13⟩:=B1.all;clear B1 B2;go_wp2_with fail
 refine HN.o.mono ?_;rintro e w3 ⟨rfl,hb3⟩;have B2:=HB2.o.bl hb3;have HB5:=qh B2;obtain⟨b30,b31,b32,b33⟩:=B2.all;have HG5:=qh (HG.o.trans (hb3.mono HG.o.size));have HO5:=qh (HO3.o.below hb3);clear HO3 HG HB2 HN B2 hb3 b10 b11 b12 b13;go_wp2_with fail
 unfold Yy;rw[Int.natAbs_neg,<- HSB.o.2];refine bodyPost_ret (Je rfl _ _ _ _ _ _ _ rfl (HB5.o.set _ _) Tryz.underlying26 rfl (by kernel_rfl)) rfl ⟨a,cap,rfl,?_,?_⟩
 ·exact((HO5.o.oz).oz).mono (by omega)
 ·exact(HG5.o.sc).sc
theorem jco (s1:Bool) (a1:Option Addr) (n1 c1:Nat) (o1:Nat->Int) (s2:Bool) (a2:Option Addr) (n2 c2:Nat) (o2:Nat->Int) (w:World)
  (h1:Rd w a1 n1 o1) (hn1:n1<=100000000) (hc1:n1<=c1) (h2:Rd w a2 n2 o2) (hn2:n2<=100000000) (hc2:n2<=c2) :
  Calls Tryz.prog 226 #[Jw s1 a1 n1 c1,Jw s2 a2 n2 c2] w (Yy w (Jp s1 n1 o1-Jp s2 n2 o2)):=by
 have hl2:Ja (Jp s2 n2 o2).natAbs<=n2:=by
  obtain⟨_,_,_,l2,_⟩:=Q7 s2 a2 n2 c2 o2 w h2 (by omega) hc2;exact l2
 have NEG:=qh (fun (w':World) (hb:Below w.heap.size w w')=>KH s2 a2 n2 c2 o2 w' (h2.below hb) hn2 hc2);obtain⟨z1,hz1⟩:∃ z1,z1=Jp s1 n1 o1:=⟨_,rfl⟩;obtain⟨z2,hz2⟩:∃ z2,z2=Jp s2 n2 o2:=⟨_,rfl⟩;rw[<- hz2] at NEG hl2;rw[<- hz1,<- hz2];obtain⟨L2,hL2⟩:∃ L2,L2=Ja z2.natAbs:=⟨_,rfl⟩;obtain⟨sB,hsB⟩:∃ sB,sB=decide (-z2<0):=⟨_,rfl⟩;obtain⟨sC,hsC⟩:∃ sC,sC=decide (z1-z2<0):=⟨_,rfl⟩;obtain⟨N,hN⟩:∃ N,N=(z1-z2).natAbs:=⟨_,rfl⟩;have ADD:=qh (fun (w':World) (hb:Below w.heap.size w w') (x:Option Addr) (d:Nat) (hr:Rd w' x (Ja z2.natAbs) (dgi z2.natAbs)) (hd:Ja z2.natAbs<=d)=>VF s1 a1 n1 c1 o1 sB x (Ja z2.natAbs) d (dgi z2.natAbs) w' (h1.below hb) hn1 hc1 hr (by omega) hd);rw[jgf z2 sB hsB,<- hz1,<- Int.sub_eq_add_neg] at ADD;unfold Yy at NEG ADD;rw[Int.natAbs_neg] at NEG;rw[<- hsB] at NEG;rw[<- hsC,<- hN] at ADD;have HE:=qh (And.intro hN hsC);clear hz1 hz2 hsB hsC hN h1 h2 hL2;have HB1:=qh (((Bx.new w 26 (.bool s1) (.slice a1 n1 c1)).alloc (.cells #[.bool s2,.slice a2 n2 c2] 26)).alloc (.cells #[.bool false,.slice none 0 0] 26));have HB2:=qh ((Bx.XQ w (.cells #[.bool s1,.slice a1 n1 c1] 26) 26 (.bool s2) (.slice a2 n2 c2)).alloc (.cells #[.bool false,.slice none 0 0] 26));have HB3:=qh (Bx.new3 w (.cells #[.bool s1,.slice a1 n1 c1] 26) (.cells #[.bool s2,.slice a2 n2 c2] 26) 26 (.bool false) (.slice none 0 0));have G:=qh ((zk.alloc (by go_size) _ |>.alloc (by go_size) _ |>.alloc (by go_size) _):Below w.heap.size w (((w.alloc (.cells #[.bool s1,.slice a1 n1 c1] 26)).alloc (.cells #[.bool s2,.slice a2 n2 c2] 26)).alloc (.cells #[.bool false,.slice none 0 0] 26)))
 go_enter Tryz.func226,Tryz.ntmps226
 go_upto_region 1 with (fail)
 obtain⟨W,hW⟩:∃ W,W=(((w.alloc (.cells #[.bool s1,.slice a1 n1 c1] 26)).alloc (.cells #[.bool s2,.slice a2 n2 c2] 26)).alloc (.cells #[.bool false,.slice none 0 0] 26)):=⟨_,rfl⟩;rw[<- hW] at HB1 HB2 HB3 G;rw[show(((w.alloc (.cells #[.bool s1,.slice a1 n1 c1] 26)).alloc (.cells #[.bool s2,.slice a2 n2 c2] 26)).alloc (.cells #[.bool false,.slice none 0 0] 26))=W from hW.symm];have HS1:=qh (fun (w':World) (hb:Below W.heap.size W w')=>And.intro (HB1.o.bl hb).c0 (HB1.o.bl hb).c1);have HS2:=qh (fun (w':World) (hb:Below W.heap.size W w')=>And.intro (HB2.o.bl hb).c0 (HB2.o.bl hb).c1);have HG:=G;clear hW G
 refine Jc 4 (JM [(2,Sp.made (fun x:Option Addr × Nat=>Jw sB x.1 (Ja z2.natAbs) x.2) (fun x w'=>Own 160 w' W.heap.size x.1 (Ja z2.natAbs) x.2 (dgi z2.natAbs))),
   (3,Sp.made (fun x:Option Addr × Nat=>Jw sC x.1 (Ja N) x.2) (fun x w'=>Own 160 w' W.heap.size x.1 (Ja N) x.2 (dgi N)))])
  (fun w'=>Below W.heap.size W w') (by kernel_rfl) (by kernel_rfl)
  (Jd (Sp.Jg fun x w w' h hb=>h.below hb) (Jd (Sp.Jg fun x w w' h hb=>h.below hb) Jk)) (fun _ _ h hb=>h.trans (hb.mono h.size)) (zk.drew) ?_
 simp only[zx,zy,zv,zw]
 iterate 2
  (refine Jb rfl rfl ?_ (fun w' hw'=>?_) ?_;rotate_left;· (have hb':=Has.world hw';(have hs:=HS1.o _ hb';have hs:=HS2.o _ hb');clear hw';go_simp;try rfl))
 (refine Jf rfl rfl (fun w' hw'=>?_) ?_;· (have hb':=Has.world hw';go_simp;((refine(NEG.o w' (HG.o.trans (hb'.mono HG.o.size))).mono ?_;rintro e w'' ⟨a,cap,rfl,q,hb⟩;exact⟨_,rfl,⟨⟨a,cap,rfl⟩,⟨a,cap,rfl,q.mono hb'.size⟩⟩,hb⟩))))
 rintro _ ⟨x,rfl⟩
 (refine Jf rfl rfl (fun w' hw'=>?_) ?_;· (have hb':=Has.world hw';go_simp;((have h7:=Qf (T:=160) (x:=x) (b:=W.heap.size) (s:=sB) (L:=Ja z2.natAbs) (o:=dgi z2.natAbs) (hw'.fact 2 (by kernel_rfl));refine(ADD.o w' (HG.o.trans (hb'.mono HG.o.size)) x.1 x.2 h7.rd h7.le).mono ?_;rintro e w'' ⟨a,cap,rfl,q,hb⟩;exact⟨_,rfl,⟨⟨a,cap,rfl⟩,⟨a,cap,rfl,q.mono hb'.size⟩⟩,hb⟩))))
 rintro _ ⟨y,rfl⟩;refine Jo (fun w5 hb5 hF5=>?_);have OA:=Qf (T:=160) (b:=W.heap.size) (s:=sC) (L:=Ja N) (o:=dgi N) (x:=y) (hF5 3);have HO:=qh OA;have B3:=HB3.o.bl hb5;have HB5:=qh B3;obtain⟨b30,b31,b32,b33⟩:=B3.all;have HG5:=qh (HG.o.trans (hb5.mono HG.o.size));have hz4:=HB3.o.lt;have hz5:=HG.o.size;clear hF5 OA B3 hb5 HS1 HS2;go_wp2_with fail
 unfold Yy;rw[<- HE.o.1,<- HE.o.2];refine bodyPost_ret (Je rfl _ _ _ _ _ _ _ rfl (HB5.o.set _ _) Tryz.underlying26 rfl (by kernel_rfl)) rfl ⟨y.1,y.2,rfl,?_,?_⟩
 ·exact((HO.o.oz).oz).mono hz5
 ·exact(HG5.o.sc).sc
end Limb
namespace Book
open Go.RowKit Go.Sort Go.Fresh Limb
structure J5 (w:World) (base:Nat) (a:Option Addr) (n cap:Nat) (F:Nat->Value):Prop where
 le:n<=cap
 place:(a=none/\n=0/\cap=0)\/∃ g cur,a=some ⟨g,0,none⟩/\base<=g/\w.heap[g]?=some (.cells cur 71 (0,0))/\cap*8<=cur.size/\∀ i,i<n*8->cur[i]?=some (F i)
theorem J5.keep {w w':World} {base:Nat} {a:Option Addr} {n cap:Nat} {F:Nat->Value} (h:J5 w base a n cap F) (hk:∀ p,a=some p->w'.heap[p.block]?=w.heap[p.block]?):J5 w' base a n cap F:=by
 refine⟨h.le,?_⟩
 rcases h.place with h0 | ⟨g,cur,ha,hbg,hg,hcap,hc⟩
 ·exact Or.inl h0
 ·exact Or.inr ⟨g,cur,ha,hbg,(hk _ ha).trans hg,hcap,hc⟩
theorem J5.below {w w':World} {base:Nat} {a:Option Addr} {n cap:Nat} {F:Nat->Value} (h:J5 w base a n cap F) (hb:Below w.heap.size w w'):J5 w' base a n cap F:=by
 refine⟨h.le,?_⟩
 rcases h.place with h0 | ⟨g,cur,ha,hbg,hg,hcap,hc⟩
 ·exact Or.inl h0
 ·exact Or.inr ⟨g,cur,ha,hbg,(hb.block g (lt_of_block hg)).trans hg,hcap,hc⟩
theorem J5.mono {w:World} {base base':Nat} {a:Option Addr} {n cap:Nat} {F:Nat->Value} (h:J5 w base a n cap F) (hb:base'<=base):J5 w base' a n cap F:=by
 refine⟨h.le,?_⟩
 rcases h.place with h0 | ⟨g,cur,ha,hbg,hg,hcap,hc⟩
 ·exact Or.inl h0
 ·exact Or.inr ⟨g,cur,ha,by omega,hg,hcap,hc⟩
theorem J5.blk {w:World} {base:Nat} {a:Option Addr} {n cap:Nat} {F:Nat->Value} (h:J5 w base a n cap F) {p:Addr} (hp:a=some p):p=⟨p.block,0,none⟩/\base<=p.block/\p.block<w.heap.size:=by
 rcases h.place with h0 | ⟨g,cur,ha,hbg,hg,hcap,hc⟩
 ·rw[h0.1] at hp;cases hp
 ·obtain rfl:=Option.some.inj (ha.symm.trans hp);exact⟨rfl,hbg,lt_of_block hg⟩
theorem J5.Qj {w:World} {base:Nat} {a:Option Addr} {n cap:Nat} {F:Nat->Value} (h:J5 w base a n cap F) (hn:0<n):∃ g,a=some ⟨g,0,none⟩:=by
 rcases h.place with h0 | ⟨g,cur,ha,_⟩
 ·omega
 ·exact⟨g,ha⟩
theorem J5.fz {w:World} {base g n cap:Nat} {F:Nat->Value} (h:J5 w base (some ⟨g,0,none⟩) n cap F) (i:Nat):w.frozen? ⟨g,i,none⟩=false:=by
 rcases h.place with h0 | ⟨g',cur,ha,hbg,hg,hcap,hc⟩
 ·cases h0.1
 ·cases ha;exact frozen_of_row w _ i cur _ hg
theorem J5.cell {w:World} {base g n cap:Nat} {F:Nat->Value} (h:J5 w base (some ⟨g,0,none⟩) n cap F) {i:Nat} (hi:i<n*8):w.cell? ⟨g,i,none⟩=some (F i):=by
 rcases h.place with h0 | ⟨g',cur,ha,hbg,hg,hcap,hc⟩
 ·cases h0.1
 ·cases ha
  rw[cell_of_row _ _ _ _ _ _ hg];exact hc i hi
theorem J5.congr {w:World} {base:Nat} {a:Option Addr} {n cap:Nat} {F F':Nat->Value} (h:J5 w base a n cap F) (e:∀ i,i<n*8->F i=F' i):J5 w base a n cap F':=by
 refine⟨h.le,?_⟩
 rcases h.place with h0 | ⟨g,cur,ha,hbg,hg,hcap,hc⟩
 ·exact Or.inl h0
 ·exact Or.inr ⟨g,cur,ha,hbg,hg,hcap,fun i hi=>by rw[hc i hi,e i hi]⟩
def updV (F:Nat->Value) (t:Nat) (v:Value) (i:Nat):Value:=if i=t then v else F i
theorem J5.put {w:World} {base g n cap:Nat} {F:Nat->Value} (h:J5 w base (some ⟨g,0,none⟩) n cap F) {t:Nat} (ht:t<n*8) (v:Value):J5 (w.setCell ⟨g,t,none⟩ v) base (some ⟨g,0,none⟩) n cap (updV F t v):=by
 refine⟨h.le,?_⟩
 rcases h.place with h0 | ⟨g',cur,ha,hbg,hg,hcap,hc⟩
 ·cases h0.1
 ·cases ha
  have hle:=Nat.mul_le_mul_right 8 h.le;refine Or.inr ⟨g,cur.setIfInBounds t v,rfl,hbg,heap_setCell_same w g t cur _ _ hg,by simpa using hcap,fun i hi=>?_⟩;rw[Array.getElem?_setIfInBounds];by_cases e:t=i
  ·subst e;rw[if_pos rfl,if_pos (by omega)];unfold updV;rw[if_pos rfl]
  ·rw[if_neg e];unfold updV;rw[if_neg fun h=>e h.symm];exact hc i hi
def Zm (w:World) (g t:Nat) (m:Nat->Value):World:=(((((((w.setCell ⟨g,t*8,none⟩ (m 0)).setCell ⟨g,t*8+1,none⟩ (m 1)).setCell ⟨g,t*8+2,none⟩ (m 2)).setCell ⟨g,t*8+3,none⟩ (m 3)).setCell ⟨g,t*8+4,none⟩ (m 4)).setCell ⟨g,t*8+5,none⟩ (m 5)).setCell ⟨g,t*8+6,none⟩ (m 6)).setCell ⟨g,t*8+7,none⟩ (m 7)
def updT (F:Nat->Value) (t:Nat) (m:Nat->Value) (i:Nat):Value:=if i/8=t then m (i%8) else F i
theorem J5.Zm {w:World} {base g n cap:Nat} {F:Nat->Value} (h:J5 w base (some ⟨g,0,none⟩) n cap F) {t:Nat} (ht:t<n) (m:Nat->Value):J5 (Book.Zm w g t m) base (some ⟨g,0,none⟩) n cap (updT F t m):=by
 have h8:=(((((((h.put (t:=t*8) (by omega) (m 0)).put (t:=t*8+1) (by omega) (m 1)).put (t:=t*8+2) (by omega) (m 2)).put (t:=t*8+3) (by omega) (m 3)).put (t:=t*8+4) (by omega) (m 4)).put (t:=t*8+5) (by omega) (m 5)).put (t:=t*8+6) (by omega) (m 6)).put (t:=t*8+7) (by omega) (m 7)
 refine h8.congr fun i _=>?_
 unfold updT updV;by_cases e:i/8=t
 ·rw[if_pos e];have h9:i%8<8:=Nat.mod_lt _ (by decide)
  have h10:i=t*8+i%8:=by omega
  generalize i%8=r at h9 h10
  subst h10
  match r,h9 with
  | 0,_=>rw[if_neg (by omega),if_neg (by omega),if_neg (by omega),if_neg (by omega),if_neg (by omega),if_neg (by omega),if_neg (by omega),if_pos (by omega)]
  | 1,_=>rw[if_neg (by omega),if_neg (by omega),if_neg (by omega),if_neg (by omega),if_neg (by omega),if_neg (by omega),if_pos rfl]
  | 2,_=>rw[if_neg (by omega),if_neg (by omega),if_neg (by omega),if_neg (by omega),if_neg (by omega),if_pos rfl]
  | 3,_=>rw[if_neg (by omega),if_neg (by omega),if_neg (by omega),if_neg (by omega),if_pos rfl]
  | 4,_=>rw[if_neg (by omega),if_neg (by omega),if_neg (by omega),if_pos rfl]
  | 5,_=>rw[if_neg (by omega),if_neg (by omega),if_pos rfl]
  | 6,_=>rw[if_neg (by omega),if_pos rfl]
  | 7,_=>rw[if_pos rfl]
 ·rw[if_neg e,if_neg (by omega),if_neg (by omega),if_neg (by omega),if_neg (by omega),if_neg (by omega),if_neg (by omega),if_neg (by omega),if_neg (by omega)]
def mc (j:Nat) (i:Nat):Value:=match i with
 | 0=>.bool false
 | 1=>.slice none 0 0
 | 2=>.bool false
 | 3=>.slice none 0 0
 | 4=>.int .u16 ((j:Int)+2)
 | _=>.int .u16 0
theorem Uu (j:Nat) (w:World) (h:j<=30000):Calls Tryz.prog 184 #[.int .i64 ((j:Int)+1)] w fun e w'=>e=.returned (.agg #[.bool false,.slice none 0 0,.bool false,.slice none 0 0,.int .u16 ((j:Int)+2),.int .u16 0,.int .u16 0,.int .u16 0])/\Below w.heap.size w w':=by
 have e1:=IntWalk.i64_in ((j:Int)+1) (by omega);have e2:=IntWalk.i64_in (1+((j:Int)+1)) (by omega);have e3:=IntWalk.u16_in (1+((j:Int)+1)) (by omega);have e4:((j:Int)+1).tmod 60000=(j:Int)+1:=Int.tmod_eq_of_lt (by omega) (by omega);have e5:((j:Int)+1).tdiv 60000=0:=Int.tdiv_eq_zero_of_lt (by omega) (by omega)
 have e6:1+((j:Int)+1)=(j:Int)+2:=by omega
 go_enter Tryz.func184,Tryz.ntmps184;go_wp2;exact bodyPost_ret (Je rfl _ _ _ _ _ _ _ rfl (heap_alloc_new w _) Tryz.underlying71 rfl (by kernel_rfl)) rfl ⟨rfl,zk.alloc zj _⟩
end Book
namespace Limb
open Go.RowKit
theorem Own.JF {T:Nat} {w:World} {base:Nat} {a:Option Addr} {n cap:Nat} {o:Nat->Int} (h:Own T w base a n cap o) (x:Obj):Own T (w.alloc x) base a n cap o:=h.below (zk.alloc zj x)
end Limb
namespace Book
open Go.RowKit Go.Sort Go.Fresh Limb
structure jdr (w1 wr:World) (i n:Nat) (ai:Option Addr) (ci t:Nat) (a:Option Addr) (c:Nat) (hv:Nat->Value):Prop where
 own:Own 160 wr 0 a (n+t) c (fun _=>mk i)
 old:Own 160 wr 0 ai n ci (fun _=>mk i)
 plc:(a=ai/\c=ci)\/∃ g,a=some ⟨g,0,none⟩/\w1.heap.size<g
 box:wr.rowIs w1.heap.size 159 3 hv
 tch:Touch (fun g=>∃ p,ai=some p/\p.block=g) w1 wr
 olt:∀ p,ai=some p->p.block<w1.heap.size
theorem grow_step {w1 wr w2:World} {i n t c ci c':Nat} {a ai a':Option Addr} {hv:Nat->Value} {o:Obj} (G:jdr w1 wr i n ai ci t a c hv) (hown:Own 160 w2 0 a' (n+t+1) c' (upd (fun _=>mk i) (n+t) (mk i)))
  (hcase:(a'=a/\c'=c/\(wr.alloc o).grownBy w2 (a.map (·.block)))\/((∃ g,a'=some ⟨g,0,none⟩/\wr.heap.size+1<=g)/\(wr.alloc o).grownBy w2 none/\c<n+t+1)) :
  jdr w1 w2 i n ai ci (t+1) a' c' hv:=by
 have hown':Own 160 w2 0 a' (n+(t+1)) c' (fun _=>mk i):=hown.congr fun q _=>by unfold upd;split <;> rfl
 have hsz:=G.tch.size;have hbx:=G.box.lt
 have oldw:Own 160 (wr.alloc o) 0 ai n ci (fun _=>mk i):=G.old.keep fun p hp=>Below.heap_alloc _ _ _ (by have:=G.olt p hp;omega)
 have boxw:(wr.alloc o).rowIs w1.heap.size 159 3 hv:=G.box.alloc o;have tchw:=G.tch.alloc o
 rcases hcase with ⟨rfl,rfl,hg⟩ | ⟨⟨g,rfl,hlt⟩,hg,-⟩
 ·rcases G.plc with ⟨rfl,rfl⟩ | ⟨g,rfl,hlt⟩
  ·refine⟨hown',hown'.less (by omega),.inl ⟨rfl,rfl⟩,boxw.of_block (hg.block _ (by simp;omega) (fun e=>?_)),tchw.grown hg (fun q hq=>?_),G.olt⟩
   ·cases h:a' with
    | none=>rw[h] at e;cases e
    | some p=>rw[h] at e;simp at e;have:=G.olt p h;omega
   ·cases h:a' with
    | none=>rw[h] at hq;cases hq
    | some p=>rw[h] at hq;simp at hq;exact .inl ⟨p,rfl,hq⟩
  ·refine⟨hown',oldw.keep (fun p hp=>hg.block _ (by have:=G.olt p hp;simp;omega) (fun e=>by have:=G.olt p hp;simp at e;omega)),.inr ⟨g,rfl,hlt⟩,boxw.of_block (hg.block _ (by simp;omega) (fun e=>by simp at e;omega)),
    tchw.grown hg (fun q hq=>.inr (by simp at hq;omega)),G.olt⟩
 ·refine⟨hown',oldw.keep (fun p hp=>hg.block _ (by have:=G.olt p hp;simp;omega) (fun e=>by cases e)),.inr ⟨g,rfl,by omega⟩,boxw.of_block (hg.block _ (by simp;omega) (fun e=>by cases e)),
   tchw.grown hg (fun q hq=>by cases hq),G.olt⟩
end Book
namespace Limb
open Go.RowKit Go.Sort Go.Fresh
def tw (o:Nat->Int) (n i:Nat):Int:=if i<n then o i else 77
theorem VQ (g:Nat) (a:Option Addr) (n ca:Nat) (o:Nat->Int) (w:World) (ht:Rd w (some ⟨g,0,none⟩) (n+1) (tw o n)) (ha:Rd w a n o) (hn:n<=1000000000) :
  Calls Tryz.prog 177 #[.slice (some ⟨g,0,none⟩) n (n+1),.slice a n ca] w fun e w'=>e=.returned (.bool true)/\∃ m,w'=w.drewN m:=by
 have HA:=qh ha;have HT:=qh ht;have e1:=IntWalk.i64_in ((n:Int)+1) (by omega)
 have ec:((n+1:Nat):Int)=(n:Int)+1:=by omega
 have x1:¬((n:Int)+1<=(n:Int)):=by omega
 clear ha ht;go_enter Tryz.func177,Tryz.ntmps177;go_wp2_with fail
 go_loopw [5] (fun i wr=>∃ t:Nat,t<=n/\i=.int .i64 t/\∃ m,wr=w.drewN m) (fun i _=>n-(intOf i).toNat)
 case atStart=>exact⟨0,by omega,rfl,0,rfl⟩
 case round =>
  obtain⟨t,htn,rfl,hm⟩:=hrel;have HM:=qh hm
  have cw:∀ p,wr.cell? p=w.cell? p:=by obtain⟨m,rfl⟩:=hm;intro p;rfl
  clear hm;obtain⟨b1,o1,eb,hc1⟩:=HT.o.cells (by omega)
  cases eb
  by_cases ht:t<n
  ·obtain⟨b2,o2,rfl,hc2⟩:=HA.o.cells (by omega)
   have c1:wr.cell? ⟨g,t,none⟩=some (.int .u32 (o t)):=by
    have h:=(cw _).trans (hc1 t (by omega));rw[Nat.zero_add] at h;rw[h];show some (Value.int .u32 (if t<n then o t else 77))=_;rw[if_pos ht]
   have c2:wr.cell? ⟨b2,o2+t,none⟩=some (.int .u32 (o t)):=(cw _).trans (hc2 t ht);clear hc1 hc2 cw;go_wp2_with fail
   go_quiet (fail);go_wp2_with fail
   go_roundw
   case rel=>exact⟨t+1,by omega,by go_num,by obtain⟨m,e⟩:=HM.o;exact⟨_,by rw[e,World.drewN_drewN]⟩⟩
   case measure=>simp[intOf];omega
  ·obtain rfl:t=n:=by omega
   have c1:wr.cell? ⟨g,t,none⟩=some (.int .u32 77):=by
    have h:=(cw _).trans (hc1 t (by omega));rw[Nat.zero_add] at h;rw[h];show some (Value.int .u32 (if t<t then o t else 77))=_;rw[if_neg (by omega)]
   clear hc1 cw;go_wp2_with fail
   go_ret;exact⟨rfl,HM.o⟩
theorem YA (s:Bool) (g:Nat) (a:Option Addr) (n ca:Nat) (o:Nat->Int) (w:World) (ht:Rd w (some ⟨g,0,none⟩) (n+1) (tw o n)) (ha:Rd w a n o) (hn:n<=1000000000) :
  Calls Tryz.prog 83 #[Jw s (some ⟨g,0,none⟩) n (n+1),Jw s a n ca] w fun e w'=>e=.returned (.bool true)/\Below w.heap.size w w':=by
 have HC:=qh (fun (w':World) (h:Below w.heap.size w w')=>VQ g a n ca o w' (ht.below h) (ha.below h) hn)
 have es:(s==s)=true:=by simp
 clear ha ht;go_enter Tryz.func83,Tryz.ntmps83;go_wp2_with fail
 refine(HC.o _ ?_).mono ?_
 ·exact qg
 rintro e w1 ⟨rfl,m,rfl⟩;go_wp2_with fail
 go_ret;exact⟨rfl,qg⟩
end Limb
namespace Book
open Go.RowKit Go.Sort Go.Fresh Limb
def ZW (ν:Nat->Nat) (w:World) (vb k:Nat) (A:Nat->Option Addr) (N C:Nat->Nat) (X:Nat->Value):Prop :=
 ∃ m f,w.rowIs vb 152 m f/\∀ j,j<k->3*j+2<m/\f (3*j)=.slice (A j) (N j) (C j)/\f (3*j+1)=X j/\f (3*j+2)=.int .i64 ((ν j:Int)+1)
theorem ZW.cells {ν:Nat->Nat} {w:World} {vb k:Nat} {A:Nat->Option Addr} {N C:Nat->Nat} {X:Nat->Value} (h:ZW ν w vb k A N C X) {j:Nat} (hj:j<k) :
  w.cell? ⟨vb,j*3,none⟩=some (.slice (A j) (N j) (C j))/\w.cell? ⟨vb,j*3+1,none⟩=some (X j)/\w.cell? ⟨vb,j*3+2,none⟩=some (.int .i64 ((ν j:Int)+1))/\(∀ i,w.frozen? ⟨vb,i,none⟩=false)/\vb<w.heap.size:=by
 obtain⟨m,f,hR,hE⟩:=h;obtain⟨h1,h2,h3,h4⟩:=hE j hj;rw[Nat.mul_comm j 3];exact⟨by rw[<- h2];exact hR.cell (by omega),by rw[<- h3];exact hR.cell (by omega),by rw[<- h4];exact hR.cell (by omega),hR.frozen,hR.lt⟩
theorem ZW.keep {ν:Nat->Nat} {w w':World} {vb k:Nat} {A:Nat->Option Addr} {N C:Nat->Nat} {X:Nat->Value} (h:ZW ν w vb k A N C X) (e:w'.heap[vb]?=w.heap[vb]?):ZW ν w' vb k A N C X:=by
 obtain⟨m,f,hR,hE⟩:=h;exact⟨m,f,hR.of_block e,hE⟩
theorem ZW.lt {ν:Nat->Nat} {w:World} {vb k:Nat} {A:Nat->Option Addr} {N C:Nat->Nat} {X:Nat->Value} (h:ZW ν w vb k A N C X):vb<w.heap.size:=by
 obtain⟨m,f,hR,hE⟩:=h;exact hR.lt
theorem ZW.jao {ν:Nat->Nat} {w:World} {vb k:Nat} {A:Nat->Option Addr} {N C:Nat->Nat} {X:Nat->Value} (h:ZW ν w vb k A N C X) (i:Nat) (v:Value):ZW ν (w.setCell ⟨vb,i*3+1,none⟩ v) vb k A N C (fun j=>if j=i then v else X j):=by
 obtain⟨m,f,hR,hE⟩:=h;refine⟨m,_,hR.set (i*3+1) v,fun j hj=>?_⟩;obtain⟨h1,h2,h3,h4⟩:=hE j hj;refine⟨h1,?_,?_,?_⟩
 ·rw[if_neg (by omega)];exact h2
 ·show(if 3*j+1=i*3+1 then v else f (3*j+1))=if j=i then v else X j
  by_cases e:j=i
  ·subst e;rw[if_pos (by omega),if_pos rfl]
  ·rw[if_neg (by omega),if_neg e];exact h3
 ·rw[if_neg (by omega)];exact h4
theorem jgn {k i t g:Nat} {A:Nat->Option Addr} {N C:Nat->Nat} {O:Nat->Nat->Value} {w:World} {m:Nat->Value} (hD:Part k A) (hO:∀ j,j<k->J5 w 0 (A j) (N j) (C j) (O j)) (hi:i<k) (hg:A i=some ⟨g,0,none⟩) (ht:t<N i) :
  ∀ j,j<k->J5 (Zm w g t m) 0 (A j) (N j) (C j) (if j=i then updT (O i) t m else O j):=by
 intro j hj;by_cases e:j=i
 ·subst e;rw[if_pos rfl,hg];have h:=hO j hj;rw[hg] at h;exact h.Zm ht m
 ·rw[if_neg e]
  refine(hO j hj).keep fun p hp=>?_
  have hne:∀ (v:World) (o:Nat) (x:Value),(v.setCell ⟨g,o,none⟩ x).heap[p.block]?=v.heap[p.block]?:=fun v o x=>Below.heap_setCell _ _ _ _ (fun he=>hD j hj i hi e p _ hp hg he)
  unfold Zm;rw[hne,hne,hne,hne,hne,hne,hne,hne]
theorem jds {w:World} {b m:Nat} {T:TypeId} {f:Nat->Value} (h:w.rowIs b T m f) {g:Nat} (hg:g≠b) (t:Nat) (mm:Nat->Value):(Book.Zm w g t mm).rowIs b T m f:=by
 unfold Book.Zm;exact(((((((h.setOther (by dsimp only;omega) _).setOther (by dsimp only;omega) _).setOther (by dsimp only;omega) _).setOther (by dsimp only;omega) _).setOther (by dsimp only;omega) _).setOther (by dsimp only;omega) _).setOther (by dsimp only;omega) _).setOther (by dsimp only;omega) _
theorem Touch.Zm {U:Nat->Prop} {a b:World} (h:Touch U a b) {g:Nat} (hp:U g\/a.heap.size<=g) (t:Nat) (m:Nat->Value):Touch U a (Book.Zm b g t m) :=
 (((((((h.setCell (p:=⟨g,_,none⟩) hp _).setCell (p:=⟨g,_,none⟩) hp _).setCell (p:=⟨g,_,none⟩) hp _).setCell (p:=⟨g,_,none⟩) hp _).setCell (p:=⟨g,_,none⟩) hp _).setCell (p:=⟨g,_,none⟩) hp _).setCell (p:=⟨g,_,none⟩) hp _).setCell (p:=⟨g,_,none⟩) hp _
theorem Uv (b vb k cap:Nat) (A:Nat->Option Addr) (N C:Nat->Nat) (O:Nat->Nat->Value) (f:Nat->Value) (ν:Nat->Nat) (w:World) (hk:k<=30000) (hν:∀ j,j<k->ν j<=30000) (hB:w.rowIs b 53 13 f) (hf:f 6=.slice (some ⟨vb,0,none⟩) k cap)
  (hA:ZW ν w vb k A N C (fun _=>.slice none 0 0)) (hO:∀ j,j<k->J5 w 0 (A j) (N j) (C j) (O j)) (hN:∀ j,j<k->N j<=100000000) (hS:¬UA k A b/\¬UA k A vb) (hD:Part k A) :
  Calls Tryz.prog 91 #[.pointer (some ⟨b,0,none⟩)] w fun e w'=>(∃ v,e=.returned v)/\Touch (UA k A) w w'/\∀ j,j<k->J5 w' 0 (A j) (N j) (C j) (fun c=>mc (ν j) (c%8)):=by
 have HB:=qh hB;have HA:=qh hA;have HO:=qh hO;have HS:=qh hS;have HD:=qh hD;have HN:=qh hN;have HF:=qh hf;have HV:=qh hν;clear hB hA hO hS hD hN hf hν;go_enter Tryz.func91,Tryz.ntmps91;go_wp2_with fail
 go_loopw [2] (fun v wr=>∃ i:Nat,i<=k/\v=.int .i64 i/\Touch (UA k A) w wr/\∃ OO:Nat->Nat->Value,(∀ j,j<k->J5 wr 0 (A j) (N j) (C j) (OO j))/\∀ j,j<i->∀ c,c<N j*8->OO j c=mc (ν j) (c%8)) (fun v _=>k-(intOf v).toNat)
 case atStart=>exact⟨0,by omega,rfl,Touch.refl _ _,O,HO.o,fun j hj=>by omega⟩
 case round =>
  obtain⟨w1,rfl⟩:∃ w1,w1=wr:=⟨_,rfl⟩;obtain⟨i,hik,rfl,hT,OO,hOO,hM⟩:=hrel;have KT:=qh hT;have KO:=qh hOO;have KM:=qh hM;have KB:=qh (HB.o.of_block (hT.block _ HB.o.lt HS.o.1));have KA:=qh (HA.o.keep (hT.block _ HA.o.lt HS.o.2));clear hT hOO hM
  have b2:w1.cell? ⟨b,6,none⟩=some (.slice (some ⟨vb,0,none⟩) k cap):=by rw[<- HF.o];exact KB.o.cell (i:=6) (by omega)
  by_cases hi:i<k
  ·obtain⟨a0,a1,a2,-,hvb⟩:=KA.o.cells hi;obtain⟨a,ha⟩:∃ a,a=A i:=⟨_,rfl⟩;obtain⟨n,hn⟩:∃ n,n=N i:=⟨_,rfl⟩;obtain⟨c,hc⟩:∃ c,c=C i:=⟨_,rfl⟩;rw[<- ha,<- hn,<- hc] at a0;have EA:=qh ha;have EN:=qh hn;have EC:=qh hc
   have hnb:n<=100000000:=by rw[hn];exact HN.o i hi
   clear ha hn hc;go_wp2_with fail
   go_loopw [4] (fun v wr2=>∃ t:Nat,t<=n/\v=.int .i64 t/\wr2.rowIs w1.heap.size 152 3 (hcell a n c (.slice none 0 0) ((ν i:Int)+1))/\Touch (UA k A) w wr2 /\
    ∃ OO:Nat->Nat->Value,(∀ j,j<k->J5 wr2 0 (A j) (N j) (C j) (OO j))/\(∀ j,j<i->∀ c,c<N j*8->OO j c=mc (ν j) (c%8))/\∀ c,c<t*8->OO i c=mc (ν i) (c%8)) (fun v _=>n-(intOf v).toNat)
   case atStart =>
    refine⟨0,by omega,rfl,?_,KT.o.alloc _,OO,fun j hj=>(KO.o j hj).below (zk.alloc zj _),KM.o,fun c hc=>by omega⟩
    have h:=World.rowIs_alloc w1 #[Value.slice a n c,Value.slice none 0 0,Value.int IntKind.i64 ((ν i:Int)+1)] 152 (hcell a n c (.slice none 0 0) ((ν i:Int)+1)) (fun q hq=>by
     match q,hq with
     | 0,_=>rfl
     | 1,_=>rfl
     | 2,_=>rfl)
    exact h
   case round =>
    obtain⟨t,htn,rfl,hH,hT2,OO2,hOO2,hM2,hM3⟩:=hrel;have LT:=qh hT2;have LO:=qh hOO2;have LM:=qh (And.intro hM2 hM3);have LH:=qh hH;have hwr:w.heap.size<=w1.heap.size:=KT.o.size;have hc0:wr.cell? ⟨w1.heap.size,0,none⟩=some (.slice a n c):=hH.cell (i:=0) (by omega);have hc2:wr.cell? ⟨w1.heap.size,2,none⟩=some (.int .i64 ((ν i:Int)+1)):=hH.cell (i:=2) (by omega);clear hH hT2 hOO2 hM2 hM3;by_cases ht:t<n
    ·obtain⟨g,hg⟩:=(LO.o i hi).Qj (by rw[<- EN.o];omega);obtain rfl:=EA.o.trans hg;have hO:=LO.o i hi;rw[<- EA.o,<- EN.o] at hO;have HCO:=qh (fun (q:Nat) (hq:q<n*8)=>hO.cell hq);have hfz:=hO.fz;have hglt:=(hO.blk rfl).2.2;have hgw:g<w.heap.size:=((HO.o i hi).blk hg).2.2;have HS1:=qh (fun (w':World) (hb:Below wr.heap.size wr w')=>And.intro ((hb.cell (p:=⟨w1.heap.size,0,none⟩) LH.o.lt).trans hc0) ((hb.cell (p:=⟨w1.heap.size,2,none⟩) LH.o.lt).trans hc2));have hlt:w1.heap.size<wr.heap.size:=LH.o.lt;clear hO;go_wp2_with fail
     refine Jc 7 (JM [(5,Sp.know (.agg #[.bool false,.slice none 0 0,.bool false,.slice none 0 0,.int .u16 ((ν i:Int)+2),.int .u16 0,.int .u16 0,.int .u16 0]))]) (fun w'=>Below wr.heap.size wr w') (by kernel_rfl) (by kernel_rfl)
      (Jd (Sp.Jl _) Jk) (fun _ _ h hb=>h.trans (hb.mono h.size)) (zk.drew) ?_
     simp only[zx,zy,zv,zw]
     iterate 5
      (refine Jb rfl rfl ?_ (fun w' hw'=>?_) ?_;rotate_left;· (have hb':=Has.world hw';(have hs:=HS1.o _ hb');clear hw';go_simp;try rfl))
     (refine Jf rfl rfl (fun w' hw'=>?_) ?_;· (have hb':=Has.world hw';go_simp;((refine(Uu (ν i) w' (HV.o i hi)).mono ?_;rintro e w'' ⟨rfl,hb⟩;exact⟨_,rfl,rfl,hb⟩))))
     rintro _ rfl
     (refine Jb rfl rfl ?_ (fun w' hw'=>?_) ?_;rotate_left;· (have hb':=Has.world hw';(skip);clear hw';go_simp;try rfl))
     refine Jo (fun w5 hb5 hF5=>?_);clear hF5 HS1;have LH:=qh (LH.o.of_block (hb5.block _ LH.o.lt));have LT:=qh (LT.o.trans (Touch.of_below (hb5.mono zj)));have LO:=qh (fun j hj=>(LO.o j hj).below hb5)
     have hcq:∀ q,q<n*8->w5.cell? ⟨g,q,none⟩=some (OO2 i q):=fun q hq=>(hb5.cell (p:=⟨g,q,none⟩) hglt).trans (HCO.o q hq)
     have s0:=hcq (t*8) (by omega);have s1:=hcq (t*8+1) (by omega);have s2:=hcq (t*8+2) (by omega);have s3:=hcq (t*8+3) (by omega);have s4:=hcq (t*8+4) (by omega);have s5:=hcq (t*8+5) (by omega);have s6:=hcq (t*8+6) (by omega);have s7:=hcq (t*8+7) (by omega)
     have hfz:=fun q=>(hb5.frozen (p:=⟨g,q,none⟩) hglt).trans (hfz q)
     have hg5:g<w5.heap.size:=Nat.lt_of_lt_of_le hglt hb5.size;have ST:=qh (jgn (m:=mc (ν i)) HD.o LO.o hi hg (by rw[<- EN.o];exact ht));clear hb5 hcq HCO;go_wp2_with fail
     go_roundw
     case rel =>
      refine⟨t+1,by omega,by go_num,?_,?_,_,ST.o,?_,?_⟩
      ·exact jds LH.o (by omega) t (mc (ν i))
      ·exact LT.o.Zm (Or.inl ⟨i,hi,_,hg,rfl⟩) t (mc (ν i))
      ·intro j hj c hc;rw[if_neg (by omega)];exact LM.o.1 j hj c hc
      ·intro c hc;rw[if_pos rfl];unfold updT;by_cases e:c/8=t
       ·rw[if_pos e]
       ·rw[if_neg e];exact LM.o.2 c (by omega)
     case measure=>simp[intOf];omega
    ·obtain rfl:t=n:=by omega
     go_wp2_with fail
     go_roundw
     case rel =>
      refine⟨i+1,by omega,by go_num,LT.o,OO2,LO.o,fun j hj c hc=>?_⟩;by_cases e:j=i
      ·subst e;exact LM.o.2 c (by rw[EN.o];exact hc)
      ·exact LM.o.1 j (by omega) c hc
     case measure=>simp[intOf];omega
  ·obtain rfl:i=k:=by omega
   go_wp2_with fail
   (try simp only[Exit.inBlock,Exit.then])
   refine bodyPost_end (results_none rfl _ _ _) rfl ?_;exact⟨⟨_,rfl⟩,KT.o,fun j hj=>(KO.o j hj).congr fun c hc=>KM.o j hj c hc⟩
end Book
namespace Limb
open Go.RowKit Go.Sort Go.Fresh
theorem Yj (s:Bool) (a:Option Addr) (n c:Nat) (w:World):(Instr.field 26 (Jw s a n c) 1).run Tryz.prog w=.ok (.slice a n c) w:=by kernel_rfl
theorem nat_sum {o:Nat->Int} {n:Nat} (h:Dig o n):(((Ji o n).toNat:Nat):Int)=Ji o n:=by have:=(JE h).1;omega
theorem Uw (a b:Option Addr) (na ca nb cb:Nat) (oa ob:Nat->Int) (often:Int) (w:World) (ha:Rd w a na oa) (hb:Rd w b nb ob) (da:Dig oa na) (db:Dig ob nb) (hna:na<=200000000) (hnb:nb<=200000000) (ho:0<=often/\often<=999999999) :
  Calls Tryz.prog 258 #[.slice a na ca,.slice b nb cb,.int .u64 often] w fun e w'=>e=.returned (.bool (decide (Ji oa na<Ji ob nb*often)))/\Below w.heap.size w w':=by
 obtain⟨X,hX⟩:∃ X,X=(Ji oa na).toNat:=⟨_,rfl⟩;obtain⟨Y,hY⟩:∃ Y,Y=(Ji ob nb*often).toNat:=⟨_,rfl⟩
 have eX:(X:Int)=Ji oa na:=by rw[hX];exact nat_sum da
 have eY:(Y:Int)=Ji ob nb*often:=by
  have:=Int.mul_nonneg (JE db).1 ho.1;omega
 rw[<- eX,<- eY];have u1:=IntWalk.u32_in often (by omega);have CL:=qh (Xv a na ca oa w ha (by omega));have WD:=qh (fun (w':World) (h:Below w.heap.size w w')=>jcl b nb cb ob often w' (hb.below h) db hnb ho);rw[<- eY] at WD;have DA:=qh da;have HE:=qh eX.symm;have lX:=qh (show Ja X<=na by rw[hX];exact JQ da);obtain⟨LX,hLX⟩:∃ LX,LX=Ja X:=⟨_,rfl⟩;have HLX:=qh hLX;clear ha hb da db hX hY eX eY hLX;have hfld:=Yj;go_enter Tryz.func258,Tryz.ntmps258;go_wp2_with fail
 refine CL.o.mono ?_;rintro e w1 ⟨a1,c1,rfl,hO,hn,hb1⟩;have HO:=qh hO;have G1:=qh hb1;have CU:=qh (XV false a1 na c1 oa w1 hO.rd DA.o (by omega) hO.le hn);rw[show(Ji oa na).toNat=X by have:=HE.o;omega,Bool.false_and,<- HLX.o] at CU;clear hO hb1 hn CL;go_wp2_with fail
 refine CU.o.mono ?_;rintro e w2 ⟨rfl,hb2⟩;have RX:=qh (XB (HO.o.below hb2) DA.o HE.o).rd;have G2:=qh (G1.o.trans (hb2.mono G1.o.size));clear hb2 CU G1;go_wp2_with fail
 refine(WD.o _ G2.o).mono ?_;rintro e w3 ⟨g,p,rfl,hd,hs,hO,hb3⟩;have HP:=qh hO;have HD:=qh (And.intro hd hs);have G3:=qh (G2.o.trans (hb3.mono G2.o.size));have RX:=qh (RX.o.below hb3);have CU:=qh (XV false (some ⟨g,0,none⟩) (nb+1) (nb+1) p w3 hO.rd hd (by omega) zj (fun h=>by cases h));obtain⟨LY,hLY⟩:∃ LY,LY=Ja Y:=⟨_,rfl⟩;rw[show(Ji p (nb+1)).toNat=Y by omega,Bool.false_and,<- hLY] at CU
 have lY:=qh (show Ja Y<=nb+1 by
  have:=JQ hd
  rwa [show(Ji p (nb+1)).toNat=Y by omega] at this)
 have HLY:=qh hLY;clear hO hb3 WD G2 hd hs hLY;go_wp2_with fail
 refine CU.o.mono ?_;rintro e w4 ⟨rfl,hb4⟩;have AM:=qh (Xh X Y a1 (some ⟨g,0,none⟩) (Ja X) (Ja Y) w4 (RX.o.below hb4) (XB (HP.o.below hb4) HD.o.1 HD.o.2).rd (by have:=lX.o;omega) (by have:=lY.o;omega));rw[<- HLX.o,<- HLY.o] at AM;have G4:=qh (G3.o.trans (hb4.mono G3.o.size));clear hb4 CU G3;go_wp2_with fail
 refine AM.o.mono ?_;rintro e w5 ⟨rfl,m,rfl⟩
 have E:decide (Jv (X:Int) (Y:Int)<0)=decide ((X:Int)<(Y:Int)):=by
  refine decide_eq_decide.2 ?_
  rcases Int.lt_trichotomy (X:Int) (Y:Int) with h | h | h
  ·rw[JK h];omega
  ·rw[JX h];omega
  ·rw[JO h];omega
 have HEq:=qh E;clear E AM;go_wp2;go_ret;exact⟨by rw[<- HEq.o];rfl,Qi G4.o m⟩
end Limb
namespace Book
open Go.RowKit Go.Sort Go.Fresh Limb
theorem jfd {j:Nat} (h:j<=30000):0<=mk j/\mk j<=4294967295:=by unfold mk;omega
theorem Ux (j:Nat) (w:World) (h:j<=30000):Calls Tryz.prog 180 #[.int .i64 ((j:Int)+1)] w fun e w'=>e=.returned (.int .u32 (mk j))/\w'=w:=by
 have e1:=IntWalk.i64_in (1000+((j:Int)+1)) (by omega);have e2:=IntWalk.u32_in (1000+((j:Int)+1)) (by omega)
 have e3:1000+((j:Int)+1)=mk j:=by unfold mk;omega
 go_enter Tryz.func180,Tryz.ntmps180;go_wp2;go_ret;exact⟨rfl,rfl⟩
theorem isL_any (x:Int) (j:Nat) (w:World) (h:j<=30000):Calls Tryz.prog 192 #[.int .u32 x,.int .i64 ((j:Int)+1)] w fun e w'=>e=.returned (.bool (x==mk j))/\w'=w:=by
 have e1:=IntWalk.i64_in (1000+((j:Int)+1)) (by omega);have e2:=IntWalk.u32_in (1000+((j:Int)+1)) (by omega)
 have e3:1000+((j:Int)+1)=mk j:=by unfold mk;omega
 go_enter Tryz.func192,Tryz.ntmps192;go_wp2;go_ret;exact⟨rfl,rfl⟩
def Z9 (ν:Nat->Nat) (w:World) (vb k:Nat) (A:Nat->Option Addr) (N C:Nat->Nat) (X:Nat->Value):Prop :=
 ∃ m f,w.rowIs vb 159 m f/\∀ j,j<k->3*j+2<m/\f (3*j)=.slice (A j) (N j) (C j)/\f (3*j+1)=X j/\f (3*j+2)=.int .i64 ((ν j:Int)+1)
theorem Z9.cells {ν:Nat->Nat} {w:World} {vb k:Nat} {A:Nat->Option Addr} {N C:Nat->Nat} {X:Nat->Value} (h:Z9 ν w vb k A N C X) {j:Nat} (hj:j<k) :
  w.cell? ⟨vb,j*3,none⟩=some (.slice (A j) (N j) (C j))/\w.cell? ⟨vb,j*3+1,none⟩=some (X j)/\w.cell? ⟨vb,j*3+2,none⟩=some (.int .i64 ((ν j:Int)+1))/\(∀ i,w.frozen? ⟨vb,i,none⟩=false)/\vb<w.heap.size:=by
 obtain⟨m,f,hR,hE⟩:=h;obtain⟨h1,h2,h3,h4⟩:=hE j hj;rw[Nat.mul_comm j 3];exact⟨by rw[<- h2];exact hR.cell (by omega),by rw[<- h3];exact hR.cell (by omega),by rw[<- h4];exact hR.cell (by omega),hR.frozen,hR.lt⟩
theorem Z9.keep {ν:Nat->Nat} {w w':World} {vb k:Nat} {A:Nat->Option Addr} {N C:Nat->Nat} {X:Nat->Value} (h:Z9 ν w vb k A N C X) (e:w'.heap[vb]?=w.heap[vb]?):Z9 ν w' vb k A N C X:=by
 obtain⟨m,f,hR,hE⟩:=h;exact⟨m,f,hR.of_block e,hE⟩
theorem Z9.lt {ν:Nat->Nat} {w:World} {vb k:Nat} {A:Nat->Option Addr} {N C:Nat->Nat} {X:Nat->Value} (h:Z9 ν w vb k A N C X):vb<w.heap.size:=by
 obtain⟨m,f,hR,hE⟩:=h;exact hR.lt
theorem Z9.jao {ν:Nat->Nat} {w:World} {vb k:Nat} {A:Nat->Option Addr} {N C:Nat->Nat} {X:Nat->Value} (h:Z9 ν w vb k A N C X) (i:Nat) (v:Value):Z9 ν (w.setCell ⟨vb,i*3+1,none⟩ v) vb k A N C (fun j=>if j=i then v else X j):=by
 obtain⟨m,f,hR,hE⟩:=h;refine⟨m,_,hR.set (i*3+1) v,fun j hj=>?_⟩;obtain⟨h1,h2,h3,h4⟩:=hE j hj;refine⟨h1,?_,?_,?_⟩
 ·rw[if_neg (by omega)];exact h2
 ·show(if 3*j+1=i*3+1 then v else f (3*j+1))=if j=i then v else X j
  by_cases e:j=i
  ·subst e;rw[if_pos (by omega),if_pos rfl]
  ·rw[if_neg (by omega),if_neg e];exact h3
 ·rw[if_neg (by omega)];exact h4
theorem Z9.congr {ν:Nat->Nat} {w:World} {vb k:Nat} {A:Nat->Option Addr} {N C:Nat->Nat} {X Y:Nat->Value} (h:Z9 ν w vb k A N C X) (e:∀ j,j<k->X j=Y j):Z9 ν w vb k A N C Y:=by
 obtain⟨m,f,hR,hE⟩:=h;exact⟨m,f,hR,fun j hj=>by rw[<- e j hj];exact hE j hj⟩
theorem jgo (b vb k cap:Nat) (A:Nat->Option Addr) (N C:Nat->Nat) (O:Nat->Nat->Int) (f:Nat->Value) (ν:Nat->Nat) (w:World) (hk:k<=30000) (hν:∀ j,j<k->ν j<=30000) (hB:w.rowIs b 53 13 f) (hf:f 2=.slice (some ⟨vb,0,none⟩) k cap)
  (hA:Z9 ν w vb k A N C (fun _=>.slice none 0 0)) (hO:∀ j,j<k->Own 160 w 0 (A j) (N j) (C j) (O j)) (hN:∀ j,j<k->N j<=1000000000) (hS:¬UA k A b/\¬UA k A vb) (hD:Part k A) :
  Calls Tryz.prog 87 #[.pointer (some ⟨b,0,none⟩)] w fun e w'=>(∃ v,e=.returned v)/\Touch (UA k A) w w'/\∀ j,j<k->Own 160 w' 0 (A j) (N j) (C j) (fun _=>mk (ν j)):=by
 have HF:=qh hf;have HNU:=qh hν;have HB:=qh hB;have HA:=qh hA;have HO:=qh hO;have HS:=qh hS;have HD:=qh hD;have HN:=qh hN;clear hB hA hO hS hD hN hf hν;go_enter Tryz.func87,Tryz.ntmps87;go_wp2_with fail
 go_loopw [2] (fun v wr=>∃ i:Nat,i<=k/\v=.int .i64 i/\Touch (UA k A) w wr/\∃ OO:Nat->Nat->Int,(∀ j,j<k->Own 160 wr 0 (A j) (N j) (C j) (OO j))/\∀ j,j<i->∀ c,c<N j->OO j c=mk (ν j)) (fun v _=>k-(intOf v).toNat)
 case atStart=>exact⟨0,by omega,rfl,Touch.refl _ _,O,HO.o,fun j hj=>by omega⟩
 case round =>
  obtain⟨w1,rfl⟩:∃ w1,w1=wr:=⟨_,rfl⟩;obtain⟨i,hik,rfl,hT,OO,hOO,hM⟩:=hrel;have KT:=qh hT;have KO:=qh hOO;have KM:=qh hM;have KB:=qh (HB.o.of_block (hT.block _ HB.o.lt HS.o.1));have KA:=qh (HA.o.keep (hT.block _ HA.o.lt HS.o.2));clear hT hOO hM
  have b2:w1.cell? ⟨b,2,none⟩=some (.slice (some ⟨vb,0,none⟩) k cap):=by rw[<- HF.o];exact KB.o.cell (i:=2) (by omega)
  by_cases hi:i<k
  ·obtain⟨a0,a1,a2,-,hvb⟩:=KA.o.cells hi;obtain⟨a,ha⟩:∃ a,a=A i:=⟨_,rfl⟩;obtain⟨n,hn⟩:∃ n,n=N i:=⟨_,rfl⟩;obtain⟨c,hc⟩:∃ c,c=C i:=⟨_,rfl⟩;rw[<- ha,<- hn,<- hc] at a0;have EA:=qh ha;have EN:=qh hn;have EC:=qh hc
   have hnb:n<=1000000000:=by rw[hn];exact HN.o i hi
   clear ha hn hc;go_wp2_with fail
   go_loopw [4] (fun v wr2=>∃ t:Nat,t<=n/\v=.int .i64 t/\wr2.rowIs w1.heap.size 159 3 (hcell a n c (.slice none 0 0) ((ν i:Int)+1))/\Touch (UA k A) w wr2 /\
    ∃ OO:Nat->Nat->Int,(∀ j,j<k->Own 160 wr2 0 (A j) (N j) (C j) (OO j))/\(∀ j,j<i->∀ c,c<N j->OO j c=mk (ν j))/\∀ c,c<t->OO i c=mk (ν i)) (fun v _=>n-(intOf v).toNat)
   case atStart =>
    refine⟨0,by omega,rfl,?_,KT.o.alloc _,OO,fun j hj=>(KO.o j hj).below (zk.alloc zj _),KM.o,fun c hc=>by omega⟩
    have h:=World.rowIs_alloc w1 #[Value.slice a n c,Value.slice none 0 0,Value.int IntKind.i64 ((ν i:Int)+1)] 159 (hcell a n c (.slice none 0 0) ((ν i:Int)+1)) (fun q hq=>by
     match q,hq with
     | 0,_=>rfl
     | 1,_=>rfl
     | 2,_=>rfl)
    exact h
   case round =>
    obtain⟨t,htn,rfl,hH,hT2,OO2,hOO2,hM2,hM3⟩:=hrel;have LT:=qh hT2;have LO:=qh hOO2;have LM:=qh (And.intro hM2 hM3);have LH:=qh hH;have hwr:w.heap.size<=w1.heap.size:=KT.o.size;have hc0:wr.cell? ⟨w1.heap.size,0,none⟩=some (.slice a n c):=hH.cell (i:=0) (by omega);have hc2:wr.cell? ⟨w1.heap.size,2,none⟩=some (.int .i64 ((ν i:Int)+1)):=hH.cell (i:=2) (by omega);clear hH hT2 hOO2 hM2 hM3;by_cases ht:t<n
    ·obtain⟨g,hg⟩:=(LO.o i hi).Qj (by rw[<- EN.o];omega);obtain rfl:=EA.o.trans hg;have hO:=LO.o i hi;rw[<- EA.o,<- EN.o] at hO;obtain⟨vo,hco⟩:∃ vo,wr.cell? ⟨g,t,none⟩=some vo:=⟨_,hO.cell ht⟩;have hfz:=hO.fz;have hglt:=(hO.blk rfl).2.2;have hgw:g<w.heap.size:=((HO.o i hi).blk hg).2.2;have HS1:=qh (fun (w':World) (hb:Below wr.heap.size wr w')=>And.intro ((hb.cell (p:=⟨w1.heap.size,0,none⟩) LH.o.lt).trans hc0) ((hb.cell (p:=⟨w1.heap.size,2,none⟩) LH.o.lt).trans hc2));have hlt:w1.heap.size<wr.heap.size:=LH.o.lt;clear hO;go_wp2_with fail
     refine Jc 7 (JM [(5,Sp.know (.int .u32 (mk (ν i))))]) (fun w'=>Below wr.heap.size wr w') (by kernel_rfl) (by kernel_rfl)
      (Jd (Sp.Jl _) Jk) (fun _ _ h hb=>h.trans (hb.mono h.size)) (zk.drew) ?_
     simp only[zx,zy,zv,zw]
     iterate 5
      (refine Jb rfl rfl ?_ (fun w' hw'=>?_) ?_;rotate_left;· (have hb':=Has.world hw';(have hs:=HS1.o _ hb');clear hw';go_simp;try rfl))
     (refine Jf rfl rfl (fun w' hw'=>?_) ?_;· (have hb':=Has.world hw';go_simp;((refine(Ux (ν i) w' (HNU.o i hi)).mono ?_;rintro e w'' ⟨rfl,rfl⟩;exact⟨_,rfl,rfl,zk⟩))))
     rintro _ rfl
     (refine Jb rfl rfl ?_ (fun w' hw'=>?_) ?_;rotate_left;· (have hb':=Has.world hw';(skip);clear hw';go_simp;try rfl))
     refine Jo (fun w5 hb5 hF5=>?_);clear hF5 HS1;have LH:=qh (LH.o.of_block (hb5.block _ LH.o.lt));have LT:=qh (LT.o.trans (Touch.of_below (hb5.mono zj)));have LO:=qh (fun j hj=>(LO.o j hj).below hb5);have hco:=(hb5.cell (p:=⟨g,t,none⟩) hglt).trans hco
     have hfz:=fun q=>(hb5.frozen (p:=⟨g,q,none⟩) hglt).trans (hfz q)
     have ST:=qh (own_step HD.o LO.o hi hg (by rw[<- EN.o];exact ht) (jfd (HNU.o i hi)));clear hb5;go_wp2_with fail
     go_roundw
     case rel =>
      refine⟨t+1,by omega,by go_num,LH.o.setOther (by dsimp only;omega) _,LT.o.setCell (p:=⟨g,t,none⟩) (Or.inl ⟨i,hi,_,hg,rfl⟩) _,_,ST.o,?_,?_⟩
      ·intro j hj c hc;rw[if_neg (by omega)];exact LM.o.1 j hj c hc
      ·intro c hc;rw[if_pos rfl];by_cases e:c=t
       ·subst e;exact upd_same _ _ _
       ·rw[upd_ne _ _ e];exact LM.o.2 c (by omega)
     case measure=>simp[intOf];omega
    ·obtain rfl:t=n:=by omega
     go_wp2_with fail
     go_roundw
     case rel =>
      refine⟨i+1,by omega,by go_num,LT.o,OO2,LO.o,fun j hj c hc=>?_⟩;by_cases e:j=i
      ·subst e;exact LM.o.2 c (by rw[EN.o];exact hc)
      ·exact LM.o.1 j (by omega) c hc
     case measure=>simp[intOf];omega
  ·obtain rfl:i=k:=by omega
   go_wp2_with fail
   (try simp only[Exit.inBlock,Exit.then])
   refine bodyPost_end (results_none rfl _ _ _) rfl ?_;exact⟨⟨_,rfl⟩,KT.o,fun j hj=>(KO.o j hj).congr fun c hc=>KM.o j hj c hc⟩
structure ja9 (ν:Nat->Nat) (w wr:World) (vb k:Nat) (A:Nat->Option Addr) (N C:Nat->Nat) (i:Nat) (LA:Nat->Option Addr) (LC:Nat->Nat):Prop where
 tch:Touch (fun g=>UA k A g\/g=vb) w wr
 arr:Z9 ν wr vb k A N C (fun j=>if j<i then .slice (LA j) (N j+40) (LC j) else .slice none 0 0)
 own:∀ j,j<k->Own 160 wr 0 (A j) (N j) (C j) (fun _=>mk (ν j))
 lng:∀ j,j<i->Own 160 wr 0 (LA j) (N j+40) (LC j) (fun _=>mk (ν j))/\(LA j=A j\/∃ g,LA j=some ⟨g,0,none⟩/\w.heap.size<=g)
theorem jbm {ν:Nat->Nat} {w w1 wr:World} {vb k i c:Nat} {A LA:Nat->Option Addr} {N C LC:Nat->Nat} {a:Option Addr} {hv:Nat->Value} (GO:ja9 ν w w1 vb k A N C i LA LC) (hi:i<k) (G:jdr w1 wr (ν i) (N i) (A i) (C i) 40 a c hv)
  (hS:¬UA k A vb) (hD:Part k A) (hvb:vb<w.heap.size) (hA:∀ j,j<k->∀ p,A j=some p->p.block<w.heap.size) :
  ja9 ν w (wr.setCell ⟨vb,i*3+1,none⟩ (.slice a (N i+40) c)) vb k A N C (i+1) (fun j=>if j=i then a else LA j) (fun j=>if j=i then c else LC j):=by
 have hsz:=GO.tch.size
 have hnv:∀ j,j<k->∀ p,A j=some p->p.block≠vb:=fun j hj p hp e=>hS ⟨j,hj,p,hp,e⟩
 refine⟨?_,?_,fun j hj=>?_,fun j hj=>?_⟩
 ·exact(GO.tch.trans (G.tch.weak fun q _ ⟨p,hp,e⟩=>Or.inl ⟨i,hi,p,hp,e⟩)).setCell (p:=⟨vb,i*3+1,none⟩) (Or.inl (Or.inr rfl)) _
 ·refine((GO.arr.keep (G.tch.block _ (by omega) (fun ⟨p,hp,e⟩=>hnv i hi p hp e))).jao i _).congr fun j hj=>?_
  show(if j=i then _ else if j<i then _ else _)=(if j<i+1 then Value.slice (if j=i then a else LA j) _ (if j=i then c else LC j) else _);by_cases e:j=i
  ·subst e;rw[if_pos rfl,if_pos (by omega),if_pos rfl,if_pos rfl]
  ·rw[if_neg e,if_neg e,if_neg e];by_cases h:j<i
   ·rw[if_pos h,if_pos (by omega)]
   ·rw[if_neg h,if_neg (by omega)]
 ·have h1:Own 160 wr 0 (A j) (N j) (C j) (fun _=>mk (ν j)):=by
   by_cases e:j=i
   ·subst e;exact G.old
   ·exact(GO.own j hj).keep fun p hp=>G.tch.block _ (by have:=hA j hj p hp;omega) (fun ⟨q,hq,e'⟩=>hD j hj i hi e p q hp hq e'.symm)
  exact h1.keep fun p hp=>Below.heap_setCell _ _ _ _ (hnv j hj p hp)
 ·by_cases e:j=i
  ·subst e;rw[if_pos rfl,if_pos rfl];refine⟨G.own.keep fun p hp=>Below.heap_setCell _ _ _ _ ?_,?_⟩
   ·rcases G.plc with ⟨h,_⟩ | ⟨g,h,hlt⟩
    ·exact hnv j hi p (h▸hp)
    ·rw[h] at hp;cases hp;dsimp only;omega
   ·rcases G.plc with ⟨h,_⟩ | ⟨g,h,hlt⟩
    ·exact .inl h
    ·exact .inr ⟨g,h,by omega⟩
  ·rw[if_neg e,if_neg e];obtain⟨h1,h2⟩:=GO.lng j (by omega)
   have hne:∀ p,LA j=some p->p.block≠vb/\∀ q,A i=some q->q.block≠p.block:=by
    intro p hp
    rcases h2 with h | ⟨g,h,hlt⟩
    ·rw[h] at hp;exact⟨hnv j (by omega) p hp,fun q hq e'=>hD j (by omega) i hi e p q hp hq e'.symm⟩
    ·rw[h] at hp;cases hp
     exact⟨by dsimp only;omega,fun q hq=>by have:=hA i hi q hq;dsimp only;omega⟩
   refine⟨(h1.keep fun p hp=>G.tch.block _ (h1.blk hp).2.2 (fun ⟨q,hq,e'⟩=>(hne p hp).2 q hq e')).keep fun p hp=>Below.heap_setCell _ _ _ _ (hne p hp).1,h2⟩
theorem jgp (b vb k cap:Nat) (A:Nat->Option Addr) (N C:Nat->Nat) (f:Nat->Value) (ν:Nat->Nat) (w:World) (hk:k<=30000) (hν:∀ j,j<k->ν j<=30000) (hB:w.rowIs b 53 13 f) (hf:f 2=.slice (some ⟨vb,0,none⟩) k cap)
  (hA:Z9 ν w vb k A N C (fun _=>.slice none 0 0)) (hO:∀ j,j<k->Own 160 w 0 (A j) (N j) (C j) (fun _=>mk (ν j))) (hN:∀ j,j<k->N j<=900000000) (hS:¬UA k A b/\¬UA k A vb) (hD:Part k A) (hbv:b≠vb) :
  Calls Tryz.prog 99 #[.pointer (some ⟨b,0,none⟩)] w fun e w'=>(∃ v,e=.returned v)/\∃ LA LC,ja9 ν w w' vb k A N C k LA LC:=by
 have HF:=qh hf;have HNU:=qh hν;have HB:=qh hB;have HA:=qh hA;have HO:=qh hO;have HS:=qh hS;have HD:=qh hD;have HN:=qh hN;have HV:=qh (And.intro hA.lt fun j hj p hp=>((hO j hj).blk (p:=p) hp).2.2);clear hB hA hO hS hD hN hf hν;go_enter Tryz.func99,Tryz.ntmps99;go_wp2_with fail
 go_loopw [2] (fun v wr=>∃ i:Nat,i<=k/\v=.int .i64 i/\∃ LA LC,ja9 ν w wr vb k A N C i LA LC) (fun v _=>k-(intOf v).toNat)
 case atStart=>exact⟨0,by omega,rfl,fun _=>none,fun _=>0,Touch.refl _ _,HA.o.congr (fun j _=>by rw[if_neg (by omega)]),HO.o,fun j hj=>by omega⟩
 case round =>
  obtain⟨w1,rfl⟩:∃ w1,w1=wr:=⟨_,rfl⟩;obtain⟨i,hik,rfl,LA,LC,hG⟩:=hrel;have KG:=qh hG;have KB:=qh (HB.o.of_block (hG.tch.block _ HB.o.lt (fun h=>h.elim HS.o.1 (fun h=>hbv h))));clear hG
  have b2:w1.cell? ⟨b,2,none⟩=some (.slice (some ⟨vb,0,none⟩) k cap):=by rw[<- HF.o];exact KB.o.cell (i:=2) (by omega)
  by_cases hi:i<k
  ·obtain⟨a0,a1,a2,-,hvb⟩:=KG.o.arr.cells hi;rw[if_neg (by omega)] at a1;obtain⟨n,hn⟩:∃ n,n=N i:=⟨_,rfl⟩;obtain⟨ai,ha⟩:∃ ai,ai=A i:=⟨_,rfl⟩;obtain⟨ci,hc⟩:∃ ci,ci=C i:=⟨_,rfl⟩;rw[<- ha,<- hn,<- hc] at a0
   have hnb:n<=900000000:=by rw[hn];exact HN.o i hi
   have EA:=qh ha;have EN:=qh hn;have EC:=qh hc
   have G0:=qh (show jdr w1 (w1.alloc (.cells #[.slice ai n ci,.slice none 0 0,.int .i64 ((ν i:Int)+1)] 159)) (ν i) n ai ci 0 ai ci (hcell ai n ci (.slice none 0 0) ((ν i:Int)+1)) from by
    have h1:=KG.o.own i hi;rw[<- ha,<- hn,<- hc] at h1;have h2:=h1.below (zk.alloc zj (.cells #[.slice ai n ci,.slice none 0 0,.int .i64 ((ν i:Int)+1)] 159))
    exact⟨h2,h2,.inl ⟨rfl,rfl⟩,World.rowIs_alloc w1 #[Value.slice ai n ci,Value.slice none 0 0,Value.int IntKind.i64 ((ν i:Int)+1)] 159 (hcell ai n ci (.slice none 0 0) ((ν i:Int)+1)) (fun q hq=>by
     match q,hq with
     | 0,_=>rfl
     | 1,_=>rfl
     | 2,_=>rfl),(Touch.refl _ _).alloc _,fun p hp=>(h1.blk hp).2.2⟩)
   clear ha hn hc;go_wp2_with fail
   go_loopw [4,5] (fun v u wr=>∃ t:Nat,t<=40/\u=.int .i64 t/\∃ a c,v=.slice a (n+t) c/\jdr w1 wr (ν i) n ai ci t a c (hcell ai n ci (.slice none 0 0) ((ν i:Int)+1))) (fun _ u _=>40-(intOf u).toNat)
   case atStart=>exact⟨0,by omega,rfl,ai,ci,rfl,G0.o⟩
   case round =>
    obtain⟨t,ht40,rfl,a,c,rfl,hI⟩:=hrel;have LI:=qh hI;have hc2:wr.cell? ⟨w1.heap.size,2,none⟩=some (.int .i64 ((ν i:Int)+1)):=hI.box.cell (i:=2) (by omega);have hlt:=hI.box.lt;clear hI;by_cases ht:t<40
    ·go_wp2_with (first
      | (go_at_call 180;refine(Ux (ν i) _ (HNU.o i hi)).mono ?_;rintro e w2 ⟨rfl,hw2⟩;obtain rfl:=hw2.symm)
      | (at_builtin;refine Zr rfl _ _ rfl (by rfl) (LI.o.own.JF _) (by omega) (Nat.zero_le _) (v:=mk (ν i)) (by rfl) ?c1 (jfd (HNU.o i hi)) (by rfl) ?_))
     case c1=>simp
     intro a' c' w2 hown hcase;have NI:=qh (grow_step LI.o hown hcase);clear hown hcase;go_wp2_with fail
     go_roundw
     case rel=>exact⟨t+1,by omega,by go_num,a',c',rfl,NI.o⟩
     case measure=>simp[intOf];omega
    ·obtain rfl:t=40:=by omega
     have b3:=(LI.o.tch.block _ (show b<w1.heap.size from KB.o.lt) (fun ⟨p,hp,e⟩=>HS.o.1 ⟨i,hi,p,EA.o▸hp,e⟩))
     have b4:wr.cell? ⟨b,2,none⟩=some (.slice (some ⟨vb,0,none⟩) k cap):=by rw[<- HF.o];exact(KB.o.of_block b3).cell (i:=2) (by omega)
     have v3:=(KG.o.arr.keep (LI.o.tch.block _ (show vb<w1.heap.size from hvb) (fun ⟨p,hp,e⟩=>HS.o.2 ⟨i,hi,p,EA.o▸hp,e⟩))).cells hi;obtain⟨v30,v31,v32,v33,v34⟩:=v3;rw[if_neg (by omega)] at v31;have HG:=qh (jbm KG.o hi (by rw[<- EA.o,<- EN.o,<- EC.o];exact LI.o) HS.o.2 HD.o HV.o.1 HV.o.2);rw[<- EN.o] at HG;clear b2 b3 a0 a1 a2 v30 v32;go_wp2_with fail
     go_roundw
     case rel=>exact⟨i+1,by omega,by go_num,_,_,HG.o⟩
     case measure=>simp[intOf];omega
  ·obtain rfl:i=k:=by omega
   go_wp2_with fail
   (try simp only[Exit.inBlock,Exit.then])
   refine bodyPost_end (results_none rfl _ _ _) rfl ?_;exact⟨⟨_,rfl⟩,LA,LC,KG.o⟩
theorem jgq (b vb k cap:Nat) (A LA:Nat->Option Addr) (N C LC:Nat->Nat) (f:Nat->Value) (ν:Nat->Nat) (w:World) (hk:k<=30000) (hν:∀ j,j<k->ν j<=30000) (hB:w.rowIs b 53 13 f) (hf:f 2=.slice (some ⟨vb,0,none⟩) k cap)
  (hA:Z9 ν w vb k A N C (fun j=>.slice (LA j) (N j+40) (LC j))) (hO:∀ j,j<k->Own 160 w 0 (A j) (N j) (C j) (fun _=>mk (ν j))) (hL:∀ j,j<k->Own 160 w 0 (LA j) (N j+40) (LC j) (fun _=>mk (ν j))) (hN:∀ j,j<k->N j<=900000000) :
  Calls Tryz.prog 111 #[.pointer (some ⟨b,0,none⟩)] w fun e w'=>e=.returned (.bool true)/\Below w.heap.size w w':=by
 have HF:=qh hf;have HNU:=qh hν;have HB:=qh hB;have HA:=qh hA;have HO:=qh hO;have HL:=qh hL;have HN:=qh hN;clear hB hA hO hL hN hf hν;go_enter Tryz.func111,Tryz.ntmps111;go_wp2_with fail
 go_loopw [3] (fun v wr=>∃ i:Nat,i<=k/\v=.int .i64 i/\Below w.heap.size w wr) (fun v _=>k-(intOf v).toNat)
 case atStart=>exact⟨0,by omega,rfl,zk⟩
 case round =>
  obtain⟨w1,rfl⟩:∃ w1,w1=wr:=⟨_,rfl⟩;obtain⟨i,hik,rfl,hG⟩:=hrel;have KG:=qh hG;have KB:=qh (HB.o.of_block (hG.block _ HB.o.lt));have KA:=qh (HA.o.keep (hG.block _ HA.o.lt));clear hG
  have b2:w1.cell? ⟨b,2,none⟩=some (.slice (some ⟨vb,0,none⟩) k cap):=by rw[<- HF.o];exact KB.o.cell (i:=2) (by omega)
  by_cases hi:i<k
  ·obtain⟨a0,a1,a2,-,hvb⟩:=KA.o.cells hi;have O1:=(HO.o i hi).below KG.o;have L1:=(HL.o i hi).below KG.o;obtain⟨n,hn⟩:∃ n,n=N i:=⟨_,rfl⟩;obtain⟨ai,ha⟩:∃ ai,ai=A i:=⟨_,rfl⟩;obtain⟨ci,hc⟩:∃ ci,ci=C i:=⟨_,rfl⟩;obtain⟨lc,hlc⟩:∃ lc,lc=LC i:=⟨_,rfl⟩;obtain⟨gq,hlg⟩:=L1.Qj (by omega);rw[<- hlc,hlg,<- hn] at L1 a1;rw[<- ha,<- hn,<- hc] at a0 O1
   have hnb:n<=900000000:=by rw[hn];exact HN.o i hi
   have LO:=qh O1;have LL:=qh L1;obtain⟨W,hW⟩:∃ W,W=w1.alloc (.cells #[.slice ai n ci,.slice (some ⟨gq,0,none⟩) (n+40) lc,.int .i64 ((ν i:Int)+1)] 159):=⟨_,rfl⟩
   have R:=World.rowIs_alloc w1 #[Value.slice ai n ci,Value.slice (some ⟨gq,0,none⟩) (n+40) lc,Value.int IntKind.i64 ((ν i:Int)+1)] 159 (hcell ai n ci (.slice (some ⟨gq,0,none⟩) (n+40) lc) ((ν i:Int)+1)) (fun q hq=>by
     match q,hq with
     | 0,_=>rfl
     | 1,_=>rfl
     | 2,_=>rfl)
   rw[<- hW] at R;have WB:=qh (show Below w1.heap.size w1 W by rw[hW];exact zk.alloc zj _);have WR:=qh (show W.rowIs w1.heap.size 159 3 (hcell ai n ci (.slice (some ⟨gq,0,none⟩) (n+40) lc) ((ν i:Int)+1)) from R);have HW:=qh hW;have e40:=IntWalk.i64_in ((n:Int)+40) (by omega)
   have ec:((n+40:Nat):Int)=(n:Int)+40:=by omega
   clear ha hn hc hlc O1 L1 R hW hlg
   go_upto_region 5 with (fail)
   rw[show(w1.alloc (.cells #[.slice ai n ci,.slice (some ⟨gq,0,none⟩) (n+40) lc,.int .i64 ((ν i:Int)+1)] 159))=W from HW.o.symm];have h0:W.cell? ⟨w1.heap.size,0,none⟩=some (.slice ai n ci):=WR.o.cell (i:=0) (by omega);have h1:W.cell? ⟨w1.heap.size,1,none⟩=some (.slice (some ⟨gq,0,none⟩) (n+40) lc):=WR.o.cell (i:=1) (by omega);have h2:W.cell? ⟨w1.heap.size,2,none⟩=some (.int .i64 ((ν i:Int)+1)):=WR.o.cell (i:=2) (by omega);go_wp2_with fail
   go_loopw [5] (fun v wr=>∃ t:Nat,t<=n+40/\v=.int .i64 t/\∃ m,wr=W.drewN m) (fun v _=>n+40-(intOf v).toNat)
   case atStart=>exact⟨0,by omega,rfl,0,rfl⟩
   case round =>
    obtain⟨t,htn,rfl,hm⟩:=hrel;have HM:=qh hm
    have cw:∀ p,wr.cell? p=W.cell? p:=by obtain⟨m,rfl⟩:=hm;intro p;rfl
    clear hm;have g0:wr.cell? ⟨w1.heap.size,0,none⟩=some (.slice ai n ci):=(cw _).trans h0;have g1:wr.cell? ⟨w1.heap.size,1,none⟩=some (.slice (some ⟨gq,0,none⟩) (n+40) lc):=(cw _).trans h1;have g2:wr.cell? ⟨w1.heap.size,2,none⟩=some (.int .i64 ((ν i:Int)+1)):=(cw _).trans h2;have IS:=qh (fun (v1:World)=>isL_any (mk (ν i)) (ν i) v1 (HNU.o i hi));rw[show(mk (ν i)==mk (ν i))=true by simp] at IS;by_cases ht:t<n+40
    ·have c1:wr.cell? ⟨gq,t,none⟩=some (.int .u32 (mk (ν i))):=(cw _).trans ((LL.o.below WB.o).cell ht)
     have x1:(t:Int)<(n:Int)+40:=by omega
     by_cases ht2:t<n
     ·obtain⟨g,rfl⟩:=LO.o.Qj (by omega);have c2:wr.cell? ⟨g,t,none⟩=some (.int .u32 (mk (ν i))):=(cw _).trans ((LO.o.below WB.o).cell ht2)
      have x2:(t:Int)<(n:Int):=by omega
      clear cw h0 h1 h2;go_wp2_with fail
      go_quiet (first | with_reducible exact ZV (IS.o _));go_wp2_with fail
      go_roundw
      case rel=>exact⟨t+1,by omega,by go_num,by obtain⟨m,e⟩:=HM.o;exact⟨_,by rw[e,World.drewN_drewN]⟩⟩
      case measure=>simp[intOf];omega
     ·have x2:¬(t:Int)<(n:Int):=by omega
      clear cw h0 h1 h2;go_wp2_with fail
      go_quiet (first | with_reducible exact ZV (IS.o _));go_wp2_with fail
      go_roundw
      case rel=>exact⟨t+1,by omega,by go_num,by obtain⟨m,e⟩:=HM.o;exact⟨_,by rw[e,World.drewN_drewN]⟩⟩
      case measure=>simp[intOf];omega
    ·have x1:¬(t:Int)<(n:Int)+40:=by omega
     obtain rfl:t=n+40:=by omega
     go_wp2_with fail
     go_roundw
     case rel=>exact⟨i+1,by omega,by go_num,by obtain⟨m,e⟩:=HM.o;rw[e];exact Qi (KG.o.trans (WB.o.mono KG.o.size)) _⟩
     case measure=>simp[intOf];omega
  ·obtain rfl:i=k:=by omega
   go_wp2_with fail
   go_ret;exact⟨rfl,KG.o⟩
theorem info8T:(Tryz.prog.info? 71).map (fun i=>(i.zero,i.size,i.bytes))=some (some (.agg #[.bool false,.slice none 0 0,.bool false,.slice none 0 0,.int .u16 0,.int .u16 0,.int .u16 0,.int .u16 0]),8,72):=by kernel_rfl
def vcs (F:Nat->Value) (k:Nat):List Value:=(List.range k).map F
theorem Qn (F:Nat->Value) (k:Nat):(vcs F k).length=k:=by unfold vcs;rw[List.length_map,List.length_range]
theorem Y9 (F:Nat->Value) {k i:Nat} (h:i<k):(vcs F k)[i]?=some (F i):=by unfold vcs;rw[List.getElem?_map,List.getElem?_range h];rfl
theorem VG {F:Nat->Value} {k i:Nat} {v:Value} (h:(vcs F k)[i]?=some v):i<k/\v=F i:=by
 have hi:=(List.getElem?_eq_some_iff.1 h).1;rw[Qn] at hi;rw[Y9 F hi] at h;exact⟨hi,(Option.some.inj h).symm⟩
def Va (F:Nat->Value) (n:Nat) (m:Nat->Value) (i:Nat):Value:=if i<n*8 then F i else m (i-n*8)
theorem push_get {F:Nat->Value} {n:Nat} {m:Nat->Value} {i:Nat} (h:i<(n+1)*8):(vcs F (n*8)++vcs m 8)[i]?=some (Va F n m i):=by
 unfold Va;by_cases e:i<n*8
 ·rw[List.getElem?_append_left (by rw[Qn];exact e),Y9 F e,if_pos e]
 ·rw[List.getElem?_append_right (by rw[Qn];omega),Qn,Y9 m (by omega),if_neg e]
theorem jgr {w:World} {base:Nat} {a:Option Addr} {n cap:Nat} {F:Nat->Value} (h:J5 w base a n cap F) (hn:n<=1000000000) (hb:base<=w.heap.size) {gs:Nat} {mm:Nat->Value} (hc:∀ i,i<8->w.cell? ⟨gs,i,none⟩=some (mm i)) (h1:∀ i,i<8->(mm i).oneCell'=true) (ty m c:Nat) (hm:m=1) :
  ∃ a' cap' w',(Builtin.append_ #[22,22] ty #[.slice a n cap,.slice (some ⟨gs,0,none⟩) m c]).run Tryz.prog w=.ok (.slice a' (n+1) cap') w'/\J5 w' base a' (n+1) cap' (Va F n mm) /\
   ((a'=a/\cap'=cap/\w.grownBy w' (a.map (·.block)))\/((∃ g,a'=some ⟨g,0,none⟩/\w.heap.size<=g)/\w.grownBy w' none/\cap<n+1)):=by
 subst hm;obtain⟨i0,hi,hz0,hz1,hz2⟩:=info_parts info8T
 have hnews:∀ j u,(vcs mm 8)[j]?=some u->w.cell? ((⟨gs,0,none⟩:Addr).add j)=some u:=by
  intro j u hj;obtain⟨h2,rfl⟩:=VG hj;rw[Addr.add_lit,Nat.zero_add];exact hc j h2
 have hone:∀ u∈vcs mm 8,u.oneCell'=true:=fun u hu=>by
  obtain⟨j,hj⟩:=List.mem_iff_getElem?.1 hu;obtain⟨h2,rfl⟩:=VG hj;exact h1 j h2
 have hzs:∀ k,(Builtin.zeroCells (Value.agg #[.bool false,.slice none 0 0,.bool false,.slice none 0 0,.int .u16 0,.int .u16 0,.int .u16 0,.int .u16 0]).cells k).size=k*8:=fun k=>by rw[size_zeroCells];rfl
 have grownOwn:∀ old,old<n+1->J5 (w.drew.alloc (.cells ((vcs F (n*8)).toArray++(vcs mm 8).toArray++Builtin.zeroCells (Value.agg #[.bool false,.slice none 0 0,.bool false,.slice none 0 0,.int .u16 0,.int .u16 0,.int .u16 0,.int .u16 0]).cells (grownCap w (n+1) old 71-(n+1))) 71)) base (some ⟨w.heap.size,0,none⟩) (n+1) (grownCap w (n+1) old 71) (Va F n mm) /\
   w.grownBy (w.drew.alloc (.cells ((vcs F (n*8)).toArray++(vcs mm 8).toArray++Builtin.zeroCells (Value.agg #[.bool false,.slice none 0 0,.bool false,.slice none 0 0,.int .u16 0,.int .u16 0,.int .u16 0,.int .u16 0]).cells (grownCap w (n+1) old 71-(n+1))) 71)) none:=by
  intro old ho;have hge:=grownCap_ge w (n+1) old 71;refine⟨⟨hge,Or.inr ⟨w.heap.size,_,rfl,hb,heap_alloc_new w.drew _,?_,fun i hi=>?_⟩⟩,⟨rfl,rfl,rfl,by simp,fun k hk _=>heap_alloc_old w.drew _ hk⟩⟩
  ·rw[Array.size_append,Array.size_append,List.size_toArray,List.size_toArray,Qn,Qn,hzs];omega
  ·rw[Array.getElem?_append_left (by rw[Array.size_append,List.size_toArray,List.size_toArray,Qn,Qn];omega),<- Array.getElem?_toList,Array.toList_append];exact push_get hi
 rcases h.place with ⟨rfl,rfl,rfl⟩ | ⟨g,cur,rfl,hbg,hg,hcap,hcc⟩
 ·have hr:=run_append_nil (P:=Tryz.prog) w 22 ty 71 i0 _ Tryz.underlying22 hi hz0 ⟨gs,0,none⟩ 1 c (vcs mm 8) (by rw[hz1,Qn]) hnews (by omega) (by omega) (by rw[hz2];omega);have hgr:=grownOwn 0 (by omega);simp only[Nat.zero_add,Nat.zero_mul,vcs,List.range_zero,List.map_nil,Array.empty_append] at hgr;exact⟨_,_,_,hr,hgr.1,Or.inr ⟨⟨_,rfl,zj⟩,hgr.2,by omega⟩⟩
 ·by_cases hroom:n+1<=cap
  ·have hr:=run_append_room (P:=Tryz.prog) w 22 ty 71 i0 Tryz.underlying22 hi g n cap cur hg ⟨gs,0,none⟩ 1 c (vcs mm 8) (by rw[hz1,Qn]) hnews hone hroom (by rw[hz1,Qn];omega);refine⟨_,_,_,hr,⟨hroom,Or.inr ⟨g,_,rfl,hbg,setRow_heap w g cur _ _ _ hg,?_,fun i hi=>?_⟩⟩,Or.inl ⟨rfl,rfl,⟨rfl,rfl,rfl,by simp,fun k _ hk=>setRow_other w g k _ (fun e=>hk (by simp[e]))⟩⟩⟩
   ·simp only[List.size_toArray,List.length_append,List.length_take,List.length_drop,Array.length_toList,Qn,hz1];omega
   ·rw[hz1,List.getElem?_toArray,List.append_assoc]
    have hlt:(cur.toList.take (n*8)).length=n*8:=by rw[List.length_take,Array.length_toList];omega
    unfold Va;by_cases e:i<n*8
    ·rw[List.getElem?_append_left (by rw[hlt];exact e),List.getElem?_take,if_pos e,Array.getElem?_toList,hcc i e,if_pos e]
    ·rw[List.getElem?_append_right (by rw[hlt];omega),hlt,List.getElem?_append_left (by rw[Qn];omega),Y9 mm (by omega),if_neg e]
  ·have holds:∀ j u,(vcs F (n*8))[j]?=some u->w.cell? ((⟨g,0,none⟩:Addr).add j)=some u:=by
    intro j u hj;obtain⟨hj1,rfl⟩:=VG hj;rw[Addr.add_lit,Nat.zero_add,cell_of_row _ _ _ _ _ _ hg];exact hcc j hj1
   have hle:=h.le;have hr:=run_append_grow (P:=Tryz.prog) w 22 ty 71 i0 _ Tryz.underlying22 hi hz0 ⟨g,0,none⟩ n cap (vcs F (n*8)) (by rw[Qn,hz1]) holds ⟨gs,0,none⟩ 1 c (vcs mm 8) (by rw[hz1,Qn]) hnews (by omega) (by omega) (growslice_fits (by omega) (by rw[hz2];omega));have hgr:=grownOwn cap (by omega);exact⟨_,_,_,hr,hgr.1,Or.inr ⟨⟨_,rfl,zj⟩,hgr.2,by omega⟩⟩
theorem U0 {ops:Array Oper} {rest:List Oper} {oo:Oper} {ac:Act} {Q:Exit->Act->World->Prop} (hgd:oo.guard=none) (s x:Operand)
  (ho:oo.op=.call { callee:=.builtin .append,args:=#[s,x],argTypes:=#[22,22] })
  {w:World} {base:Nat} {a:Option Addr} {n cap:Nat} {F:Nat->Value} (hs:ac.eval s=.slice a n cap) (h:J5 w base a n cap F) (hn:n<=1000000000) (hb:base<=w.heap.size)
  {gs:Nat} {mm:Nat->Value} {m c:Nat} (hx:ac.eval x=.slice (some ⟨gs,0,none⟩) m c) (hc:∀ i,i<8->w.cell? ⟨gs,i,none⟩=some (mm i)) (h1:∀ i,i<8->(mm i).oneCell'=true) (hm:m=1)
  (hK:∀ a' cap' w',J5 w' base a' (n+1) cap' (Va F n mm)->((a'=a/\cap'=cap/\w.grownBy w' (a.map (·.block)))\/((∃ g,a'=some ⟨g,0,none⟩/\w.heap.size<=g)/\w.grownBy w' none/\cap<n+1)) ->
   wpList Tryz.prog ops Q rest (ac.put oo.dst (.slice a' (n+1) cap')) w'):wpList Tryz.prog ops Q (oo :: rest) ac w:=by
 refine wpList_plain hgd fun K hK'=>?_
 obtain⟨a',cap',w',hr,h2,h3⟩:=jgr h hn hb hc h1 oo.type m c hm;unfold Oper.wp execOp;simp only[ho,resolve,invoke,builtin,Sem.run_bind,Sem.run_pure,Result.andThen_ok,List.map_toArray,List.map_cons,List.map_nil,hs,hx,hr];exact hK' _ _ (hK _ _ _ h2 h3)
theorem ZW.congr {ν:Nat->Nat} {w:World} {vb k:Nat} {A:Nat->Option Addr} {N C:Nat->Nat} {X Y:Nat->Value} (h:ZW ν w vb k A N C X) (e:∀ j,j<k->X j=Y j):ZW ν w vb k A N C Y:=by
 obtain⟨m,f,hR,hE⟩:=h;exact⟨m,f,hR,fun j hj=>by rw[<- e j hj];exact hE j hj⟩
def mcf (j:Nat):Nat->Value:=fun c=>mc j (c%8)
theorem mc_one (j i:Nat) (_:i<8):(mc j i).oneCell'=true:=by
 unfold mc
 split <;> rfl
theorem mc_cell (w:World) (j:Nat) {q:Nat} (h:q<8):(w.alloc (.cells #[.bool false,.slice none 0 0,.bool false,.slice none 0 0,.int .u16 ((j:Int)+2),.int .u16 0,.int .u16 0,.int .u16 0] 71)).cell? ⟨w.heap.size,q,none⟩=some (mc j q):=by
 rw[cell_of_row _ _ _ _ _ _ (heap_alloc_new w _)]
 match q,h with
 | 0,_=>rfl
 | 1,_=>rfl
 | 2,_=>rfl
 | 3,_=>rfl
 | 4,_=>rfl
 | 5,_=>rfl
 | 6,_=>rfl
 | 7,_=>rfl
structure ZX (w1 wr:World) (i n:Nat) (ai:Option Addr) (ci t:Nat) (a:Option Addr) (c:Nat) (hv:Nat->Value):Prop where
 own:J5 wr 0 a (n+t) c (mcf i)
 old:J5 wr 0 ai n ci (mcf i)
 plc:(a=ai/\c=ci)\/∃ g,a=some ⟨g,0,none⟩/\w1.heap.size<g
 box:wr.rowIs w1.heap.size 152 3 hv
 tch:Touch (fun g=>∃ p,ai=some p/\p.block=g) w1 wr
 olt:∀ p,ai=some p->p.block<w1.heap.size
theorem ZX.below {w1 wr w2:World} {i n t c ci:Nat} {a ai:Option Addr} {hv:Nat->Value} (G:ZX w1 wr i n ai ci t a c hv) (hb:Below wr.heap.size wr w2):ZX w1 w2 i n ai ci t a c hv :=
 ⟨G.own.below hb,G.old.below hb,G.plc,G.box.of_block (hb.block _ G.box.lt),G.tch.trans (Touch.of_below hb),G.olt⟩
theorem J5.less {w:World} {base:Nat} {a:Option Addr} {n cap L:Nat} {F:Nat->Value} (h:J5 w base a n cap F) (hL:L<=n):J5 w base a L cap F:=by
 refine⟨zm hL h.le,?_⟩
 rcases h.place with ⟨e0,h0,h1⟩ | ⟨g,cur,ha,hbg,hg,hcap,hc⟩
 ·exact Or.inl ⟨e0,by omega,h1⟩
 ·exact Or.inr ⟨g,cur,ha,hbg,hg,hcap,fun i hi=>hc i (by omega)⟩
theorem jdt {w1 wr w2:World} {i n t c ci c':Nat} {a ai a':Option Addr} {hv:Nat->Value} {o:Obj} (G:ZX w1 wr i n ai ci t a c hv) (hown:J5 w2 0 a' (n+t+1) c' (Va (mcf i) (n+t) (mc i)))
  (hcase:(a'=a/\c'=c/\(wr.alloc o).grownBy w2 (a.map (·.block)))\/((∃ g,a'=some ⟨g,0,none⟩/\wr.heap.size+1<=g)/\(wr.alloc o).grownBy w2 none/\c<n+t+1)) :
  ZX w1 w2 i n ai ci (t+1) a' c' hv:=by
 have hown':J5 w2 0 a' (n+(t+1)) c' (mcf i):=hown.congr fun q hq=>by unfold Va mcf;split;rfl;rw[show q-(n+t)*8=q%8 by omega]
 have hsz:=G.tch.size;have hbx:=G.box.lt
 have oldw:J5 (wr.alloc o) 0 ai n ci (mcf i):=G.old.keep fun p hp=>Below.heap_alloc _ _ _ (by have:=G.olt p hp;omega)
 have boxw:(wr.alloc o).rowIs w1.heap.size 152 3 hv:=G.box.alloc o;have tchw:=G.tch.alloc o
 rcases hcase with ⟨rfl,rfl,hg⟩ | ⟨⟨g,rfl,hlt⟩,hg,-⟩
 ·rcases G.plc with ⟨rfl,rfl⟩ | ⟨g,rfl,hlt⟩
  ·refine⟨hown',hown'.less (by omega),.inl ⟨rfl,rfl⟩,boxw.of_block (hg.block _ (by simp;omega) (fun e=>?_)),tchw.grown hg (fun q hq=>?_),G.olt⟩
   ·cases h:a' with
    | none=>rw[h] at e;cases e
    | some p=>rw[h] at e;simp at e;have:=G.olt p h;omega
   ·cases h:a' with
    | none=>rw[h] at hq;cases hq
    | some p=>rw[h] at hq;simp at hq;exact .inl ⟨p,rfl,hq⟩
  ·refine⟨hown',oldw.keep (fun p hp=>hg.block _ (by have:=G.olt p hp;simp;omega) (fun e=>by have:=G.olt p hp;simp at e;omega)),.inr ⟨g,rfl,hlt⟩,boxw.of_block (hg.block _ (by simp;omega) (fun e=>by simp at e;omega)),
    tchw.grown hg (fun q hq=>.inr (by simp at hq;omega)),G.olt⟩
 ·refine⟨hown',oldw.keep (fun p hp=>hg.block _ (by have:=G.olt p hp;simp;omega) (fun e=>by cases e)),.inr ⟨g,rfl,by omega⟩,boxw.of_block (hg.block _ (by simp;omega) (fun e=>by cases e)),
   tchw.grown hg (fun q hq=>by cases hq),G.olt⟩
structure jba (ν:Nat->Nat) (w wr:World) (vb k:Nat) (A:Nat->Option Addr) (N C:Nat->Nat) (i:Nat) (LA:Nat->Option Addr) (LC:Nat->Nat):Prop where
 tch:Touch (fun g=>UA k A g\/g=vb) w wr
 arr:ZW ν wr vb k A N C (fun j=>if j<i then .slice (LA j) (N j+40) (LC j) else .slice none 0 0)
 own:∀ j,j<k->J5 wr 0 (A j) (N j) (C j) (mcf (ν j))
 lng:∀ j,j<i->J5 wr 0 (LA j) (N j+40) (LC j) (mcf (ν j))/\(LA j=A j\/∃ g,LA j=some ⟨g,0,none⟩/\w.heap.size<=g)
theorem jbn {ν:Nat->Nat} {w w1 wr:World} {vb k i c:Nat} {A LA:Nat->Option Addr} {N C LC:Nat->Nat} {a:Option Addr} {hv:Nat->Value} (GO:jba ν w w1 vb k A N C i LA LC) (hi:i<k) (G:ZX w1 wr (ν i) (N i) (A i) (C i) 40 a c hv)
  (hS:¬UA k A vb) (hD:Part k A) (hvb:vb<w.heap.size) (hA:∀ j,j<k->∀ p,A j=some p->p.block<w.heap.size) :
  jba ν w (wr.setCell ⟨vb,i*3+1,none⟩ (.slice a (N i+40) c)) vb k A N C (i+1) (fun j=>if j=i then a else LA j) (fun j=>if j=i then c else LC j):=by
 have hsz:=GO.tch.size
 have hnv:∀ j,j<k->∀ p,A j=some p->p.block≠vb:=fun j hj p hp e=>hS ⟨j,hj,p,hp,e⟩
 refine⟨?_,?_,fun j hj=>?_,fun j hj=>?_⟩
 ·exact(GO.tch.trans (G.tch.weak fun q _ ⟨p,hp,e⟩=>Or.inl ⟨i,hi,p,hp,e⟩)).setCell (p:=⟨vb,i*3+1,none⟩) (Or.inl (Or.inr rfl)) _
 ·refine((GO.arr.keep (G.tch.block _ (by omega) (fun ⟨p,hp,e⟩=>hnv i hi p hp e))).jao i _).congr fun j hj=>?_
  show(if j=i then _ else if j<i then _ else _)=(if j<i+1 then Value.slice (if j=i then a else LA j) _ (if j=i then c else LC j) else _);by_cases e:j=i
  ·subst e;rw[if_pos rfl,if_pos (by omega),if_pos rfl,if_pos rfl]
  ·rw[if_neg e,if_neg e,if_neg e];by_cases h:j<i
   ·rw[if_pos h,if_pos (by omega)]
   ·rw[if_neg h,if_neg (by omega)]
 ·have h1:J5 wr 0 (A j) (N j) (C j) (mcf (ν j)):=by
   by_cases e:j=i
   ·subst e;exact G.old
   ·exact(GO.own j hj).keep fun p hp=>G.tch.block _ (by have:=hA j hj p hp;omega) (fun ⟨q,hq,e'⟩=>hD j hj i hi e p q hp hq e'.symm)
  exact h1.keep fun p hp=>Below.heap_setCell _ _ _ _ (hnv j hj p hp)
 ·by_cases e:j=i
  ·subst e;rw[if_pos rfl,if_pos rfl];refine⟨G.own.keep fun p hp=>Below.heap_setCell _ _ _ _ ?_,?_⟩
   ·rcases G.plc with ⟨h,_⟩ | ⟨g,h,hlt⟩
    ·exact hnv j hi p (h▸hp)
    ·rw[h] at hp;cases hp;dsimp only;omega
   ·rcases G.plc with ⟨h,_⟩ | ⟨g,h,hlt⟩
    ·exact .inl h
    ·exact .inr ⟨g,h,by omega⟩
  ·rw[if_neg e,if_neg e];obtain⟨h1,h2⟩:=GO.lng j (by omega)
   have hne:∀ p,LA j=some p->p.block≠vb/\∀ q,A i=some q->q.block≠p.block:=by
    intro p hp
    rcases h2 with h | ⟨g,h,hlt⟩
    ·rw[h] at hp;exact⟨hnv j (by omega) p hp,fun q hq e'=>hD j (by omega) i hi e p q hp hq e'.symm⟩
    ·rw[h] at hp;cases hp
     exact⟨by dsimp only;omega,fun q hq=>by have:=hA i hi q hq;dsimp only;omega⟩
   refine⟨(h1.keep fun p hp=>G.tch.block _ (h1.blk hp).2.2 (fun ⟨q,hq,e'⟩=>(hne p hp).2 q hq e')).keep fun p hp=>Below.heap_setCell _ _ _ _ (hne p hp).1,h2⟩
theorem Uy (b vb k cap:Nat) (A:Nat->Option Addr) (N C:Nat->Nat) (f:Nat->Value) (ν:Nat->Nat) (w:World) (hk:k<=30000) (hν:∀ j,j<k->ν j<=30000) (hB:w.rowIs b 53 13 f) (hf:f 6=.slice (some ⟨vb,0,none⟩) k cap)
  (hA:ZW ν w vb k A N C (fun _=>.slice none 0 0)) (hO:∀ j,j<k->J5 w 0 (A j) (N j) (C j) (mcf (ν j))) (hN:∀ j,j<k->N j<=100000000) (hS:¬UA k A b/\¬UA k A vb) (hD:Part k A) (hbv:b≠vb) :
  Calls Tryz.prog 103 #[.pointer (some ⟨b,0,none⟩)] w fun e w'=>(∃ v,e=.returned v)/\∃ LA LC,jba ν w w' vb k A N C k LA LC:=by
 have HF:=qh hf;have HNU:=qh hν;have HB:=qh hB;have HA:=qh hA;have HO:=qh hO;have HS:=qh hS;have HD:=qh hD;have HN:=qh hN;have HV:=qh (And.intro hA.lt fun j hj p hp=>((hO j hj).blk (p:=p) hp).2.2);clear hB hA hO hS hD hN hf hν;go_enter Tryz.func103,Tryz.ntmps103;go_wp2_with fail
 go_loopw [2] (fun v wr=>∃ i:Nat,i<=k/\v=.int .i64 i/\∃ LA LC,jba ν w wr vb k A N C i LA LC) (fun v _=>k-(intOf v).toNat)
 case atStart=>exact⟨0,by omega,rfl,fun _=>none,fun _=>0,Touch.refl _ _,HA.o.congr (fun j _=>by rw[if_neg (by omega)]),HO.o,fun j hj=>by omega⟩
 case round =>
  obtain⟨w1,rfl⟩:∃ w1,w1=wr:=⟨_,rfl⟩;obtain⟨i,hik,rfl,LA,LC,hG⟩:=hrel;have KG:=qh hG;have KB:=qh (HB.o.of_block (hG.tch.block _ HB.o.lt (fun h=>h.elim HS.o.1 (fun h=>hbv h))));clear hG
  have b2:w1.cell? ⟨b,6,none⟩=some (.slice (some ⟨vb,0,none⟩) k cap):=by rw[<- HF.o];exact KB.o.cell (i:=6) (by omega)
  by_cases hi:i<k
  ·obtain⟨a0,a1,a2,-,hvb⟩:=KG.o.arr.cells hi;rw[if_neg (by omega)] at a1;obtain⟨n,hn⟩:∃ n,n=N i:=⟨_,rfl⟩;obtain⟨ai,ha⟩:∃ ai,ai=A i:=⟨_,rfl⟩;obtain⟨ci,hc⟩:∃ ci,ci=C i:=⟨_,rfl⟩;rw[<- ha,<- hn,<- hc] at a0
   have hnb:n<=100000000:=by rw[hn];exact HN.o i hi
   have EA:=qh ha;have EN:=qh hn;have EC:=qh hc
   have G0:=qh (show ZX w1 (w1.alloc (.cells #[.slice ai n ci,.slice none 0 0,.int .i64 ((ν i:Int)+1)] 152)) (ν i) n ai ci 0 ai ci (hcell ai n ci (.slice none 0 0) ((ν i:Int)+1)) from by
    have h1:=KG.o.own i hi;rw[<- ha,<- hn,<- hc] at h1;have h2:=h1.below (zk.alloc zj (.cells #[.slice ai n ci,.slice none 0 0,.int .i64 ((ν i:Int)+1)] 152))
    exact⟨h2,h2,.inl ⟨rfl,rfl⟩,World.rowIs_alloc w1 #[Value.slice ai n ci,Value.slice none 0 0,Value.int IntKind.i64 ((ν i:Int)+1)] 152 (hcell ai n ci (.slice none 0 0) ((ν i:Int)+1)) (fun q hq=>by
     match q,hq with
     | 0,_=>rfl
     | 1,_=>rfl
     | 2,_=>rfl),(Touch.refl _ _).alloc _,fun p hp=>(h1.blk hp).2.2⟩)
   clear ha hn hc;go_wp2_with fail
   go_loopw [4,5] (fun v u wr=>∃ t:Nat,t<=40/\u=.int .i64 t/\∃ a c,v=.slice a (n+t) c/\ZX w1 wr (ν i) n ai ci t a c (hcell ai n ci (.slice none 0 0) ((ν i:Int)+1))) (fun _ u _=>40-(intOf u).toNat)
   case atStart=>exact⟨0,by omega,rfl,ai,ci,rfl,G0.o⟩
   case round =>
    obtain⟨t,ht40,rfl,a,c,rfl,hI⟩:=hrel;have LI:=qh hI;have hc2:wr.cell? ⟨w1.heap.size,2,none⟩=some (.int .i64 ((ν i:Int)+1)):=hI.box.cell (i:=2) (by omega);have hlt:=hI.box.lt;clear hI;by_cases ht:t<40
    ·go_wp2_with fail
     with_reducible refine(Uu (ν i) wr (HNU.o i hi)).mono ?_
     rintro e w9 ⟨rfl,hb9⟩;have LI:=qh (LI.o.below hb9);have hc2:=(hb9.cell (p:=⟨w1.heap.size,2,none⟩) hlt).trans hc2;clear hb9
     go_wp2_with (first
      | (at_builtin;refine U0 rfl _ _ rfl (by rfl) (LI.o.own.below (zk.alloc zj _)) (by omega) (Nat.zero_le _) (mm:=mc (ν i)) (by rfl) ?c1 (mc_one (ν i)) (by rfl) ?_))
     case c1=>exact fun q hq=>mc_cell w9 (ν i) hq
     intro a' c' w2 hown hcase;have NI:=qh (jdt LI.o hown hcase);clear hown hcase;go_wp2_with fail
     go_roundw
     case rel=>exact⟨t+1,by omega,by go_num,a',c',rfl,NI.o⟩
     case measure=>simp[intOf];omega
    ·obtain rfl:t=40:=by omega
     have b3:=(LI.o.tch.block _ (show b<w1.heap.size from KB.o.lt) (fun ⟨p,hp,e⟩=>HS.o.1 ⟨i,hi,p,EA.o▸hp,e⟩))
     have b4:wr.cell? ⟨b,6,none⟩=some (.slice (some ⟨vb,0,none⟩) k cap):=by rw[<- HF.o];exact(KB.o.of_block b3).cell (i:=6) (by omega)
     have v3:=(KG.o.arr.keep (LI.o.tch.block _ (show vb<w1.heap.size from hvb) (fun ⟨p,hp,e⟩=>HS.o.2 ⟨i,hi,p,EA.o▸hp,e⟩))).cells hi;obtain⟨v30,v31,v32,v33,v34⟩:=v3;rw[if_neg (by omega)] at v31;have HG:=qh (jbn KG.o hi (by rw[<- EA.o,<- EN.o,<- EC.o];exact LI.o) HS.o.2 HD.o HV.o.1 HV.o.2);rw[<- EN.o] at HG;clear b2 b3 a0 a1 a2 v30 v32;go_wp2_with fail
     go_roundw
     case rel=>exact⟨i+1,by omega,by go_num,_,_,HG.o⟩
     case measure=>simp[intOf];omega
  ·obtain rfl:i=k:=by omega
   go_wp2_with fail
   (try simp only[Exit.inBlock,Exit.then])
   refine bodyPost_end (results_none rfl _ _ _) rfl ?_;exact⟨⟨_,rfl⟩,LA,LC,KG.o⟩
end Book
namespace Book
open Go.RowKit Go.Sort Go.FreshG Limb
def held (a:Option Addr) (n c k:Nat):List Value:=[.slice a n c,.slice none 0 0,.int .i64 ((k:Int)+1)]
theorem jcp {L news:List Value} {m d:Nat} (hm:m<=L.length) (hn:news.length=d):(L.take m++news++L.drop (m+d)).take (m+d)=L.take m++news:=by
 have h:(L.take m++news).length=m+d:=by simp[hn];omega
 rw[<- h];exact List.take_left
theorem ZY {G:World->World->Prop} {P:Program} {o:Oper} {a:Act} {w w':World} {Post:Value->World->Prop} {v u r:Value} (s x:Operand) (t:TypeId)
  (ho:o.op=.call { callee:=.builtin .append,args:=#[s,x],argTypes:=#[t,t] }) (hs:a.eval s=v) (hx:a.eval x=u)
  (hr:(Builtin.append_ #[t,t] o.type #[v,u]).run P w=.ok r w') (hP:Post r w'/\G w w'):Ju P G w Post ((execOp a.eval o).run P w):=by
 unfold execOp;simp only[ho,resolve,invoke,builtin,Sem.run_bind,Sem.run_pure,Result.andThen_ok,List.map_toArray,List.map_cons,List.map_nil,hs,hx,hr];exact hP
end Book
namespace Limb
open Go.RowKit Go.Sort Go.Fresh
theorem jgs:(Tryz.prog.info? 160).map (·.size)=some 1:=by kernel_rfl
theorem jcq {w:World} {base gu L L' i m:Nat} {up r:Nat->Int} {a:Option Addr} (h:Own 160 w base (some ⟨gu,0,none⟩) L L' up) (hi:i+m<=L) (hm:0<m) (hr:Rd w a m r) (ty dcap scap:Nat) :
  ∃ v w',(Builtin.copy_ #[24,24] ty #[.slice (some ⟨gu,i,none⟩) m dcap,.slice a m scap]).run Tryz.prog w=.ok v w'/\Own 160 w' base (some ⟨gu,0,none⟩) L L' (splice up i m r)/\w.grownBy w' (some gu):=by
 obtain⟨b,off,rfl,hc⟩:=hr.cells hm
 rcases h.place with h0 | ⟨g,cur,ha,hbg,hg,hcap,hcc⟩
 ·cases h0.1
 cases ha
 have hle:=h.le
 have hrun:=run_copy_row (P:=Tryz.prog) w 24 24 ty 160 gu i m dcap ⟨b,off,none⟩ m scap cur 160 (ucs r m) Tryz.underlying24 jgs hg (by rw[Qc];exact(Nat.min_self m).symm)
  (by
   intro j u hj;obtain⟨hj1,rfl⟩:=Zb hj;rw[Addr.add_lit]
   exact hc j hj1) (by rw[Qc];omega) jai
 refine⟨_,_,hrun,⟨hle,Or.inr ⟨gu,_,rfl,hbg,setRow_heap w gu cur _ _ _ hg,?_,fun k hk=>?_⟩,fun k hk=>?_⟩,⟨rfl,rfl,rfl,by simp,fun k _ hk=>setRow_other w gu k _ (fun e=>hk (by simp[e]))⟩⟩
 ·simp only[List.size_toArray,List.length_append,List.length_take,List.length_drop,Array.length_toList,Qc];omega
 ·rw[List.getElem?_toArray,Qc]
  have h1:(cur.toList.take i).length=i:=by simp;omega
  have h2:(cur.toList.take i++ucs r m).length=i+m:=by rw[List.length_append,h1,Qc]
  by_cases e1:k<i
  ·rw[List.getElem?_append_left (by omega),List.getElem?_append_left (by omega),List.getElem?_take,if_pos e1,Array.getElem?_toList,hcc k hk];show some (Value.int .u32 (up k))=some (Value.int .u32 (splice up i m r k));rw[QO (Or.inl e1)]
  ·by_cases e2:k<i+m
   ·obtain⟨j,rfl⟩:∃ j,k=i+j:=⟨k-i,by omega⟩;rw[List.getElem?_append_left (by omega),List.getElem?_append_right (by omega),h1,Nat.add_sub_cancel_left,ZU _ _ _ (by omega)];show some (Value.int .u32 (r j))=some (Value.int .u32 (splice up i m r (i+j)));rw[X5 (by omega)]
   ·rw[List.getElem?_append_right (by omega),h2,List.getElem?_drop,show i+m+(k-(i+m))=k by omega,Array.getElem?_toList,hcc k hk];show some (Value.int .u32 (up k))=some (Value.int .u32 (splice up i m r k));rw[QO (Or.inr (by omega))]
 ·by_cases e:i<=k/\k<i+m
  ·obtain⟨j,rfl⟩:∃ j,k=i+j:=⟨k-i,by omega⟩;rw[X5 (by omega)];exact hr.rng j (by omega)
  ·rw[QO (by omega)];exact h.rng k hk
theorem cf_div (args:Array Value) (w:World):(callFunc 257 args).run Tryz.prog w=.ok (.enter 257 args) w:=by kernel_rfl
theorem divFn (w:World) (bh bg bv gu i n cu cv:Nat) (q:Option Addr) (up vp:Nat->Int) (g:Int) (k:Nat) (c1:w.cell? ⟨bh,0,none⟩=some (.slice (some ⟨gu,i,none⟩) (n+1) cu)) (c2:w.cell? ⟨bg,0,none⟩=some (.int .u64 g))
  (c3:w.cell? ⟨bv,0,none⟩=some (.slice q n cv)) (c4:w.cell? ⟨gu,i+k,none⟩=some (.int .u32 (up (i+k)))) (hk:k<n+1) (hp:Rd w q n vp) (hn:n<=200000000) (hg:0<=g/\g<=999999999) (hu:0<=up (i+k)/\up (i+k)<=999999999) (r1:0<=part vp n k/\part vp n k<=999999999) :
  Calls Tryz.prog 257 #[.int .i64 k,.pointer (some ⟨bh,0,none⟩),.pointer (some ⟨bg,0,none⟩),.pointer (some ⟨bv,0,none⟩)] w fun e w'=>e=.returned (.int .i64 (up (i+k)-g*part vp n k))/\Below w.heap.size w w':=by
 have P:=qh (fun (w1:World) (h:∃ m,w1=w.drewN m)=>Ky q n cv vp k w1 (by obtain⟨m,rfl⟩:=h;exact hp.drewN m) (by omega) (by omega));have m1:g*part vp n k<=999999999*999999999:=Int.mul_le_mul hg.2 r1.2 r1.1 (by omega);have m2:0<=g*part vp n k:=Int.mul_nonneg hg.1 r1.1;have e1:=IntWalk.i64_in (up (i+k)) (by omega);have e2:=IntWalk.u64_in (part vp n k) (by omega);have e3:=IntWalk.u64_in (g*part vp n k) (by omega);have e4:=IntWalk.i64_in (g*part vp n k) (by omega);have e5:=IntWalk.i64_in (up (i+k)-g*part vp n k) (by omega)
 have x1:(k:Int)<((n+1:Nat):Int):=by omega
 have x2:(k:Int)<(n:Int)+1:=by omega
 generalize part vp n k=u at *
 generalize up (i+k)=t at *
 clear hp m1 m2 hu r1;go_enter Tryz.func257,Tryz.ntmps257;go_wp2_with fail
 go_quiet (first | with_reducible exact ZV (P.o _ ⟨_,rfl⟩));go_wp2;go_ret;exact⟨rfl,Qi zk _⟩
def XW (up vp:Nat->Int) (j N:Nat) (g:Int) (k:Nat):Int:=up (j+k)-g*part vp N k
theorem Uz (up vp:Nat->Int) (j N:Nat) (g:Int):Ji (XW up vp j N g) (N+1)=Qm up N j-Ji vp N*g:=by
 have e:XW up vp j N g=fun k=>(fun k=>up (j+k)) k+part vp N k*(-g):=by
  funext k;unfold XW;rw[Int.mul_neg,Int.mul_comm];show _=up (j+k)+_;omega
 rw[e,X4,Xx,QD _ (by omega),Int.mul_neg];unfold Qm;omega
theorem Rd.at_own {w:World} {base gu L L' j m:Nat} {up:Nat->Int} (h:Own 160 w base (some ⟨gu,0,none⟩) L L' up) (hj:j+m<=L):Rd w (some ⟨gu,j,none⟩) m (fun k=>up (j+k)) :=
 ⟨fun _=>⟨gu,j,rfl,fun i hi=>h.cell (by omega)⟩,fun i hi=>h.rng _ (by omega)⟩
end Limb
end Go.Proofs.YtgkkbkoiaccmfaaGreatDoor
