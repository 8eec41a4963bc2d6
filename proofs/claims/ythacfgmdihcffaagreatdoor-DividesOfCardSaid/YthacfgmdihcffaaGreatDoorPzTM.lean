/-
  The law's helpers on fractions: SameFrac, LeftFrac, TwinFrac, great.
-/
import Derived.Test.YthacfgmdihcffaaGreatDoorPzTL
set_option linter.unusedSimpArgs false
set_option linter.unusedVariables false
set_option maxHeartbeats 16000000
set_option maxRecDepth 100000
open Go.Proofs.Tryz
namespace Go.Proofs.YthacfgmdihcffaaGreatDoor
namespace Limb
open Go.RowKit Go.Sort Go.FreshH
theorem Xd (c a:Int) (b:a≠0):Ja (Rat.divInt c a).num.natAbs<=Ja c.natAbs/\Ja ((Rat.divInt c a).den:Int).natAbs<=Ja a.natAbs:=by
 rw[<- Ut c a b,<- Uu c a b];exact⟨JP (Int.natAbs_ediv_le_natAbs _ _),JP (Int.natAbs_ediv_le_natAbs _ _)⟩
theorem add_len {a b:Rat} {k:Nat} (h:Ja a.num.natAbs<=k) (i:Ja (a.den:Int).natAbs<=k) (j:Ja b.num.natAbs<=k) (l:Ja (b.den:Int).natAbs<=k):Ja (a+b).num.natAbs<=2*k+1/\Ja ((a+b).den:Int).natAbs<=2*k:=by
 rw[<- UG a b];have m:=Xd (a.num*(b.den:Int)+b.num*(a.den:Int)) ((a.den:Int)*(b.den:Int)) (Int.ne_of_gt (Int.mul_pos (QE a) (QE b)));have c:=Jo a.num.natAbs (b.den:Int).natAbs;have d:=Jo b.num.natAbs (a.den:Int).natAbs;have f:=Jo (a.den:Int).natAbs (b.den:Int).natAbs;rw[<- Int.natAbs_mul] at c d f;have g:=Y0 (a.num*(b.den:Int)) (b.num*(a.den:Int));omega
theorem mul_len {a b:Rat} {k:Nat} (f:Ja a.num.natAbs<=k) (g:Ja (a.den:Int).natAbs<=k) (h:Ja b.num.natAbs<=k) (i:Ja (b.den:Int).natAbs<=k):Ja (a*b).num.natAbs<=2*k/\Ja ((a*b).den:Int).natAbs<=2*k:=by
 have e:Rat.divInt (a.num*b.num) ((a.den:Int)*(b.den:Int))=a*b:=by rw[Rat.mul_def',<- Rat.divInt_ofNat,Int.natCast_mul]
 rw[<- e];have j:=Xd (a.num*b.num) ((a.den:Int)*(b.den:Int)) (Int.ne_of_gt (Int.mul_pos (QE a) (QE b)));have c:=Jo a.num.natAbs b.num.natAbs;have d:=Jo (a.den:Int).natAbs (b.den:Int).natAbs;rw[<- Int.natAbs_mul] at c d;omega
theorem div_len {a b:Rat} {k:Nat} (g:b≠0) (h:Ja a.num.natAbs<=k) (i:Ja (a.den:Int).natAbs<=k) (j:Ja b.num.natAbs<=k) (l:Ja (b.den:Int).natAbs<=k):Ja (a/b).num.natAbs<=2*k/\Ja ((a/b).den:Int).natAbs<=2*k:=by
 rw[<- UJ a b]
 have c:=Xd (a.num*(b.den:Int)) (b.num*(a.den:Int)) (λc=>by
  rcases Int.mul_eq_zero.1 c with c | c
  ·exact g (Rat.num_eq_zero.1 c)
  ·exact Int.ne_of_gt (QE a) c)
 have d:=Jo a.num.natAbs (b.den:Int).natAbs;have f:=Jo b.num.natAbs (a.den:Int).natAbs;rw[<- Int.natAbs_mul] at d f;omega
open Classical in
theorem rfdiv_ok (A:Bool) (K:Option Addr) (t c1:Nat) (o1:Nat->Int) (B:Bool) (M:Option Addr) (u c2:Nat) (o2:Nat->Int) (C:Bool) (H:Option Addr) (l c3:Nat) (Q:Nat->Int) (E:Bool) (N:Option Addr) (v c4:Nat) (o4:Nat->Int) (D:World) (F aJ:Rat) (hx:F=Xv A t o1 B u o2) (hy:aJ=Xv C l Q E v o4) (h1:Rd D K t o1) (aY:t<=900000) (aC:t<=c1) (h2:Rd D M u o2) (aZ:u<=900000) (aD:u<=c2) (h3:Rd D H l Q) (a0:l<=900000) (aj:l<=c3) (h4:Rd D N v o4) (a5:v<=900000) (aE:v<=c4) (ab:okF A t o1 B u o2) (ac:okF C l Q E v o4) (hz:aJ≠0) :
  Cl 155 #[J4 A K t c1 B M u c2,J4 C H l c3 E N v c4] D (MakeF D 0 (F/aJ).num ((F/aJ).den:Int)):=by
 have h:∀ {a:Option Addr} {n:Nat} {o:Nat->Int},Rd D a n o->0<n->∀ R,a=some R->R.block<D.heap.size:=λI O R k=>by
  obtain⟨b,off,e,hc⟩:=I.cells O
  rw[e] at k;cases k
  exact block_lt_of_cell (hc 0 O)
 have l1:=JV (s1:=A) (s2:=B) h1.rng h2.rng;rw[<- hx] at l1;have l2:=JV (s1:=C) (s2:=E) h3.rng h4.rng;rw[<- hy] at l2;obtain⟨R,k⟩:=gn F.num;obtain⟨aU,hq⟩:=gn (F.den:Int);rw[<- k,<- hq] at l1;obtain⟨r,hr⟩:=gn aJ.num;obtain⟨aV,ht⟩:=gn (aJ.den:Int);rw[<- hr,<- ht] at l2;have HL:=qh (show(Ja R.natAbs<=900001/\Ja aU.natAbs<=900001)/\Ja r.natAbs<=900001/\Ja aV.natAbs<=900001 by omega);have HP:=qh<|And.intro (And.intro hx (And.intro k hq)) (And.intro hy (And.intro hr ht));have HF:=qh<|And.intro (And.intro (h h1) (h h2)) (And.intro (h h3) (h h4))
 have HV:=qh (show Jp A t o1=R/\Jp B u o2=aU/\Jp C l Q=r/\Jp E v o4=aV by
  rw[k,hq,hr,ht,hx,hy]
  exact⟨(XY ab).1.symm,(XY ab).2.symm,(XY ac).1.symm,(XY ac).2.symm⟩)
 have HK:=qh<|And.intro ab ac;clear ab ac;obtain⟨cs,ak⟩:=gn (Js r 0);have aO:=qh ak;have am:=Jo R.natAbs aV.natAbs;have an:=Jo r.natAbs aU.natAbs;have aF:=Jo aU.natAbs aV.natAbs;have aG:=Jo R.natAbs r.natAbs;rw[<- Int.natAbs_mul] at am an aF aG
 have aq:r≠0:=λI=>hz (Rat.num_eq_zero.1 (by rw[<- hr];exact I))
 have aT:(cs==0)=false:=by rw[ak];simpa using λI=>aq ((sign_zero _).1 I)
 have aX:decide (cs=0)=false:=by simpa using aT
 obtain⟨J,aa⟩:=gn (R*aV);obtain⟨G,P⟩:=gn (r*aU);have HE:=qh<|And.intro aa P;rw[<- aa] at am;rw[<- P] at an;have HM:=qh (show Ja J.natAbs<=2000002/\Ja G.natAbs<=2000002 by omega);obtain⟨z,av⟩:=gn (F/aJ);have HZ:=qh<|show Rat.divInt J G=z/\G≠0 from⟨by rw[aa,P,k,hq,hr,ht,av];exact UJ F aJ,by rw[P,hq];exact λI=>(Int.mul_eq_zero.1 I).elim aq (Int.ne_of_gt (QE F))⟩;rw[<- av];obtain⟨zp,ar⟩:=gn z.num;obtain⟨zq,au⟩:=gn (z.den:Int);have az:=qh<|And.intro ar au;rw[<- ar,<- au];clear aa P aq hz av ar au am an aF aG ak;have m:=qh<|((Bxs.new (D) 32 [.bool A,.slice K t c1,.bool B,.slice M u c2]).alloc (.cells #[.bool C,.slice H l c3,.bool E,.slice N v c4] 32)).alloc (.cells zFv.toArray 32);have i:=qh<|(Bxs.new (D.alloc (.cells #[.bool A,.slice K t c1,.bool B,.slice M u c2] 32)) 32 [.bool C,.slice H l c3,.bool E,.slice N v c4]).alloc (.cells zFv.toArray 32);have f:=qh<|Bxs.new ((D.alloc (.cells #[.bool A,.slice K t c1,.bool B,.slice M u c2] 32)).alloc (.cells #[.bool C,.slice H l c3,.bool E,.slice N v c4] 32)) 32 zFv;obtain⟨aw,Z⟩:=gn (((D.alloc (.cells #[.bool A,.slice K t c1,.bool B,.slice M u c2] 32)).alloc (.cells #[.bool C,.slice H l c3,.bool E,.slice N v c4] 32)).alloc (.cells zFv.toArray 32));have q:=qh<|bq Z (((zk.alloc zj _).alloc (by go_size) _).alloc (by go_size) _);have g:=qh (show D.heap.size+3<=aw.heap.size by rw[Z];simp only[World.size_alloc];omega);have m:=qh (show Bxs aw (D.heap.size) 32 [.bool A,.slice K t c1,.bool B,.slice M u c2] by have I:=m.o;rw[Z];exact I)
 have i:=qh (show Bxs aw (D.heap.size+1) 32 [.bool C,.slice H l c3,.bool E,.slice N v c4] by have I:=i.o;simp only[World.size_alloc] at I;rw[Z];exact I);have f:=qh (show Bxs aw (D.heap.size+1+1) 32 zFv by have I:=f.o;simp only[World.size_alloc] at I;rw[Z];exact I);have HW:=qh Z;clear Z;have w:=qh<|show RdS aw D.heap.size (D.heap.size+3) K t o1 from⟨h1.below q.o,λO R k=>Or.inl (h h1 O R k)⟩;have x:=qh<|show RdS aw D.heap.size (D.heap.size+3) M u o2 from⟨h2.below q.o,λO R k=>Or.inl (h h2 O R k)⟩;have p:=qh<|show RdS aw D.heap.size (D.heap.size+3) H l Q from⟨h3.below q.o,λO R k=>Or.inl (h h3 O R k)⟩;have y:=qh<|show RdS aw D.heap.size (D.heap.size+3) N v o4 from⟨h4.below q.o,λO R k=>Or.inl (h h4 O R k)⟩;clear hx k hq l1 h1 h2 h hy hr ht l2 h3 h4;go_enter func155,ntmps155
 go_upto_region 1 with (fail)
 rw[<- HW.o];clear HW;have U:=qh (λ(d:World) (c:Bl aw d)=>Xf A K t c1 o1 B M u c2 o2 d (w.o.rd.below c) Zo aC (x.o.rd.below c) Zo aD);rw[decide_eq_true HK.o.1] at U;obtain⟨aK,aL,aM,aN,aR,aS⟩:=m.o.d4;go_wp2_with fail
 with_reducible refine(U.o _ zk).mono ?_
 rintro e w1 ⟨rfl,c⟩;clear aK aL aM aN aR aS;have m:=qh<|m.o.bl c;have i:=qh<|i.o.bl c;have f:=qh<|f.o.bl c;have w:=qh<|w.o.below c;have x:=qh<|x.o.below c;have p:=qh<|p.o.below c;have y:=qh<|y.o.below c;have g:=qh<|zm g.o c.size;have q:=qk q c;clear c U;have U:=qh (λ(d:World) (c:Bl w1 d)=>Xf C H l c3 Q E N v c4 o4 d (p.o.rd.below c) Zo aj (y.o.rd.below c) Zo aE);rw[decide_eq_true HK.o.2] at U;obtain⟨V,W,X,Y,ad,ae⟩:=i.o.d4;go_wp2_with fail
 with_reducible refine(U.o _ zk).mono ?_
 rintro e w2 ⟨rfl,c⟩;clear V W X Y ad ae;have m:=qh<|m.o.bl c;have i:=qh<|i.o.bl c;have f:=qh<|f.o.bl c;have w:=qh<|w.o.below c;have x:=qh<|x.o.below c;have p:=qh<|p.o.below c;have y:=qh<|y.o.below c;have g:=qh<|zm g.o c.size;have q:=qk q c;clear c U;have SG:=qh (λ(d:World) (c:Bl w2 d)=>K6 C H l c3 Q d (p.o.rd.below c) Zo aj);rw[HV.o.2.2.1,<- aO.o] at SG;obtain⟨V,W,X,Y,ad,ae⟩:=i.o.d4;go_wp2_with fail
 with_reducible refine(SG.o _ zk).mono ?_
 rintro e S ⟨rfl,c⟩;clear V W X Y ad ae;have m:=qh<|m.o.bl c;have i:=qh<|i.o.bl c;have f:=qh<|f.o.bl c;have w:=qh<|w.o.below c;have x:=qh<|x.o.below c;have p:=qh<|p.o.below c;have y:=qh<|y.o.below c;have g:=qh<|zm g.o c.size;have q:=qk q c;clear c SG;have MA:=qh (λ(d:World) (c:Bl S d)=>Q9 A K t c1 o1 E N v c4 o4 d (w.o.rd.below c) Zo aC (y.o.rd.below c) Zo aE);rw[HV.o.1,HV.o.2.2.2,<- HE.o.1] at MA;have MB:=qh (λ(d:World) (c:Bl S d)=>Q9 C H l c3 Q B M u c2 o2 d (p.o.rd.below c) Zo aj (x.o.rd.below c) Zo aD);rw[HV.o.2.2.1,HV.o.2.1,<- HE.o.2] at MB
 go_upto_region 5 with (fail)
 have HS:=qh (λ(d:World) (c:Bl S d)=>And.intro (Jg (m.o.bl c)) ((Jg (i.o.bl c))))
 refine Ji 10 (JI [(4,Sp.made (λF:Option Addr × Nat=>Jv (decide (J<0)) F.1 (Ja J.natAbs) F.2) (λF d=>Own 128 d S.heap.size F.1 (Ja J.natAbs) F.2 (dgi J.natAbs))),(9,Sp.made (λF:Option Addr × Nat=>Jv (decide (G<0)) F.1 (Ja G.natAbs) F.2) (λF d=>Own 128 d S.heap.size F.1 (Ja G.natAbs) F.2 (dgi G.natAbs)))]) (λd=>Bl S d) Zk Zk
  (Jb (Sp.Jf λF D d I c=>I.below c) (Jb (Sp.Jf λF D d I c=>I.below c) (Jh))) (λ_ _ I c=>I.trans (c.mono I.size)) (zk.drew) ?_
 simp only[zx,zy,zv,zw]
 iterate 4
  refine rdw (λd j=>by obtain⟨k0,k1,k2,k3,k4,k5⟩:=(HS.o _ j).1;obtain⟨k0,k1,k2,k3,k4,k5⟩:=(HS.o _ j).2;go_simp;try rfl) ?_
 (refine Jc rfl rfl (λd ao=>?_) ?_;· (have j:=Has.world ao;go_simp;((refine(MA.o d j).mono ?_;rintro e aW ⟨za,zb,rfl,ho,c⟩;exact⟨_,rfl,⟨⟨za,zb,rfl⟩,⟨za,zb,rfl,ho.mono j.size⟩⟩,c⟩))))
 rintro _ ⟨y4,rfl⟩
 conv=>arg 10;simp only[Act.put,zq0,zq1,zq2]
 iterate 4
  refine rdw (λd j=>by obtain⟨k0,k1,k2,k3,k4,k5⟩:=(HS.o _ j).2;obtain⟨k0,k1,k2,k3,k4,k5⟩:=(HS.o _ j).1;go_simp;try rfl) ?_
 (refine Jc rfl rfl (λd ao=>?_) ?_;· (have j:=Has.world ao;go_simp;((refine(MB.o d j).mono ?_;rintro e aW ⟨za,zb,rfl,ho,c⟩;exact⟨_,rfl,⟨⟨za,zb,rfl⟩,⟨za,zb,rfl,ho.mono j.size⟩⟩,c⟩))))
 rintro _ ⟨y9,rfl⟩
 conv=>arg 10;simp only[Act.put,zq0,zq1,zq2]
 refine Jn (λw4 c hF=>?_);have ax:=qh<|Own.mono (JU (T:=128) (x:=y4) (b:=S.heap.size) (s:=decide (J<0)) (L:=Ja J.natAbs) (o:=dgi J.natAbs) (hF 4)) g.o;have ay:=qh<|Own.mono (JU (T:=128) (x:=y9) (b:=S.heap.size) (s:=decide (G<0)) (L:=Ja G.natAbs) (o:=dgi G.natAbs) (hF 9)) g.o;clear hF HS;have f:=qh<|f.o.bl c;have g:=qh<|zm g.o c.size;have q:=qk q c;clear c MA MB w x p y;have LO:=qh (λ(d:World) (c:Bl w4 d)=>Kn J G y4.1 y9.1 y4.2 y9.2 d (ax.o.rd.below c) (Zh HM) ax.o.le (ay.o.rd.below c) (Zh HM) ay.o.le HZ.o.2);rw[HZ.o.1,<- az.o.1,<- az.o.2] at LO;obtain⟨af,ag,ah,ai,aA,aB⟩:=f.o.d4;go_wp2_with fail
 with_reducible refine(LO.o _ zk).mono ?_
 rintro e w5 ⟨r1,e1,r2,e2,rfl,aH,aI,c⟩;have aP:=qh<|aH.mono g.o;have aQ:=qh<|aI.mono g.o;clear aH aI af ag ah ai aA aB;have f:=qh<|f.o.bl c;have g:=qh<|zm g.o c.size;have q:=qk q c;clear c LO;obtain⟨af,ag,ah,ai,aA,aB⟩:=f.o.d4;go_wp2_with fail
 have a6:=g.o;refine bodyPost_ret (Qo rfl _ _ _ _ _ _ _ rfl (((((f.o).put 0 _).put 1 _).put 2 _).put 3 _) underlying32 rfl Zk) rfl ?_;refine⟨r1,e1,r2,e2,rfl,?_,?_,?_⟩
 ·exact(((((aP.o).oz).oz).oz).oz).mono Zo
 ·exact(((((aQ.o).oz).oz).oz).oz).mono Zo
 ·exact((((q.o).sc).sc).sc).sc
theorem jc1 (d:Bool) (t:Nat) (j:Option Addr) (a c1:Nat) (D:Nat->Int) (f:Bool) (u:Nat) (k:Option Addr) (b c2:Nat) (E:Nat->Int) (x:World) (H:Rd x (some ⟨t,0,none⟩) (a+1) (tw D a)) (J:Rd x j a D) (L:a<=1000000000) (I:Rd x (some ⟨u,0,none⟩) (b+1) (tw E b)) (K:Rd x k b E) (M:b<=1000000000) :
  Cl 115 #[J4 d (some ⟨t,0,none⟩) a (a+1) f (some ⟨u,0,none⟩) b (b+1),J4 d j a c1 f k b c2] x λe v=>e=.returned (.bool true)/\Bl x v:=by
 have g:=qh<|(Bxs.new (x) 32 [.bool d,.slice (some ⟨t,0,none⟩) a (a+1),.bool f,.slice (some ⟨u,0,none⟩) b (b+1)]).alloc (.cells #[.bool d,.slice j a c1,.bool f,.slice k b c2] 32);have h:=qh<|Bxs.new (x.alloc (.cells #[.bool d,.slice (some ⟨t,0,none⟩) a (a+1),.bool f,.slice (some ⟨u,0,none⟩) b (b+1)] 32)) 32 [.bool d,.slice j a c1,.bool f,.slice k b c2];obtain⟨O,y⟩:=gn ((x.alloc (.cells #[.bool d,.slice (some ⟨t,0,none⟩) a (a+1),.bool f,.slice (some ⟨u,0,none⟩) b (b+1)] 32)).alloc (.cells #[.bool d,.slice j a c1,.bool f,.slice k b c2] 32));have i:=qh<|bq y ((zk.alloc zj _).alloc (by go_size) _);have w:=qh (show x.heap.size+2<=O.heap.size by rw[y];simp only[World.size_alloc];omega);have g:=qh (show Bxs O (x.heap.size) 32 [.bool d,.slice (some ⟨t,0,none⟩) a (a+1),.bool f,.slice (some ⟨u,0,none⟩) b (b+1)] by have N:=g.o;rw[y];exact N);have h:=qh (show Bxs O (x.heap.size+1) 32 [.bool d,.slice j a c1,.bool f,.slice k b c2] by have N:=h.o;simp only[World.size_alloc] at N;rw[y];exact N);have F:=qh y;clear y;have SA:=qh (λ(v:World) (c:Bl x v)=>VM d t j a c1 D v (H.below c) (J.below c) L);have G:=qh (λ(v:World) (c:Bl x v)=>VM f u k b c2 E v (I.below c) (K.below c) M);clear J H K I;go_enter func115,ntmps115
 go_upto_region 1 with (fail)
 rw[<- F.o];clear F;obtain⟨l,m,n,o,z,A⟩:=g.o.d4;obtain⟨p,q,r,s,B,C⟩:=h.o.d4;go_wp2_with fail
 with_reducible refine(SA.o _ i.o).mono ?_
 rintro e P ⟨rfl,c⟩;clear l m n o z A p q r s B C;have g:=qh<|g.o.bl c;have h:=qh<|h.o.bl c;have w:=qh<|zm w.o c.size;have i:=qk i c;clear c SA;obtain⟨l,m,n,o,z,A⟩:=g.o.d4;obtain⟨p,q,r,s,B,C⟩:=h.o.d4;go_wp2_with fail
 with_reducible refine(G.o _ i.o).mono ?_
 rintro e Q ⟨rfl,c⟩;clear l m n o z A p q r s B C;have w:=qh<|zm w.o c.size;have i:=qk i c;clear c G;go_wp2;go_ret;exact⟨rfl,i.o⟩
theorem jc2 (l:Bool) (m:Option Addr) (a c1:Nat) (v:Nat->Int) (o:Bool) (n:Option Addr) (d c2:Nat) (D:Nat->Int) (p:World) (y:Rd p m a v) (K:a<=100000000) (z:Rd p n d D) (L:d<=100000000) :
  Cl 99 #[J4 l m a c1 o n d c2] p λe b=>∃ C q,e=.returned (J4 l (some ⟨C,0,none⟩) a (a+1) o (some ⟨q,0,none⟩) d (d+1))/\Own 128 b p.heap.size (some ⟨C,0,none⟩) (a+1) (a+1) (tw v a)/\Own 128 b p.heap.size (some ⟨q,0,none⟩) (d+1) (d+1) (tw D d)/\C≠q/\Bl p b:=by
 have s:=qh<|(Bxs.new (p) 32 [.bool l,.slice m a c1,.bool o,.slice n d c2]).alloc (.cells zFv.toArray 32);have f:=qh<|Bxs.new (p.alloc (.cells #[.bool l,.slice m a c1,.bool o,.slice n d c2] 32)) 32 zFv;obtain⟨w,r⟩:=gn ((p.alloc (.cells #[.bool l,.slice m a c1,.bool o,.slice n d c2] 32)).alloc (.cells zFv.toArray 32));have j:=qh<|bq r ((zk.alloc zj _).alloc (by go_size) _);have g:=qh (show p.heap.size+2<=w.heap.size by rw[r];simp only[World.size_alloc];omega);have s:=qh (show Bxs w (p.heap.size) 32 [.bool l,.slice m a c1,.bool o,.slice n d c2] by have t:=s.o;rw[r];exact t);have f:=qh (show Bxs w (p.heap.size+1) 32 zFv by have t:=f.o;simp only[World.size_alloc] at t;rw[r];exact t);have G:=qh r;clear r;have I:=qh (λ(b:World) (c:Bl w b)=>VN l m a c1 v b (y.below (j.o.trans (c.mono j.o.size))) K);have J:=qh (λ(b:World) (c:Bl w b)=>VN o n d c2 D b (z.below (j.o.trans (c.mono j.o.size))) L);have B:=qh g.o;clear y z;go_enter func99,ntmps99
 go_upto_region 1 with (fail)
 rw[<- G.o];clear G;have A:=qh (λ(b:World) (c:Bl w b)=>Jg (s.o.bl c))
 refine Ji 5 (JI [(2,Sp.made (λx:Nat=>Jv l (some ⟨x,0,none⟩) a (a+1)) (λx b=>Own 128 b w.heap.size (some ⟨x,0,none⟩) (a+1) (a+1) (tw v a)))]) (λb=>Bl w b) Zk Zk
  (Jb (Sp.Jf λac p b t c=>t.below c) Jh) (λ_ _ t c=>t.trans (c.mono t.size)) (zk.drew) ?_
 simp only[zx,zy,zv,zw]
 iterate 2
  refine rdw (λb i=>by obtain⟨T,U,V,W,k4,X⟩:=A.o _ i;go_simp;try rfl) ?_
 (refine Jc rfl rfl (λb M=>?_) ?_;· (have i:=Has.world M;go_simp;((refine(I.o b i).mono ?_;rintro e ab ⟨x,rfl,S,c⟩;exact⟨_,rfl,⟨⟨x,rfl⟩,⟨x,rfl,S.mono i.size⟩⟩,c⟩))))
 rintro _ ⟨x,rfl⟩
 conv=>arg 10;simp only[Act.put,zq0,zq1,zq2]
 iterate 2
  refine rdw (λb i=>by obtain⟨T,U,V,W,k4,X⟩:=A.o _ i;go_simp;try rfl) ?_
 refine Jn (λN k hF=>?_);have h:=qh (show Own 128 N w.heap.size (some ⟨x,0,none⟩) (a+1) (a+1) (tw v a) by obtain⟨ac,e,t⟩:=hF 2;cases e;exact t);have H:=qh<|J.o N k;clear hF A I J;have f:=qh<|f.o.bl k;have g:=qh<|zm g.o k.size;have j:=qk j k;clear k;go_wp2_with fail
 with_reducible refine H.o.mono ?_
 rintro e w2 ⟨q,rfl,u,c⟩
 have E:=qh (show x≠q by
  have y:=(h.o.blk rfl).2.2;have z:=(u.blk rfl).2.1;dsimp only at y z
  omega)
 have F:=qh<|u.mono g.o;clear u H;have f:=qh<|f.o.bl c;have h:=qh<|h.o.below c;have g:=qh<|zm g.o c.size;have j:=qk j c;clear c;have h:=qh<|h.o.mono (show p.heap.size+2<=w.heap.size from B.o);obtain⟨O,P,Q,R,Y,Z⟩:=f.o.d4;go_wp2_with fail
 have aa:=g.o;refine bodyPost_ret (Je rfl _ _ _ _ _ _ _ rfl (((((f.o).put 0 _).put 1 _).put 2 _).put 3 _) underlying32 rfl Zk) rfl ?_;refine⟨x,q,rfl,?_,?_,E.o,?_⟩
 ·exact(((((h.o).oz).oz).oz).oz).mono Zo
 ·exact(((((F.o).oz).oz).oz).oz).mono Zo
 ·exact((((j.o).sc).sc).sc).sc
end Limb
end Go.Proofs.YthacfgmdihcffaaGreatDoor
