/-
  The walk of divide of package limbs.
-/
import Derived.Test.YtgkkbkoiaccmfaaGreatDoorPzQD
import Derived.Deep.DeepCutAuto
import Derived.Laws.CopyRow
import Derived.Deep.RegionHeld3
import Derived.WalkMore
set_option linter.unusedSimpArgs false
set_option linter.unusedVariables false
set_option maxHeartbeats 16000000
set_option maxRecDepth 100000
namespace Go.Proofs.YtgkkbkoiaccmfaaGreatDoor
namespace Book
open Go.RowKit Go.Sort Go.Fresh Limb
def ZL (ν:Nat->Nat) (w:World) (vb k:Nat) (A:Nat->Option Addr) (N C:Nat->Nat) (X:Nat->Value):Prop :=
 ∃ m f,w.rowIs vb 152 m f/\∀ j,j<k->3*j+2<m/\f (3*j)=.slice (A j) (N j) (C j)/\f (3*j+1)=X j/\f (3*j+2)=.int .i64 ((ν j:Int)+1)
theorem ZL.cells {ν:Nat->Nat} {w:World} {vb k:Nat} {A:Nat->Option Addr} {N C:Nat->Nat} {X:Nat->Value} (h:ZL ν w vb k A N C X) {j:Nat} (hj:j<k) :
  w.cell? ⟨vb,j*3,none⟩=some (.slice (A j) (N j) (C j))/\w.cell? ⟨vb,j*3+1,none⟩=some (X j)/\w.cell? ⟨vb,j*3+2,none⟩=some (.int .i64 ((ν j:Int)+1))/\(∀ i,w.frozen? ⟨vb,i,none⟩=false)/\vb<w.heap.size:=by
 obtain⟨m,f,hR,hE⟩:=h;obtain⟨h1,h2,h3,h4⟩:=hE j hj;rw[Nat.mul_comm j 3];exact⟨by rw[<- h2];exact hR.cell (by omega),by rw[<- h3];exact hR.cell (by omega),by rw[<- h4];exact hR.cell (by omega),hR.frozen,hR.lt⟩
theorem ZL.keep {ν:Nat->Nat} {w w':World} {vb k:Nat} {A:Nat->Option Addr} {N C:Nat->Nat} {X:Nat->Value} (h:ZL ν w vb k A N C X) (e:w'.heap[vb]?=w.heap[vb]?):ZL ν w' vb k A N C X:=by
 obtain⟨m,f,hR,hE⟩:=h;exact⟨m,f,hR.of_block e,hE⟩
theorem ZL.lt {ν:Nat->Nat} {w:World} {vb k:Nat} {A:Nat->Option Addr} {N C:Nat->Nat} {X:Nat->Value} (h:ZL ν w vb k A N C X):vb<w.heap.size:=by
 obtain⟨m,f,hR,hE⟩:=h;exact hR.lt
theorem ZL.UZ {ν:Nat->Nat} {w:World} {vb k:Nat} {A:Nat->Option Addr} {N C:Nat->Nat} {X:Nat->Value} (h:ZL ν w vb k A N C X) (i:Nat) (v:Value):ZL ν (w.setCell ⟨vb,i*3+1,none⟩ v) vb k A N C (fun j=>if j=i then v else X j):=by
 obtain⟨m,f,hR,hE⟩:=h;refine⟨m,_,hR.set (i*3+1) v,fun j hj=>?_⟩;obtain⟨h1,h2,h3,h4⟩:=hE j hj;refine⟨h1,?_,?_,?_⟩
 ·rw[if_neg (by omega)];exact h2
 ·show(if 3*j+1=i*3+1 then v else f (3*j+1))=if j=i then v else X j
  by_cases e:j=i
  ·subst e;rw[if_pos (by omega),if_pos rfl]
  ·rw[if_neg (by omega),if_neg e];exact h3
 ·rw[if_neg (by omega)];exact h4
theorem jfi {k i t g:Nat} {A:Nat->Option Addr} {N C:Nat->Nat} {O:Nat->Nat->Value} {w:World} {m:Nat->Value} (hD:Part k A) (hO:∀ j,j<k->J5 w 0 (A j) (N j) (C j) (O j)) (hi:i<k) (hg:A i=some ⟨g,0,none⟩) (ht:t<N i) :
  ∀ j,j<k->J5 (Zg w g t m) 0 (A j) (N j) (C j) (if j=i then updT (O i) t m else O j):=by
 intro j hj;by_cases e:j=i
 ·subst e;rw[if_pos rfl,hg];have h:=hO j hj;rw[hg] at h;exact h.Zg ht m
 ·rw[if_neg e]
  refine(hO j hj).keep fun p hp=>?_
  have hne:∀ (v:World) (o:Nat) (x:Value),(v.setCell ⟨g,o,none⟩ x).heap[p.block]?=v.heap[p.block]?:=fun v o x=>Below.heap_setCell _ _ _ _ (fun he=>hD j hj i hi e p _ hp hg he)
  unfold Zg;rw[hne,hne,hne,hne,hne,hne,hne,hne]
theorem jcu {w:World} {b m:Nat} {T:TypeId} {f:Nat->Value} (h:w.rowIs b T m f) {g:Nat} (hg:g≠b) (t:Nat) (mm:Nat->Value):(Book.Zg w g t mm).rowIs b T m f:=by
 unfold Book.Zg;exact(((((((h.setOther (by dsimp only;omega) _).setOther (by dsimp only;omega) _).setOther (by dsimp only;omega) _).setOther (by dsimp only;omega) _).setOther (by dsimp only;omega) _).setOther (by dsimp only;omega) _).setOther (by dsimp only;omega) _).setOther (by dsimp only;omega) _
theorem Touch.Zg {U:Nat->Prop} {a b:World} (h:Touch U a b) {g:Nat} (hp:U g\/a.heap.size<=g) (t:Nat) (m:Nat->Value):Touch U a (Book.Zg b g t m) :=
 (((((((h.setCell (p:=⟨g,_,none⟩) hp _).setCell (p:=⟨g,_,none⟩) hp _).setCell (p:=⟨g,_,none⟩) hp _).setCell (p:=⟨g,_,none⟩) hp _).setCell (p:=⟨g,_,none⟩) hp _).setCell (p:=⟨g,_,none⟩) hp _).setCell (p:=⟨g,_,none⟩) hp _).setCell (p:=⟨g,_,none⟩) hp _
theorem V6 (b vb k cap:Nat) (A:Nat->Option Addr) (N C:Nat->Nat) (O:Nat->Nat->Value) (f:Nat->Value) (ν:Nat->Nat) (w:World) (hk:k<=30000) (hν:∀ j,j<k->ν j<=30000) (hB:w.rowIs b 53 13 f) (hf:f 6=.slice (some ⟨vb,0,none⟩) k cap)
  (hA:ZL ν w vb k A N C (fun _=>.slice none 0 0)) (hO:∀ j,j<k->J5 w 0 (A j) (N j) (C j) (O j)) (hN:∀ j,j<k->N j<=100000000) (hS:¬UA k A b/\¬UA k A vb) (hD:Part k A) :
  Calls Tryz.prog 91 #[.pointer (some ⟨b,0,none⟩)] w fun e w'=>(∃ v,e=.returned v)/\Touch (UA k A) w w'/\∀ j,j<k->J5 w' 0 (A j) (N j) (C j) (fun c=>mc (ν j) (c%8)):=by
 have HB:=qh hB;have HA:=qh hA;have HO:=qh hO;have HS:=qh hS;have HD:=qh hD;have HN:=qh hN;have HF:=qh hf;have HV:=qh hν;clear hB hA hO hS hD hN hf hν;go_enter Tryz.func91,Tryz.ntmps91;go_wp2_with fail
 go_loopw [2] (fun v wr=>∃ i:Nat,i<=k/\v=.int .i64 i/\Touch (UA k A) w wr/\∃ OO:Nat->Nat->Value,(∀ j,j<k->J5 wr 0 (A j) (N j) (C j) (OO j))/\∀ j,j<i->∀ c,c<N j*8->OO j c=mc (ν j) (c%8)) (fun v _=>k-(intOf v).toNat)
 case atStart=>exact⟨0,by omega,rfl,Touch.refl _ _,O,HO.o,fun j hj=>by omega⟩
 case round =>
  obtain⟨w1,rfl⟩:∃ w1,w1=wr:=⟨_,rfl⟩;obtain⟨i,hik,rfl,hT,OO,hOO,hM⟩:=hrel;have KT:=qh hT;have KO:=qh hOO;have KM:=qh hM;have KB:=qh (HB.o.of_block (hT.block _ HB.o.lt HS.o.1));have KA:=qh (HA.o.keep (hT.block _ HA.o.lt HS.o.2));clear hT hOO hM
  have b2:w1.cell? ⟨b,6,none⟩=some (.slice (some ⟨vb,0,none⟩) k cap):=by rw[<- HF.o];exact KB.o.cell (i:=6) (by omega)
  by_cases hi:i<k
  ·obtain⟨a0,a1,a2,-,hvb⟩:=KA.o.cells hi;obtain⟨a,ha⟩:∃ a,a=A i:=⟨_,rfl⟩;obtain⟨n,hn⟩:∃ n,n=N i:=⟨_,rfl⟩;obtain⟨c,hc⟩:∃ c,c=C i:=⟨_,rfl⟩;rw[<- ha,<- hn,<- hc] at a0;have EA:=qh ha;have EN:=qh hn;have EC:=qh hc
   have hnb:n<=100000000:=by rw[hn];exact HN.o i hi
   clear ha hn hc;go_wp2_with fail
   go_loopw [4] (fun v wr2=>∃ t:Nat,t<=n/\v=.int .i64 t/\wr2.rowIs w1.heap.size 152 3 (hcell a n c (.slice none 0 0) ((ν i:Int)+1))/\Touch (UA k A) w wr2 /\
    ∃ OO:Nat->Nat->Value,(∀ j,j<k->J5 wr2 0 (A j) (N j) (C j) (OO j))/\(∀ j,j<i->∀ c,c<N j*8->OO j c=mc (ν j) (c%8))/\∀ c,c<t*8->OO i c=mc (ν i) (c%8)) (fun v _=>n-(intOf v).toNat)
   case atStart =>
    refine⟨0,by omega,rfl,?_,KT.o.alloc _,OO,fun j hj=>(KO.o j hj).below (zk.alloc zj _),KM.o,fun c hc=>by omega⟩
    have h:=World.rowIs_alloc w1 #[Value.slice a n c,Value.slice none 0 0,Value.int IntKind.i64 ((ν i:Int)+1)] 152 (hcell a n c (.slice none 0 0) ((ν i:Int)+1)) (fun q hq=>by
     match q,hq with
     | 0,_=>rfl
     | 1,_=>rfl
     | 2,_=>rfl)
    exact h
   case round =>
    obtain⟨t,htn,rfl,hH,hT2,OO2,hOO2,hM2,hM3⟩:=hrel;have LT:=qh hT2;have LO:=qh hOO2;have LM:=qh (And.intro hM2 hM3);have LH:=qh hH;have hwr:w.heap.size<=w1.heap.size:=KT.o.size;have hc0:wr.cell? ⟨w1.heap.size,0,none⟩=some (.slice a n c):=hH.cell (i:=0) (by omega);have hc2:wr.cell? ⟨w1.heap.size,2,none⟩=some (.int .i64 ((ν i:Int)+1)):=hH.cell (i:=2) (by omega);clear hH hT2 hOO2 hM2 hM3;by_cases ht:t<n
    ·obtain⟨g,hg⟩:=(LO.o i hi).Qi (by rw[<- EN.o];omega);obtain rfl:=EA.o.trans hg;have hO:=LO.o i hi;rw[<- EA.o,<- EN.o] at hO;have HCO:=qh (fun (q:Nat) (hq:q<n*8)=>hO.cell hq);have hfz:=hO.fz;have hglt:=(hO.blk rfl).2.2;have hgw:g<w.heap.size:=((HO.o i hi).blk hg).2.2;have HS1:=qh (fun (w':World) (hb:Below wr.heap.size wr w')=>And.intro ((hb.cell (p:=⟨w1.heap.size,0,none⟩) LH.o.lt).trans hc0) ((hb.cell (p:=⟨w1.heap.size,2,none⟩) LH.o.lt).trans hc2));have hlt:w1.heap.size<wr.heap.size:=LH.o.lt;clear hO;go_wp2_with fail
     refine Jc 7 (JM [(5,Sp.know (.agg #[.bool false,.slice none 0 0,.bool false,.slice none 0 0,.int .u16 ((ν i:Int)+2),.int .u16 0,.int .u16 0,.int .u16 0]))]) (fun w'=>Below wr.heap.size wr w') (by kernel_rfl) (by kernel_rfl)
      (Jd (Sp.Jm _) Jl) (fun _ _ h hb=>h.trans (hb.mono h.size)) (zk.drew) ?_
     simp only[zx,zy,zv,zw]
     iterate 5
      (refine Jb rfl rfl ?_ (fun w' hw'=>?_) ?_;rotate_left;· (have hb':=Has.world hw';(have hs:=HS1.o _ hb');clear hw';go_simp;try rfl))
     (refine Jf rfl rfl (fun w' hw'=>?_) ?_;· (have hb':=Has.world hw';go_simp;((refine(V4 (ν i) w' (HV.o i hi)).mono ?_;rintro e w'' ⟨rfl,hb⟩;exact⟨_,rfl,rfl,hb⟩))))
     rintro _ rfl
     (refine Jb rfl rfl ?_ (fun w' hw'=>?_) ?_;rotate_left;· (have hb':=Has.world hw';(skip);clear hw';go_simp;try rfl))
     refine Jn (fun w5 hb5 hF5=>?_);clear hF5 HS1;have LH:=qh (LH.o.of_block (hb5.block _ LH.o.lt));have LT:=qh (LT.o.trans (Touch.of_below (hb5.mono zj)));have LO:=qh (fun j hj=>(LO.o j hj).below hb5)
     have hcq:∀ q,q<n*8->w5.cell? ⟨g,q,none⟩=some (OO2 i q):=fun q hq=>(hb5.cell (p:=⟨g,q,none⟩) hglt).trans (HCO.o q hq)
     have s0:=hcq (t*8) (by omega);have s1:=hcq (t*8+1) (by omega);have s2:=hcq (t*8+2) (by omega);have s3:=hcq (t*8+3) (by omega);have s4:=hcq (t*8+4) (by omega);have s5:=hcq (t*8+5) (by omega);have s6:=hcq (t*8+6) (by omega);have s7:=hcq (t*8+7) (by omega)
     have hfz:=fun q=>(hb5.frozen (p:=⟨g,q,none⟩) hglt).trans (hfz q)
     have hg5:g<w5.heap.size:=Nat.lt_of_lt_of_le hglt hb5.size;have ST:=qh (jfi (m:=mc (ν i)) HD.o LO.o hi hg (by rw[<- EN.o];exact ht));clear hb5 hcq HCO;go_wp2_with fail
     go_roundw
     case rel =>
      refine⟨t+1,by omega,by go_num,?_,?_,_,ST.o,?_,?_⟩
      ·exact jcu LH.o (by omega) t (mc (ν i))
      ·exact LT.o.Zg (Or.inl ⟨i,hi,_,hg,rfl⟩) t (mc (ν i))
      ·intro j hj c hc;rw[if_neg (by omega)];exact LM.o.1 j hj c hc
      ·intro c hc;rw[if_pos rfl];unfold updT;by_cases e:c/8=t
       ·rw[if_pos e]
       ·rw[if_neg e];exact LM.o.2 c (by omega)
     case measure=>simp[intOf];omega
    ·obtain rfl:t=n:=by omega
     go_wp2_with fail
     go_roundw
     case rel =>
      refine⟨i+1,by omega,by go_num,LT.o,OO2,LO.o,fun j hj c hc=>?_⟩;by_cases e:j=i
      ·subst e;exact LM.o.2 c (by rw[EN.o];exact hc)
      ·exact LM.o.1 j (by omega) c hc
     case measure=>simp[intOf];omega
  ·obtain rfl:i=k:=by omega
   go_wp2_with fail
   (try simp only[Exit.inBlock,Exit.then])
   refine bodyPost_end (results_none rfl _ _ _) rfl ?_;exact⟨⟨_,rfl⟩,KT.o,fun j hj=>(KO.o j hj).congr fun c hc=>KM.o j hj c hc⟩
end Book
namespace Limb
open Go.RowKit Go.Sort Go.Fresh
theorem K8 (s:Bool) (a:Option Addr) (n c:Nat) (w:World):(Instr.field 26 (Jy s a n c) 1).run Tryz.prog w=.ok (.slice a n c) w:=by kernel_rfl
theorem nat_sum {o:Nat->Int} {n:Nat} (h:Dig o n):(((Jh o n).toNat:Nat):Int)=Jh o n:=by have:=(JF h).1;omega
theorem V7 (a b:Option Addr) (na ca nb cb:Nat) (oa ob:Nat->Int) (often:Int) (w:World) (ha:Rd w a na oa) (hb:Rd w b nb ob) (da:Dig oa na) (db:Dig ob nb) (hna:na<=200000000) (hnb:nb<=200000000) (ho:0<=often/\often<=999999999) :
  Calls Tryz.prog 258 #[.slice a na ca,.slice b nb cb,.int .u64 often] w fun e w'=>e=.returned (.bool (decide (Jh oa na<Jh ob nb*often)))/\Below w.heap.size w w':=by
 obtain⟨X,hX⟩:∃ X,X=(Jh oa na).toNat:=⟨_,rfl⟩;obtain⟨Y,hY⟩:∃ Y,Y=(Jh ob nb*often).toNat:=⟨_,rfl⟩
 have eX:(X:Int)=Jh oa na:=by rw[hX];exact nat_sum da
 have eY:(Y:Int)=Jh ob nb*often:=by
  have:=Int.mul_nonneg (JF db).1 ho.1;omega
 rw[<- eX,<- eY];have u1:=IntWalk.u32_in often (by omega);have CL:=qh (Xj a na ca oa w ha (by omega));have WD:=qh (fun (w':World) (h:Below w.heap.size w w')=>jbo b nb cb ob often w' (hb.below h) db hnb ho);rw[<- eY] at WD;have DA:=qh da;have HE:=qh eX.symm;have lX:=qh (show Ja X<=na by rw[hX];exact JS da);obtain⟨LX,hLX⟩:∃ LX,LX=Ja X:=⟨_,rfl⟩;have HLX:=qh hLX;clear ha hb da db hX hY eX eY hLX;have hfld:=K8;go_enter Tryz.func258,Tryz.ntmps258;go_wp2_with fail
 refine CL.o.mono ?_;rintro e w1 ⟨a1,c1,rfl,hO,hn,hb1⟩;have HO:=qh hO;have G1:=qh hb1;have CU:=qh (XI false a1 na c1 oa w1 hO.rd DA.o (by omega) hO.le hn);rw[show(Jh oa na).toNat=X by have:=HE.o;omega,Bool.false_and,<- HLX.o] at CU;clear hO hb1 hn CL;go_wp2_with fail
 refine CU.o.mono ?_;rintro e w2 ⟨rfl,hb2⟩;have RX:=qh (Xn (HO.o.below hb2) DA.o HE.o).rd;have G2:=qh (G1.o.trans (hb2.mono G1.o.size));clear hb2 CU G1;go_wp2_with fail
 refine(WD.o _ G2.o).mono ?_;rintro e w3 ⟨g,p,rfl,hd,hs,hO,hb3⟩;have HP:=qh hO;have HD:=qh (And.intro hd hs);have G3:=qh (G2.o.trans (hb3.mono G2.o.size));have RX:=qh (RX.o.below hb3);have CU:=qh (XI false (some ⟨g,0,none⟩) (nb+1) (nb+1) p w3 hO.rd hd (by omega) zj (fun h=>by cases h));obtain⟨LY,hLY⟩:∃ LY,LY=Ja Y:=⟨_,rfl⟩;rw[show(Jh p (nb+1)).toNat=Y by omega,Bool.false_and,<- hLY] at CU
 have lY:=qh (show Ja Y<=nb+1 by
  have:=JS hd
  rwa [show(Jh p (nb+1)).toNat=Y by omega] at this)
 have HLY:=qh hLY;clear hO hb3 WD G2 hd hs hLY;go_wp2_with fail
 refine CU.o.mono ?_;rintro e w4 ⟨rfl,hb4⟩;have AM:=qh (Xc X Y a1 (some ⟨g,0,none⟩) (Ja X) (Ja Y) w4 (RX.o.below hb4) (Xn (HP.o.below hb4) HD.o.1 HD.o.2).rd (by have:=lX.o;omega) (by have:=lY.o;omega));rw[<- HLX.o,<- HLY.o] at AM;have G4:=qh (G3.o.trans (hb4.mono G3.o.size));clear hb4 CU G3;go_wp2_with fail
 refine AM.o.mono ?_;rintro e w5 ⟨rfl,m,rfl⟩
 have E:decide (JB (X:Int) (Y:Int)<0)=decide ((X:Int)<(Y:Int)):=by
  refine decide_eq_decide.2 ?_
  rcases Int.lt_trichotomy (X:Int) (Y:Int) with h | h | h
  ·rw[JO h];omega
  ·rw[J4 h];omega
  ·rw[JR h];omega
 have HEq:=qh E;clear E AM;go_wp2;go_ret;exact⟨by rw[<- HEq.o];rfl,Qh G4.o m⟩
end Limb
namespace Book
open Go.RowKit Go.Sort Go.Fresh Limb
theorem jd9 {j:Nat} (h:j<=30000):0<=mk j/\mk j<=4294967295:=by unfold mk;omega
theorem V8 (j:Nat) (w:World) (h:j<=30000):Calls Tryz.prog 180 #[.int .i64 ((j:Int)+1)] w fun e w'=>e=.returned (.int .u32 (mk j))/\w'=w:=by
 have e1:=IntWalk.i64_in (1000+((j:Int)+1)) (by omega);have e2:=IntWalk.u32_in (1000+((j:Int)+1)) (by omega)
 have e3:1000+((j:Int)+1)=mk j:=by unfold mk;omega
 go_enter Tryz.func180,Tryz.ntmps180;go_wp2;go_ret;exact⟨rfl,rfl⟩
theorem isL_any (x:Int) (j:Nat) (w:World) (h:j<=30000):Calls Tryz.prog 192 #[.int .u32 x,.int .i64 ((j:Int)+1)] w fun e w'=>e=.returned (.bool (x==mk j))/\w'=w:=by
 have e1:=IntWalk.i64_in (1000+((j:Int)+1)) (by omega);have e2:=IntWalk.u32_in (1000+((j:Int)+1)) (by omega)
 have e3:1000+((j:Int)+1)=mk j:=by unfold mk;omega
 go_enter Tryz.func192,Tryz.ntmps192;go_wp2;go_ret;exact⟨rfl,rfl⟩
def ZT (ν:Nat->Nat) (w:World) (vb k:Nat) (A:Nat->Option Addr) (N C:Nat->Nat) (X:Nat->Value):Prop :=
 ∃ m f,w.rowIs vb 159 m f/\∀ j,j<k->3*j+2<m/\f (3*j)=.slice (A j) (N j) (C j)/\f (3*j+1)=X j/\f (3*j+2)=.int .i64 ((ν j:Int)+1)
theorem ZT.cells {ν:Nat->Nat} {w:World} {vb k:Nat} {A:Nat->Option Addr} {N C:Nat->Nat} {X:Nat->Value} (h:ZT ν w vb k A N C X) {j:Nat} (hj:j<k) :
  w.cell? ⟨vb,j*3,none⟩=some (.slice (A j) (N j) (C j))/\w.cell? ⟨vb,j*3+1,none⟩=some (X j)/\w.cell? ⟨vb,j*3+2,none⟩=some (.int .i64 ((ν j:Int)+1))/\(∀ i,w.frozen? ⟨vb,i,none⟩=false)/\vb<w.heap.size:=by
 obtain⟨m,f,hR,hE⟩:=h;obtain⟨h1,h2,h3,h4⟩:=hE j hj;rw[Nat.mul_comm j 3];exact⟨by rw[<- h2];exact hR.cell (by omega),by rw[<- h3];exact hR.cell (by omega),by rw[<- h4];exact hR.cell (by omega),hR.frozen,hR.lt⟩
theorem ZT.keep {ν:Nat->Nat} {w w':World} {vb k:Nat} {A:Nat->Option Addr} {N C:Nat->Nat} {X:Nat->Value} (h:ZT ν w vb k A N C X) (e:w'.heap[vb]?=w.heap[vb]?):ZT ν w' vb k A N C X:=by
 obtain⟨m,f,hR,hE⟩:=h;exact⟨m,f,hR.of_block e,hE⟩
theorem ZT.lt {ν:Nat->Nat} {w:World} {vb k:Nat} {A:Nat->Option Addr} {N C:Nat->Nat} {X:Nat->Value} (h:ZT ν w vb k A N C X):vb<w.heap.size:=by
 obtain⟨m,f,hR,hE⟩:=h;exact hR.lt
theorem ZT.UZ {ν:Nat->Nat} {w:World} {vb k:Nat} {A:Nat->Option Addr} {N C:Nat->Nat} {X:Nat->Value} (h:ZT ν w vb k A N C X) (i:Nat) (v:Value):ZT ν (w.setCell ⟨vb,i*3+1,none⟩ v) vb k A N C (fun j=>if j=i then v else X j):=by
 obtain⟨m,f,hR,hE⟩:=h;refine⟨m,_,hR.set (i*3+1) v,fun j hj=>?_⟩;obtain⟨h1,h2,h3,h4⟩:=hE j hj;refine⟨h1,?_,?_,?_⟩
 ·rw[if_neg (by omega)];exact h2
 ·show(if 3*j+1=i*3+1 then v else f (3*j+1))=if j=i then v else X j
  by_cases e:j=i
  ·subst e;rw[if_pos (by omega),if_pos rfl]
  ·rw[if_neg (by omega),if_neg e];exact h3
 ·rw[if_neg (by omega)];exact h4
theorem ZT.congr {ν:Nat->Nat} {w:World} {vb k:Nat} {A:Nat->Option Addr} {N C:Nat->Nat} {X Y:Nat->Value} (h:ZT ν w vb k A N C X) (e:∀ j,j<k->X j=Y j):ZT ν w vb k A N C Y:=by
 obtain⟨m,f,hR,hE⟩:=h;exact⟨m,f,hR,fun j hj=>by rw[<- e j hj];exact hE j hj⟩
theorem jfj (b vb k cap:Nat) (A:Nat->Option Addr) (N C:Nat->Nat) (O:Nat->Nat->Int) (f:Nat->Value) (ν:Nat->Nat) (w:World) (hk:k<=30000) (hν:∀ j,j<k->ν j<=30000) (hB:w.rowIs b 53 13 f) (hf:f 2=.slice (some ⟨vb,0,none⟩) k cap)
  (hA:ZT ν w vb k A N C (fun _=>.slice none 0 0)) (hO:∀ j,j<k->Own 160 w 0 (A j) (N j) (C j) (O j)) (hN:∀ j,j<k->N j<=1000000000) (hS:¬UA k A b/\¬UA k A vb) (hD:Part k A) :
  Calls Tryz.prog 87 #[.pointer (some ⟨b,0,none⟩)] w fun e w'=>(∃ v,e=.returned v)/\Touch (UA k A) w w'/\∀ j,j<k->Own 160 w' 0 (A j) (N j) (C j) (fun _=>mk (ν j)):=by
 have HF:=qh hf;have HNU:=qh hν;have HB:=qh hB;have HA:=qh hA;have HO:=qh hO;have HS:=qh hS;have HD:=qh hD;have HN:=qh hN;clear hB hA hO hS hD hN hf hν;go_enter Tryz.func87,Tryz.ntmps87;go_wp2_with fail
 go_loopw [2] (fun v wr=>∃ i:Nat,i<=k/\v=.int .i64 i/\Touch (UA k A) w wr/\∃ OO:Nat->Nat->Int,(∀ j,j<k->Own 160 wr 0 (A j) (N j) (C j) (OO j))/\∀ j,j<i->∀ c,c<N j->OO j c=mk (ν j)) (fun v _=>k-(intOf v).toNat)
 case atStart=>exact⟨0,by omega,rfl,Touch.refl _ _,O,HO.o,fun j hj=>by omega⟩
 case round =>
  obtain⟨w1,rfl⟩:∃ w1,w1=wr:=⟨_,rfl⟩;obtain⟨i,hik,rfl,hT,OO,hOO,hM⟩:=hrel;have KT:=qh hT;have KO:=qh hOO;have KM:=qh hM;have KB:=qh (HB.o.of_block (hT.block _ HB.o.lt HS.o.1));have KA:=qh (HA.o.keep (hT.block _ HA.o.lt HS.o.2));clear hT hOO hM
  have b2:w1.cell? ⟨b,2,none⟩=some (.slice (some ⟨vb,0,none⟩) k cap):=by rw[<- HF.o];exact KB.o.cell (i:=2) (by omega)
  by_cases hi:i<k
  ·obtain⟨a0,a1,a2,-,hvb⟩:=KA.o.cells hi;obtain⟨a,ha⟩:∃ a,a=A i:=⟨_,rfl⟩;obtain⟨n,hn⟩:∃ n,n=N i:=⟨_,rfl⟩;obtain⟨c,hc⟩:∃ c,c=C i:=⟨_,rfl⟩;rw[<- ha,<- hn,<- hc] at a0;have EA:=qh ha;have EN:=qh hn;have EC:=qh hc
   have hnb:n<=1000000000:=by rw[hn];exact HN.o i hi
   clear ha hn hc;go_wp2_with fail
   go_loopw [4] (fun v wr2=>∃ t:Nat,t<=n/\v=.int .i64 t/\wr2.rowIs w1.heap.size 159 3 (hcell a n c (.slice none 0 0) ((ν i:Int)+1))/\Touch (UA k A) w wr2 /\
    ∃ OO:Nat->Nat->Int,(∀ j,j<k->Own 160 wr2 0 (A j) (N j) (C j) (OO j))/\(∀ j,j<i->∀ c,c<N j->OO j c=mk (ν j))/\∀ c,c<t->OO i c=mk (ν i)) (fun v _=>n-(intOf v).toNat)
   case atStart =>
    refine⟨0,by omega,rfl,?_,KT.o.alloc _,OO,fun j hj=>(KO.o j hj).below (zk.alloc zj _),KM.o,fun c hc=>by omega⟩
    have h:=World.rowIs_alloc w1 #[Value.slice a n c,Value.slice none 0 0,Value.int IntKind.i64 ((ν i:Int)+1)] 159 (hcell a n c (.slice none 0 0) ((ν i:Int)+1)) (fun q hq=>by
     match q,hq with
     | 0,_=>rfl
     | 1,_=>rfl
     | 2,_=>rfl)
    exact h
   case round =>
    obtain⟨t,htn,rfl,hH,hT2,OO2,hOO2,hM2,hM3⟩:=hrel;have LT:=qh hT2;have LO:=qh hOO2;have LM:=qh (And.intro hM2 hM3);have LH:=qh hH;have hwr:w.heap.size<=w1.heap.size:=KT.o.size;have hc0:wr.cell? ⟨w1.heap.size,0,none⟩=some (.slice a n c):=hH.cell (i:=0) (by omega);have hc2:wr.cell? ⟨w1.heap.size,2,none⟩=some (.int .i64 ((ν i:Int)+1)):=hH.cell (i:=2) (by omega);clear hH hT2 hOO2 hM2 hM3;by_cases ht:t<n
    ·obtain⟨g,hg⟩:=(LO.o i hi).Qi (by rw[<- EN.o];omega);obtain rfl:=EA.o.trans hg;have hO:=LO.o i hi;rw[<- EA.o,<- EN.o] at hO;obtain⟨vo,hco⟩:∃ vo,wr.cell? ⟨g,t,none⟩=some vo:=⟨_,hO.cell ht⟩;have hfz:=hO.fz;have hglt:=(hO.blk rfl).2.2;have hgw:g<w.heap.size:=((HO.o i hi).blk hg).2.2;have HS1:=qh (fun (w':World) (hb:Below wr.heap.size wr w')=>And.intro ((hb.cell (p:=⟨w1.heap.size,0,none⟩) LH.o.lt).trans hc0) ((hb.cell (p:=⟨w1.heap.size,2,none⟩) LH.o.lt).trans hc2));have hlt:w1.heap.size<wr.heap.size:=LH.o.lt;clear hO;go_wp2_with fail
     refine Jc 7 (JM [(5,Sp.know (.int .u32 (mk (ν i))))]) (fun w'=>Below wr.heap.size wr w') (by kernel_rfl) (by kernel_rfl)
      (Jd (Sp.Jm _) Jl) (fun _ _ h hb=>h.trans (hb.mono h.size)) (zk.drew) ?_
     simp only[zx,zy,zv,zw]
     iterate 5
      (refine Jb rfl rfl ?_ (fun w' hw'=>?_) ?_;rotate_left;· (have hb':=Has.world hw';(have hs:=HS1.o _ hb');clear hw';go_simp;try rfl))
     (refine Jf rfl rfl (fun w' hw'=>?_) ?_;· (have hb':=Has.world hw';go_simp;((refine(V8 (ν i) w' (HNU.o i hi)).mono ?_;rintro e w'' ⟨rfl,rfl⟩;exact⟨_,rfl,rfl,zk⟩))))
     rintro _ rfl
     (refine Jb rfl rfl ?_ (fun w' hw'=>?_) ?_;rotate_left;· (have hb':=Has.world hw';(skip);clear hw';go_simp;try rfl))
     refine Jn (fun w5 hb5 hF5=>?_);clear hF5 HS1;have LH:=qh (LH.o.of_block (hb5.block _ LH.o.lt));have LT:=qh (LT.o.trans (Touch.of_below (hb5.mono zj)));have LO:=qh (fun j hj=>(LO.o j hj).below hb5);have hco:=(hb5.cell (p:=⟨g,t,none⟩) hglt).trans hco
     have hfz:=fun q=>(hb5.frozen (p:=⟨g,q,none⟩) hglt).trans (hfz q)
     have ST:=qh (own_step HD.o LO.o hi hg (by rw[<- EN.o];exact ht) (jd9 (HNU.o i hi)));clear hb5;go_wp2_with fail
     go_roundw
     case rel =>
      refine⟨t+1,by omega,by go_num,LH.o.setOther (by dsimp only;omega) _,LT.o.setCell (p:=⟨g,t,none⟩) (Or.inl ⟨i,hi,_,hg,rfl⟩) _,_,ST.o,?_,?_⟩
      ·intro j hj c hc;rw[if_neg (by omega)];exact LM.o.1 j hj c hc
      ·intro c hc;rw[if_pos rfl];by_cases e:c=t
       ·subst e;exact upd_same _ _ _
       ·rw[upd_ne _ _ e];exact LM.o.2 c (by omega)
     case measure=>simp[intOf];omega
    ·obtain rfl:t=n:=by omega
     go_wp2_with fail
     go_roundw
     case rel =>
      refine⟨i+1,by omega,by go_num,LT.o,OO2,LO.o,fun j hj c hc=>?_⟩;by_cases e:j=i
      ·subst e;exact LM.o.2 c (by rw[EN.o];exact hc)
      ·exact LM.o.1 j (by omega) c hc
     case measure=>simp[intOf];omega
  ·obtain rfl:i=k:=by omega
   go_wp2_with fail
   (try simp only[Exit.inBlock,Exit.then])
   refine bodyPost_end (results_none rfl _ _ _) rfl ?_;exact⟨⟨_,rfl⟩,KT.o,fun j hj=>(KO.o j hj).congr fun c hc=>KM.o j hj c hc⟩
structure jad (ν:Nat->Nat) (w wr:World) (vb k:Nat) (A:Nat->Option Addr) (N C:Nat->Nat) (i:Nat) (LA:Nat->Option Addr) (LC:Nat->Nat):Prop where
 tch:Touch (fun g=>UA k A g\/g=vb) w wr
 arr:ZT ν wr vb k A N C (fun j=>if j<i then .slice (LA j) (N j+40) (LC j) else .slice none 0 0)
 own:∀ j,j<k->Own 160 wr 0 (A j) (N j) (C j) (fun _=>mk (ν j))
 lng:∀ j,j<i->Own 160 wr 0 (LA j) (N j+40) (LC j) (fun _=>mk (ν j))/\(LA j=A j\/∃ g,LA j=some ⟨g,0,none⟩/\w.heap.size<=g)
theorem jar {ν:Nat->Nat} {w w1 wr:World} {vb k i c:Nat} {A LA:Nat->Option Addr} {N C LC:Nat->Nat} {a:Option Addr} {hv:Nat->Value} (GO:jad ν w w1 vb k A N C i LA LC) (hi:i<k) (G:jct w1 wr (ν i) (N i) (A i) (C i) 40 a c hv)
  (hS:¬UA k A vb) (hD:Part k A) (hvb:vb<w.heap.size) (hA:∀ j,j<k->∀ p,A j=some p->p.block<w.heap.size) :
  jad ν w (wr.setCell ⟨vb,i*3+1,none⟩ (.slice a (N i+40) c)) vb k A N C (i+1) (fun j=>if j=i then a else LA j) (fun j=>if j=i then c else LC j):=by
 have hsz:=GO.tch.size
 have hnv:∀ j,j<k->∀ p,A j=some p->p.block≠vb:=fun j hj p hp e=>hS ⟨j,hj,p,hp,e⟩
 refine⟨?_,?_,fun j hj=>?_,fun j hj=>?_⟩
 ·exact(GO.tch.trans (G.tch.weak fun q _ ⟨p,hp,e⟩=>Or.inl ⟨i,hi,p,hp,e⟩)).setCell (p:=⟨vb,i*3+1,none⟩) (Or.inl (Or.inr rfl)) _
 ·refine((GO.arr.keep (G.tch.block _ (by omega) (fun ⟨p,hp,e⟩=>hnv i hi p hp e))).UZ i _).congr fun j hj=>?_
  show(if j=i then _ else if j<i then _ else _)=(if j<i+1 then Value.slice (if j=i then a else LA j) _ (if j=i then c else LC j) else _);by_cases e:j=i
  ·subst e;rw[if_pos rfl,if_pos (by omega),if_pos rfl,if_pos rfl]
  ·rw[if_neg e,if_neg e,if_neg e];by_cases h:j<i
   ·rw[if_pos h,if_pos (by omega)]
   ·rw[if_neg h,if_neg (by omega)]
 ·have h1:Own 160 wr 0 (A j) (N j) (C j) (fun _=>mk (ν j)):=by
   by_cases e:j=i
   ·subst e;exact G.old
   ·exact(GO.own j hj).keep fun p hp=>G.tch.block _ (by have:=hA j hj p hp;omega) (fun ⟨q,hq,e'⟩=>hD j hj i hi e p q hp hq e'.symm)
  exact h1.keep fun p hp=>Below.heap_setCell _ _ _ _ (hnv j hj p hp)
 ·by_cases e:j=i
  ·subst e;rw[if_pos rfl,if_pos rfl];refine⟨G.own.keep fun p hp=>Below.heap_setCell _ _ _ _ ?_,?_⟩
   ·rcases G.plc with ⟨h,_⟩ | ⟨g,h,hlt⟩
    ·exact hnv j hi p (h▸hp)
    ·rw[h] at hp;cases hp;dsimp only;omega
   ·rcases G.plc with ⟨h,_⟩ | ⟨g,h,hlt⟩
    ·exact .inl h
    ·exact .inr ⟨g,h,by omega⟩
  ·rw[if_neg e,if_neg e];obtain⟨h1,h2⟩:=GO.lng j (by omega)
   have hne:∀ p,LA j=some p->p.block≠vb/\∀ q,A i=some q->q.block≠p.block:=by
    intro p hp
    rcases h2 with h | ⟨g,h,hlt⟩
    ·rw[h] at hp;exact⟨hnv j (by omega) p hp,fun q hq e'=>hD j (by omega) i hi e p q hp hq e'.symm⟩
    ·rw[h] at hp;cases hp
     exact⟨by dsimp only;omega,fun q hq=>by have:=hA i hi q hq;dsimp only;omega⟩
   refine⟨(h1.keep fun p hp=>G.tch.block _ (h1.blk hp).2.2 (fun ⟨q,hq,e'⟩=>(hne p hp).2 q hq e')).keep fun p hp=>Below.heap_setCell _ _ _ _ (hne p hp).1,h2⟩
theorem jfk (b vb k cap:Nat) (A:Nat->Option Addr) (N C:Nat->Nat) (f:Nat->Value) (ν:Nat->Nat) (w:World) (hk:k<=30000) (hν:∀ j,j<k->ν j<=30000) (hB:w.rowIs b 53 13 f) (hf:f 2=.slice (some ⟨vb,0,none⟩) k cap)
  (hA:ZT ν w vb k A N C (fun _=>.slice none 0 0)) (hO:∀ j,j<k->Own 160 w 0 (A j) (N j) (C j) (fun _=>mk (ν j))) (hN:∀ j,j<k->N j<=900000000) (hS:¬UA k A b/\¬UA k A vb) (hD:Part k A) (hbv:b≠vb) :
  Calls Tryz.prog 99 #[.pointer (some ⟨b,0,none⟩)] w fun e w'=>(∃ v,e=.returned v)/\∃ LA LC,jad ν w w' vb k A N C k LA LC:=by
 have HF:=qh hf;have HNU:=qh hν;have HB:=qh hB;have HA:=qh hA;have HO:=qh hO;have HS:=qh hS;have HD:=qh hD;have HN:=qh hN;have HV:=qh (And.intro hA.lt fun j hj p hp=>((hO j hj).blk (p:=p) hp).2.2);clear hB hA hO hS hD hN hf hν;go_enter Tryz.func99,Tryz.ntmps99;go_wp2_with fail
 go_loopw [2] (fun v wr=>∃ i:Nat,i<=k/\v=.int .i64 i/\∃ LA LC,jad ν w wr vb k A N C i LA LC) (fun v _=>k-(intOf v).toNat)
 case atStart=>exact⟨0,by omega,rfl,fun _=>none,fun _=>0,Touch.refl _ _,HA.o.congr (fun j _=>by rw[if_neg (by omega)]),HO.o,fun j hj=>by omega⟩
 case round =>
  obtain⟨w1,rfl⟩:∃ w1,w1=wr:=⟨_,rfl⟩;obtain⟨i,hik,rfl,LA,LC,hG⟩:=hrel;have KG:=qh hG;have KB:=qh (HB.o.of_block (hG.tch.block _ HB.o.lt (fun h=>h.elim HS.o.1 (fun h=>hbv h))));clear hG
  have b2:w1.cell? ⟨b,2,none⟩=some (.slice (some ⟨vb,0,none⟩) k cap):=by rw[<- HF.o];exact KB.o.cell (i:=2) (by omega)
  by_cases hi:i<k
  ·obtain⟨a0,a1,a2,-,hvb⟩:=KG.o.arr.cells hi;rw[if_neg (by omega)] at a1;obtain⟨n,hn⟩:∃ n,n=N i:=⟨_,rfl⟩;obtain⟨ai,ha⟩:∃ ai,ai=A i:=⟨_,rfl⟩;obtain⟨ci,hc⟩:∃ ci,ci=C i:=⟨_,rfl⟩;rw[<- ha,<- hn,<- hc] at a0
   have hnb:n<=900000000:=by rw[hn];exact HN.o i hi
   have EA:=qh ha;have EN:=qh hn;have EC:=qh hc
   have G0:=qh (show jct w1 (w1.alloc (.cells #[.slice ai n ci,.slice none 0 0,.int .i64 ((ν i:Int)+1)] 159)) (ν i) n ai ci 0 ai ci (hcell ai n ci (.slice none 0 0) ((ν i:Int)+1)) from by
    have h1:=KG.o.own i hi;rw[<- ha,<- hn,<- hc] at h1;have h2:=h1.below (zk.alloc zj (.cells #[.slice ai n ci,.slice none 0 0,.int .i64 ((ν i:Int)+1)] 159))
    exact⟨h2,h2,.inl ⟨rfl,rfl⟩,World.rowIs_alloc w1 #[Value.slice ai n ci,Value.slice none 0 0,Value.int IntKind.i64 ((ν i:Int)+1)] 159 (hcell ai n ci (.slice none 0 0) ((ν i:Int)+1)) (fun q hq=>by
     match q,hq with
     | 0,_=>rfl
     | 1,_=>rfl
     | 2,_=>rfl),(Touch.refl _ _).alloc _,fun p hp=>(h1.blk hp).2.2⟩)
   clear ha hn hc;go_wp2_with fail
   go_loopw [4,5] (fun v u wr=>∃ t:Nat,t<=40/\u=.int .i64 t/\∃ a c,v=.slice a (n+t) c/\jct w1 wr (ν i) n ai ci t a c (hcell ai n ci (.slice none 0 0) ((ν i:Int)+1))) (fun _ u _=>40-(intOf u).toNat)
   case atStart=>exact⟨0,by omega,rfl,ai,ci,rfl,G0.o⟩
   case round =>
    obtain⟨t,ht40,rfl,a,c,rfl,hI⟩:=hrel;have LI:=qh hI;have hc2:wr.cell? ⟨w1.heap.size,2,none⟩=some (.int .i64 ((ν i:Int)+1)):=hI.box.cell (i:=2) (by omega);have hlt:=hI.box.lt;clear hI;by_cases ht:t<40
    ·go_wp2_with (first
      | (go_at_call 180;refine(V8 (ν i) _ (HNU.o i hi)).mono ?_;rintro e w2 ⟨rfl,hw2⟩;obtain rfl:=hw2.symm)
      | (at_builtin;refine Zm rfl _ _ rfl (by rfl) (LI.o.own.JK _) (by omega) (Nat.zero_le _) (v:=mk (ν i)) (by rfl) ?c1 (jd9 (HNU.o i hi)) (by rfl) ?_))
     case c1=>simp
     intro a' c' w2 hown hcase;have NI:=qh (grow_step LI.o hown hcase);clear hown hcase;go_wp2_with fail
     go_roundw
     case rel=>exact⟨t+1,by omega,by go_num,a',c',rfl,NI.o⟩
     case measure=>simp[intOf];omega
    ·obtain rfl:t=40:=by omega
     have b3:=(LI.o.tch.block _ (show b<w1.heap.size from KB.o.lt) (fun ⟨p,hp,e⟩=>HS.o.1 ⟨i,hi,p,EA.o▸hp,e⟩))
     have b4:wr.cell? ⟨b,2,none⟩=some (.slice (some ⟨vb,0,none⟩) k cap):=by rw[<- HF.o];exact(KB.o.of_block b3).cell (i:=2) (by omega)
     have v3:=(KG.o.arr.keep (LI.o.tch.block _ (show vb<w1.heap.size from hvb) (fun ⟨p,hp,e⟩=>HS.o.2 ⟨i,hi,p,EA.o▸hp,e⟩))).cells hi;obtain⟨v30,v31,v32,v33,v34⟩:=v3;rw[if_neg (by omega)] at v31;have HG:=qh (jar KG.o hi (by rw[<- EA.o,<- EN.o,<- EC.o];exact LI.o) HS.o.2 HD.o HV.o.1 HV.o.2);rw[<- EN.o] at HG;clear b2 b3 a0 a1 a2 v30 v32;go_wp2_with fail
     go_roundw
     case rel=>exact⟨i+1,by omega,by go_num,_,_,HG.o⟩
     case measure=>simp[intOf];omega
  ·obtain rfl:i=k:=by omega
   go_wp2_with fail
   (try simp only[Exit.inBlock,Exit.then])
   refine bodyPost_end (results_none rfl _ _ _) rfl ?_;exact⟨⟨_,rfl⟩,LA,LC,KG.o⟩
theorem jfl (b vb k cap:Nat) (A LA:Nat->Option Addr) (N C LC:Nat->Nat) (f:Nat->Value) (ν:Nat->Nat) (w:World) (hk:k<=30000) (hν:∀ j,j<k->ν j<=30000) (hB:w.rowIs b 53 13 f) (hf:f 2=.slice (some ⟨vb,0,none⟩) k cap)
  (hA:ZT ν w vb k A N C (fun j=>.slice (LA j) (N j+40) (LC j))) (hO:∀ j,j<k->Own 160 w 0 (A j) (N j) (C j) (fun _=>mk (ν j))) (hL:∀ j,j<k->Own 160 w 0 (LA j) (N j+40) (LC j) (fun _=>mk (ν j))) (hN:∀ j,j<k->N j<=900000000) :
  Calls Tryz.prog 111 #[.pointer (some ⟨b,0,none⟩)] w fun e w'=>e=.returned (.bool true)/\Below w.heap.size w w':=by
 have HF:=qh hf;have HNU:=qh hν;have HB:=qh hB;have HA:=qh hA;have HO:=qh hO;have HL:=qh hL;have HN:=qh hN;clear hB hA hO hL hN hf hν;go_enter Tryz.func111,Tryz.ntmps111;go_wp2_with fail
 go_loopw [3] (fun v wr=>∃ i:Nat,i<=k/\v=.int .i64 i/\Below w.heap.size w wr) (fun v _=>k-(intOf v).toNat)
 case atStart=>exact⟨0,by omega,rfl,zk⟩
 case round =>
  obtain⟨w1,rfl⟩:∃ w1,w1=wr:=⟨_,rfl⟩;obtain⟨i,hik,rfl,hG⟩:=hrel;have KG:=qh hG;have KB:=qh (HB.o.of_block (hG.block _ HB.o.lt));have KA:=qh (HA.o.keep (hG.block _ HA.o.lt));clear hG
  have b2:w1.cell? ⟨b,2,none⟩=some (.slice (some ⟨vb,0,none⟩) k cap):=by rw[<- HF.o];exact KB.o.cell (i:=2) (by omega)
  by_cases hi:i<k
  ·obtain⟨a0,a1,a2,-,hvb⟩:=KA.o.cells hi;have O1:=(HO.o i hi).below KG.o;have L1:=(HL.o i hi).below KG.o;obtain⟨n,hn⟩:∃ n,n=N i:=⟨_,rfl⟩;obtain⟨ai,ha⟩:∃ ai,ai=A i:=⟨_,rfl⟩;obtain⟨ci,hc⟩:∃ ci,ci=C i:=⟨_,rfl⟩;obtain⟨lc,hlc⟩:∃ lc,lc=LC i:=⟨_,rfl⟩;obtain⟨gq,hlg⟩:=L1.Qi (by omega);rw[<- hlc,hlg,<- hn] at L1 a1;rw[<- ha,<- hn,<- hc] at a0 O1
   have hnb:n<=900000000:=by rw[hn];exact HN.o i hi
   have LO:=qh O1;have LL:=qh L1;obtain⟨W,hW⟩:∃ W,W=w1.alloc (.cells #[.slice ai n ci,.slice (some ⟨gq,0,none⟩) (n+40) lc,.int .i64 ((ν i:Int)+1)] 159):=⟨_,rfl⟩
   have R:=World.rowIs_alloc w1 #[Value.slice ai n ci,Value.slice (some ⟨gq,0,none⟩) (n+40) lc,Value.int IntKind.i64 ((ν i:Int)+1)] 159 (hcell ai n ci (.slice (some ⟨gq,0,none⟩) (n+40) lc) ((ν i:Int)+1)) (fun q hq=>by
     match q,hq with
     | 0,_=>rfl
     | 1,_=>rfl
     | 2,_=>rfl)
   rw[<- hW] at R;have WB:=qh (show Below w1.heap.size w1 W by rw[hW];exact zk.alloc zj _);have WR:=qh (show W.rowIs w1.heap.size 159 3 (hcell ai n ci (.slice (some ⟨gq,0,none⟩) (n+40) lc) ((ν i:Int)+1)) from R);have HW:=qh hW;have e40:=IntWalk.i64_in ((n:Int)+40) (by omega)
   have ec:((n+40:Nat):Int)=(n:Int)+40:=by omega
   clear ha hn hc hlc O1 L1 R hW hlg
   go_upto_region 5 with (fail)
   rw[show(w1.alloc (.cells #[.slice ai n ci,.slice (some ⟨gq,0,none⟩) (n+40) lc,.int .i64 ((ν i:Int)+1)] 159))=W from HW.o.symm];have h0:W.cell? ⟨w1.heap.size,0,none⟩=some (.slice ai n ci):=WR.o.cell (i:=0) (by omega);have h1:W.cell? ⟨w1.heap.size,1,none⟩=some (.slice (some ⟨gq,0,none⟩) (n+40) lc):=WR.o.cell (i:=1) (by omega);have h2:W.cell? ⟨w1.heap.size,2,none⟩=some (.int .i64 ((ν i:Int)+1)):=WR.o.cell (i:=2) (by omega);go_wp2_with fail
   go_loopw [5] (fun v wr=>∃ t:Nat,t<=n+40/\v=.int .i64 t/\∃ m,wr=W.drewN m) (fun v _=>n+40-(intOf v).toNat)
   case atStart=>exact⟨0,by omega,rfl,0,rfl⟩
   case round =>
    obtain⟨t,htn,rfl,hm⟩:=hrel;have HM:=qh hm
    have cw:∀ p,wr.cell? p=W.cell? p:=by obtain⟨m,rfl⟩:=hm;intro p;rfl
    clear hm;have g0:wr.cell? ⟨w1.heap.size,0,none⟩=some (.slice ai n ci):=(cw _).trans h0;have g1:wr.cell? ⟨w1.heap.size,1,none⟩=some (.slice (some ⟨gq,0,none⟩) (n+40) lc):=(cw _).trans h1;have g2:wr.cell? ⟨w1.heap.size,2,none⟩=some (.int .i64 ((ν i:Int)+1)):=(cw _).trans h2;have IS:=qh (fun (v1:World)=>isL_any (mk (ν i)) (ν i) v1 (HNU.o i hi));rw[show(mk (ν i)==mk (ν i))=true by simp] at IS;by_cases ht:t<n+40
    ·have c1:wr.cell? ⟨gq,t,none⟩=some (.int .u32 (mk (ν i))):=(cw _).trans ((LL.o.below WB.o).cell ht)
     have x1:(t:Int)<(n:Int)+40:=by omega
     by_cases ht2:t<n
     ·obtain⟨g,rfl⟩:=LO.o.Qi (by omega);have c2:wr.cell? ⟨g,t,none⟩=some (.int .u32 (mk (ν i))):=(cw _).trans ((LO.o.below WB.o).cell ht2)
      have x2:(t:Int)<(n:Int):=by omega
      clear cw h0 h1 h2;go_wp2_with fail
      go_quiet (first | with_reducible exact ZK (IS.o _));go_wp2_with fail
      go_roundw
      case rel=>exact⟨t+1,by omega,by go_num,by obtain⟨m,e⟩:=HM.o;exact⟨_,by rw[e,World.drewN_drewN]⟩⟩
      case measure=>simp[intOf];omega
     ·have x2:¬(t:Int)<(n:Int):=by omega
      clear cw h0 h1 h2;go_wp2_with fail
      go_quiet (first | with_reducible exact ZK (IS.o _));go_wp2_with fail
      go_roundw
      case rel=>exact⟨t+1,by omega,by go_num,by obtain⟨m,e⟩:=HM.o;exact⟨_,by rw[e,World.drewN_drewN]⟩⟩
      case measure=>simp[intOf];omega
    ·have x1:¬(t:Int)<(n:Int)+40:=by omega
     obtain rfl:t=n+40:=by omega
     go_wp2_with fail
     go_roundw
     case rel=>exact⟨i+1,by omega,by go_num,by obtain⟨m,e⟩:=HM.o;rw[e];exact Qh (KG.o.trans (WB.o.mono KG.o.size)) _⟩
     case measure=>simp[intOf];omega
  ·obtain rfl:i=k:=by omega
   go_wp2_with fail
   go_ret;exact⟨rfl,KG.o⟩
theorem info8T:(Tryz.prog.info? 71).map (fun i=>(i.zero,i.size,i.bytes))=some (some (.agg #[.bool false,.slice none 0 0,.bool false,.slice none 0 0,.int .u16 0,.int .u16 0,.int .u16 0,.int .u16 0]),8,72):=by kernel_rfl
def vcs (F:Nat->Value) (k:Nat):List Value:=(List.range k).map F
theorem Qo (F:Nat->Value) (k:Nat):(vcs F k).length=k:=by unfold vcs;rw[List.length_map,List.length_range]
theorem YV (F:Nat->Value) {k i:Nat} (h:i<k):(vcs F k)[i]?=some (F i):=by unfold vcs;rw[List.getElem?_map,List.getElem?_range h];rfl
theorem Vm {F:Nat->Value} {k i:Nat} {v:Value} (h:(vcs F k)[i]?=some v):i<k/\v=F i:=by
 have hi:=(List.getElem?_eq_some_iff.1 h).1;rw[Qo] at hi;rw[YV F hi] at h;exact⟨hi,(Option.some.inj h).symm⟩
def YW (F:Nat->Value) (n:Nat) (m:Nat->Value) (i:Nat):Value:=if i<n*8 then F i else m (i-n*8)
theorem push_get {F:Nat->Value} {n:Nat} {m:Nat->Value} {i:Nat} (h:i<(n+1)*8):(vcs F (n*8)++vcs m 8)[i]?=some (YW F n m i):=by
 unfold YW;by_cases e:i<n*8
 ·rw[List.getElem?_append_left (by rw[Qo];exact e),YV F e,if_pos e]
 ·rw[List.getElem?_append_right (by rw[Qo];omega),Qo,YV m (by omega),if_neg e]
theorem jfm {w:World} {base:Nat} {a:Option Addr} {n cap:Nat} {F:Nat->Value} (h:J5 w base a n cap F) (hn:n<=1000000000) (hb:base<=w.heap.size) {gs:Nat} {mm:Nat->Value} (hc:∀ i,i<8->w.cell? ⟨gs,i,none⟩=some (mm i)) (h1:∀ i,i<8->(mm i).oneCell'=true) (ty m c:Nat) (hm:m=1) :
  ∃ a' cap' w',(Builtin.append_ #[22,22] ty #[.slice a n cap,.slice (some ⟨gs,0,none⟩) m c]).run Tryz.prog w=.ok (.slice a' (n+1) cap') w'/\J5 w' base a' (n+1) cap' (YW F n mm) /\
   ((a'=a/\cap'=cap/\w.grownBy w' (a.map (·.block)))\/((∃ g,a'=some ⟨g,0,none⟩/\w.heap.size<=g)/\w.grownBy w' none/\cap<n+1)):=by
 subst hm;obtain⟨i0,hi,hz0,hz1,hz2⟩:=info_parts info8T
 have hnews:∀ j u,(vcs mm 8)[j]?=some u->w.cell? ((⟨gs,0,none⟩:Addr).add j)=some u:=by
  intro j u hj;obtain⟨h2,rfl⟩:=Vm hj;rw[Addr.add_lit,Nat.zero_add];exact hc j h2
 have hone:∀ u∈vcs mm 8,u.oneCell'=true:=fun u hu=>by
  obtain⟨j,hj⟩:=List.mem_iff_getElem?.1 hu;obtain⟨h2,rfl⟩:=Vm hj;exact h1 j h2
 have hzs:∀ k,(Builtin.zeroCells (Value.agg #[.bool false,.slice none 0 0,.bool false,.slice none 0 0,.int .u16 0,.int .u16 0,.int .u16 0,.int .u16 0]).cells k).size=k*8:=fun k=>by rw[size_zeroCells];rfl
 have grownOwn:∀ old,old<n+1->J5 (w.drew.alloc (.cells ((vcs F (n*8)).toArray++(vcs mm 8).toArray++Builtin.zeroCells (Value.agg #[.bool false,.slice none 0 0,.bool false,.slice none 0 0,.int .u16 0,.int .u16 0,.int .u16 0,.int .u16 0]).cells (grownCap w (n+1) old 71-(n+1))) 71)) base (some ⟨w.heap.size,0,none⟩) (n+1) (grownCap w (n+1) old 71) (YW F n mm) /\
   w.grownBy (w.drew.alloc (.cells ((vcs F (n*8)).toArray++(vcs mm 8).toArray++Builtin.zeroCells (Value.agg #[.bool false,.slice none 0 0,.bool false,.slice none 0 0,.int .u16 0,.int .u16 0,.int .u16 0,.int .u16 0]).cells (grownCap w (n+1) old 71-(n+1))) 71)) none:=by
  intro old ho;have hge:=grownCap_ge w (n+1) old 71;refine⟨⟨hge,Or.inr ⟨w.heap.size,_,rfl,hb,heap_alloc_new w.drew _,?_,fun i hi=>?_⟩⟩,⟨rfl,rfl,rfl,by simp,fun k hk _=>heap_alloc_old w.drew _ hk⟩⟩
  ·rw[Array.size_append,Array.size_append,List.size_toArray,List.size_toArray,Qo,Qo,hzs];omega
  ·rw[Array.getElem?_append_left (by rw[Array.size_append,List.size_toArray,List.size_toArray,Qo,Qo];omega),<- Array.getElem?_toList,Array.toList_append];exact push_get hi
 rcases h.place with ⟨rfl,rfl,rfl⟩ | ⟨g,cur,rfl,hbg,hg,hcap,hcc⟩
 ·have hr:=run_append_nil (P:=Tryz.prog) w 22 ty 71 i0 _ Tryz.underlying22 hi hz0 ⟨gs,0,none⟩ 1 c (vcs mm 8) (by rw[hz1,Qo]) hnews (by omega) (by omega) (by rw[hz2];omega);have hgr:=grownOwn 0 (by omega);simp only[Nat.zero_add,Nat.zero_mul,vcs,List.range_zero,List.map_nil,Array.empty_append] at hgr;exact⟨_,_,_,hr,hgr.1,Or.inr ⟨⟨_,rfl,zj⟩,hgr.2,by omega⟩⟩
 ·by_cases hroom:n+1<=cap
  ·have hr:=run_append_room (P:=Tryz.prog) w 22 ty 71 i0 Tryz.underlying22 hi g n cap cur hg ⟨gs,0,none⟩ 1 c (vcs mm 8) (by rw[hz1,Qo]) hnews hone hroom (by rw[hz1,Qo];omega);refine⟨_,_,_,hr,⟨hroom,Or.inr ⟨g,_,rfl,hbg,setRow_heap w g cur _ _ _ hg,?_,fun i hi=>?_⟩⟩,Or.inl ⟨rfl,rfl,⟨rfl,rfl,rfl,by simp,fun k _ hk=>setRow_other w g k _ (fun e=>hk (by simp[e]))⟩⟩⟩
   ·simp only[List.size_toArray,List.length_append,List.length_take,List.length_drop,Array.length_toList,Qo,hz1];omega
   ·rw[hz1,List.getElem?_toArray,List.append_assoc]
    have hlt:(cur.toList.take (n*8)).length=n*8:=by rw[List.length_take,Array.length_toList];omega
    unfold YW;by_cases e:i<n*8
    ·rw[List.getElem?_append_left (by rw[hlt];exact e),List.getElem?_take,if_pos e,Array.getElem?_toList,hcc i e,if_pos e]
    ·rw[List.getElem?_append_right (by rw[hlt];omega),hlt,List.getElem?_append_left (by rw[Qo];omega),YV mm (by omega),if_neg e]
  ·have holds:∀ j u,(vcs F (n*8))[j]?=some u->w.cell? ((⟨g,0,none⟩:Addr).add j)=some u:=by
    intro j u hj;obtain⟨hj1,rfl⟩:=Vm hj;rw[Addr.add_lit,Nat.zero_add,cell_of_row _ _ _ _ _ _ hg];exact hcc j hj1
   have hle:=h.le;have hr:=run_append_grow (P:=Tryz.prog) w 22 ty 71 i0 _ Tryz.underlying22 hi hz0 ⟨g,0,none⟩ n cap (vcs F (n*8)) (by rw[Qo,hz1]) holds ⟨gs,0,none⟩ 1 c (vcs mm 8) (by rw[hz1,Qo]) hnews (by omega) (by omega) (growslice_fits (by omega) (by rw[hz2];omega));have hgr:=grownOwn cap (by omega);exact⟨_,_,_,hr,hgr.1,Or.inr ⟨⟨_,rfl,zj⟩,hgr.2,by omega⟩⟩
theorem UB {ops:Array Oper} {rest:List Oper} {oo:Oper} {ac:Act} {Q:Exit->Act->World->Prop} (hgd:oo.guard=none) (s x:Operand)
  (ho:oo.op=.call { callee:=.builtin .append,args:=#[s,x],argTypes:=#[22,22] })
  {w:World} {base:Nat} {a:Option Addr} {n cap:Nat} {F:Nat->Value} (hs:ac.eval s=.slice a n cap) (h:J5 w base a n cap F) (hn:n<=1000000000) (hb:base<=w.heap.size)
  {gs:Nat} {mm:Nat->Value} {m c:Nat} (hx:ac.eval x=.slice (some ⟨gs,0,none⟩) m c) (hc:∀ i,i<8->w.cell? ⟨gs,i,none⟩=some (mm i)) (h1:∀ i,i<8->(mm i).oneCell'=true) (hm:m=1)
  (hK:∀ a' cap' w',J5 w' base a' (n+1) cap' (YW F n mm)->((a'=a/\cap'=cap/\w.grownBy w' (a.map (·.block)))\/((∃ g,a'=some ⟨g,0,none⟩/\w.heap.size<=g)/\w.grownBy w' none/\cap<n+1)) ->
   wpList Tryz.prog ops Q rest (ac.put oo.dst (.slice a' (n+1) cap')) w'):wpList Tryz.prog ops Q (oo :: rest) ac w:=by
 refine wpList_plain hgd fun K hK'=>?_
 obtain⟨a',cap',w',hr,h2,h3⟩:=jfm h hn hb hc h1 oo.type m c hm;unfold Oper.wp execOp;simp only[ho,resolve,invoke,builtin,Sem.run_bind,Sem.run_pure,Result.andThen_ok,List.map_toArray,List.map_cons,List.map_nil,hs,hx,hr];exact hK' _ _ (hK _ _ _ h2 h3)
theorem ZL.congr {ν:Nat->Nat} {w:World} {vb k:Nat} {A:Nat->Option Addr} {N C:Nat->Nat} {X Y:Nat->Value} (h:ZL ν w vb k A N C X) (e:∀ j,j<k->X j=Y j):ZL ν w vb k A N C Y:=by
 obtain⟨m,f,hR,hE⟩:=h;exact⟨m,f,hR,fun j hj=>by rw[<- e j hj];exact hE j hj⟩
def mcf (j:Nat):Nat->Value:=fun c=>mc j (c%8)
theorem mc_one (j i:Nat) (_:i<8):(mc j i).oneCell'=true:=by
 unfold mc
 split <;> rfl
theorem mc_cell (w:World) (j:Nat) {q:Nat} (h:q<8):(w.alloc (.cells #[.bool false,.slice none 0 0,.bool false,.slice none 0 0,.int .u16 ((j:Int)+2),.int .u16 0,.int .u16 0,.int .u16 0] 71)).cell? ⟨w.heap.size,q,none⟩=some (mc j q):=by
 rw[cell_of_row _ _ _ _ _ _ (heap_alloc_new w _)]
 match q,h with
 | 0,_=>rfl
 | 1,_=>rfl
 | 2,_=>rfl
 | 3,_=>rfl
 | 4,_=>rfl
 | 5,_=>rfl
 | 6,_=>rfl
 | 7,_=>rfl
structure ZM (w1 wr:World) (i n:Nat) (ai:Option Addr) (ci t:Nat) (a:Option Addr) (c:Nat) (hv:Nat->Value):Prop where
 own:J5 wr 0 a (n+t) c (mcf i)
 old:J5 wr 0 ai n ci (mcf i)
 plc:(a=ai/\c=ci)\/∃ g,a=some ⟨g,0,none⟩/\w1.heap.size<g
 box:wr.rowIs w1.heap.size 152 3 hv
 tch:Touch (fun g=>∃ p,ai=some p/\p.block=g) w1 wr
 olt:∀ p,ai=some p->p.block<w1.heap.size
theorem ZM.below {w1 wr w2:World} {i n t c ci:Nat} {a ai:Option Addr} {hv:Nat->Value} (G:ZM w1 wr i n ai ci t a c hv) (hb:Below wr.heap.size wr w2):ZM w1 w2 i n ai ci t a c hv :=
 ⟨G.own.below hb,G.old.below hb,G.plc,G.box.of_block (hb.block _ G.box.lt),G.tch.trans (Touch.of_below hb),G.olt⟩
theorem J5.less {w:World} {base:Nat} {a:Option Addr} {n cap L:Nat} {F:Nat->Value} (h:J5 w base a n cap F) (hL:L<=n):J5 w base a L cap F:=by
 refine⟨zm hL h.le,?_⟩
 rcases h.place with ⟨e0,h0,h1⟩ | ⟨g,cur,ha,hbg,hg,hcap,hc⟩
 ·exact Or.inl ⟨e0,by omega,h1⟩
 ·exact Or.inr ⟨g,cur,ha,hbg,hg,hcap,fun i hi=>hc i (by omega)⟩
theorem jcv {w1 wr w2:World} {i n t c ci c':Nat} {a ai a':Option Addr} {hv:Nat->Value} {o:Obj} (G:ZM w1 wr i n ai ci t a c hv) (hown:J5 w2 0 a' (n+t+1) c' (YW (mcf i) (n+t) (mc i)))
  (hcase:(a'=a/\c'=c/\(wr.alloc o).grownBy w2 (a.map (·.block)))\/((∃ g,a'=some ⟨g,0,none⟩/\wr.heap.size+1<=g)/\(wr.alloc o).grownBy w2 none/\c<n+t+1)) :
  ZM w1 w2 i n ai ci (t+1) a' c' hv:=by
 have hown':J5 w2 0 a' (n+(t+1)) c' (mcf i):=hown.congr fun q hq=>by unfold YW mcf;split;rfl;rw[show q-(n+t)*8=q%8 by omega]
 have hsz:=G.tch.size;have hbx:=G.box.lt
 have oldw:J5 (wr.alloc o) 0 ai n ci (mcf i):=G.old.keep fun p hp=>Below.heap_alloc _ _ _ (by have:=G.olt p hp;omega)
 have boxw:(wr.alloc o).rowIs w1.heap.size 152 3 hv:=G.box.alloc o;have tchw:=G.tch.alloc o
 rcases hcase with ⟨rfl,rfl,hg⟩ | ⟨⟨g,rfl,hlt⟩,hg,-⟩
 ·rcases G.plc with ⟨rfl,rfl⟩ | ⟨g,rfl,hlt⟩
  ·refine⟨hown',hown'.less (by omega),.inl ⟨rfl,rfl⟩,boxw.of_block (hg.block _ (by simp;omega) (fun e=>?_)),tchw.grown hg (fun q hq=>?_),G.olt⟩
   ·cases h:a' with
    | none=>rw[h] at e;cases e
    | some p=>rw[h] at e;simp at e;have:=G.olt p h;omega
   ·cases h:a' with
    | none=>rw[h] at hq;cases hq
    | some p=>rw[h] at hq;simp at hq;exact .inl ⟨p,rfl,hq⟩
  ·refine⟨hown',oldw.keep (fun p hp=>hg.block _ (by have:=G.olt p hp;simp;omega) (fun e=>by have:=G.olt p hp;simp at e;omega)),.inr ⟨g,rfl,hlt⟩,boxw.of_block (hg.block _ (by simp;omega) (fun e=>by simp at e;omega)),
    tchw.grown hg (fun q hq=>.inr (by simp at hq;omega)),G.olt⟩
 ·refine⟨hown',oldw.keep (fun p hp=>hg.block _ (by have:=G.olt p hp;simp;omega) (fun e=>by cases e)),.inr ⟨g,rfl,by omega⟩,boxw.of_block (hg.block _ (by simp;omega) (fun e=>by cases e)),
   tchw.grown hg (fun q hq=>by cases hq),G.olt⟩
structure jae (ν:Nat->Nat) (w wr:World) (vb k:Nat) (A:Nat->Option Addr) (N C:Nat->Nat) (i:Nat) (LA:Nat->Option Addr) (LC:Nat->Nat):Prop where
 tch:Touch (fun g=>UA k A g\/g=vb) w wr
 arr:ZL ν wr vb k A N C (fun j=>if j<i then .slice (LA j) (N j+40) (LC j) else .slice none 0 0)
 own:∀ j,j<k->J5 wr 0 (A j) (N j) (C j) (mcf (ν j))
 lng:∀ j,j<i->J5 wr 0 (LA j) (N j+40) (LC j) (mcf (ν j))/\(LA j=A j\/∃ g,LA j=some ⟨g,0,none⟩/\w.heap.size<=g)
theorem jas {ν:Nat->Nat} {w w1 wr:World} {vb k i c:Nat} {A LA:Nat->Option Addr} {N C LC:Nat->Nat} {a:Option Addr} {hv:Nat->Value} (GO:jae ν w w1 vb k A N C i LA LC) (hi:i<k) (G:ZM w1 wr (ν i) (N i) (A i) (C i) 40 a c hv)
  (hS:¬UA k A vb) (hD:Part k A) (hvb:vb<w.heap.size) (hA:∀ j,j<k->∀ p,A j=some p->p.block<w.heap.size) :
  jae ν w (wr.setCell ⟨vb,i*3+1,none⟩ (.slice a (N i+40) c)) vb k A N C (i+1) (fun j=>if j=i then a else LA j) (fun j=>if j=i then c else LC j):=by
 have hsz:=GO.tch.size
 have hnv:∀ j,j<k->∀ p,A j=some p->p.block≠vb:=fun j hj p hp e=>hS ⟨j,hj,p,hp,e⟩
 refine⟨?_,?_,fun j hj=>?_,fun j hj=>?_⟩
 ·exact(GO.tch.trans (G.tch.weak fun q _ ⟨p,hp,e⟩=>Or.inl ⟨i,hi,p,hp,e⟩)).setCell (p:=⟨vb,i*3+1,none⟩) (Or.inl (Or.inr rfl)) _
 ·refine((GO.arr.keep (G.tch.block _ (by omega) (fun ⟨p,hp,e⟩=>hnv i hi p hp e))).UZ i _).congr fun j hj=>?_
  show(if j=i then _ else if j<i then _ else _)=(if j<i+1 then Value.slice (if j=i then a else LA j) _ (if j=i then c else LC j) else _);by_cases e:j=i
  ·subst e;rw[if_pos rfl,if_pos (by omega),if_pos rfl,if_pos rfl]
  ·rw[if_neg e,if_neg e,if_neg e];by_cases h:j<i
   ·rw[if_pos h,if_pos (by omega)]
   ·rw[if_neg h,if_neg (by omega)]
 ·have h1:J5 wr 0 (A j) (N j) (C j) (mcf (ν j)):=by
   by_cases e:j=i
   ·subst e;exact G.old
   ·exact(GO.own j hj).keep fun p hp=>G.tch.block _ (by have:=hA j hj p hp;omega) (fun ⟨q,hq,e'⟩=>hD j hj i hi e p q hp hq e'.symm)
  exact h1.keep fun p hp=>Below.heap_setCell _ _ _ _ (hnv j hj p hp)
 ·by_cases e:j=i
  ·subst e;rw[if_pos rfl,if_pos rfl];refine⟨G.own.keep fun p hp=>Below.heap_setCell _ _ _ _ ?_,?_⟩
   ·rcases G.plc with ⟨h,_⟩ | ⟨g,h,hlt⟩
    ·exact hnv j hi p (h▸hp)
    ·rw[h] at hp;cases hp;dsimp only;omega
   ·rcases G.plc with ⟨h,_⟩ | ⟨g,h,hlt⟩
    ·exact .inl h
    ·exact .inr ⟨g,h,by omega⟩
  ·rw[if_neg e,if_neg e];obtain⟨h1,h2⟩:=GO.lng j (by omega)
   have hne:∀ p,LA j=some p->p.block≠vb/\∀ q,A i=some q->q.block≠p.block:=by
    intro p hp
    rcases h2 with h | ⟨g,h,hlt⟩
    ·rw[h] at hp;exact⟨hnv j (by omega) p hp,fun q hq e'=>hD j (by omega) i hi e p q hp hq e'.symm⟩
    ·rw[h] at hp;cases hp
     exact⟨by dsimp only;omega,fun q hq=>by have:=hA i hi q hq;dsimp only;omega⟩
   refine⟨(h1.keep fun p hp=>G.tch.block _ (h1.blk hp).2.2 (fun ⟨q,hq,e'⟩=>(hne p hp).2 q hq e')).keep fun p hp=>Below.heap_setCell _ _ _ _ (hne p hp).1,h2⟩
theorem V9 (b vb k cap:Nat) (A:Nat->Option Addr) (N C:Nat->Nat) (f:Nat->Value) (ν:Nat->Nat) (w:World) (hk:k<=30000) (hν:∀ j,j<k->ν j<=30000) (hB:w.rowIs b 53 13 f) (hf:f 6=.slice (some ⟨vb,0,none⟩) k cap)
  (hA:ZL ν w vb k A N C (fun _=>.slice none 0 0)) (hO:∀ j,j<k->J5 w 0 (A j) (N j) (C j) (mcf (ν j))) (hN:∀ j,j<k->N j<=100000000) (hS:¬UA k A b/\¬UA k A vb) (hD:Part k A) (hbv:b≠vb) :
  Calls Tryz.prog 103 #[.pointer (some ⟨b,0,none⟩)] w fun e w'=>(∃ v,e=.returned v)/\∃ LA LC,jae ν w w' vb k A N C k LA LC:=by
 have HF:=qh hf;have HNU:=qh hν;have HB:=qh hB;have HA:=qh hA;have HO:=qh hO;have HS:=qh hS;have HD:=qh hD;have HN:=qh hN;have HV:=qh (And.intro hA.lt fun j hj p hp=>((hO j hj).blk (p:=p) hp).2.2);clear hB hA hO hS hD hN hf hν;go_enter Tryz.func103,Tryz.ntmps103;go_wp2_with fail
 go_loopw [2] (fun v wr=>∃ i:Nat,i<=k/\v=.int .i64 i/\∃ LA LC,jae ν w wr vb k A N C i LA LC) (fun v _=>k-(intOf v).toNat)
 case atStart=>exact⟨0,by omega,rfl,fun _=>none,fun _=>0,Touch.refl _ _,HA.o.congr (fun j _=>by rw[if_neg (by omega)]),HO.o,fun j hj=>by omega⟩
 case round =>
  obtain⟨w1,rfl⟩:∃ w1,w1=wr:=⟨_,rfl⟩;obtain⟨i,hik,rfl,LA,LC,hG⟩:=hrel;have KG:=qh hG;have KB:=qh (HB.o.of_block (hG.tch.block _ HB.o.lt (fun h=>h.elim HS.o.1 (fun h=>hbv h))));clear hG
  have b2:w1.cell? ⟨b,6,none⟩=some (.slice (some ⟨vb,0,none⟩) k cap):=by rw[<- HF.o];exact KB.o.cell (i:=6) (by omega)
  by_cases hi:i<k
  ·obtain⟨a0,a1,a2,-,hvb⟩:=KG.o.arr.cells hi;rw[if_neg (by omega)] at a1;obtain⟨n,hn⟩:∃ n,n=N i:=⟨_,rfl⟩;obtain⟨ai,ha⟩:∃ ai,ai=A i:=⟨_,rfl⟩;obtain⟨ci,hc⟩:∃ ci,ci=C i:=⟨_,rfl⟩;rw[<- ha,<- hn,<- hc] at a0
   have hnb:n<=100000000:=by rw[hn];exact HN.o i hi
   have EA:=qh ha;have EN:=qh hn;have EC:=qh hc
   have G0:=qh (show ZM w1 (w1.alloc (.cells #[.slice ai n ci,.slice none 0 0,.int .i64 ((ν i:Int)+1)] 152)) (ν i) n ai ci 0 ai ci (hcell ai n ci (.slice none 0 0) ((ν i:Int)+1)) from by
    have h1:=KG.o.own i hi;rw[<- ha,<- hn,<- hc] at h1;have h2:=h1.below (zk.alloc zj (.cells #[.slice ai n ci,.slice none 0 0,.int .i64 ((ν i:Int)+1)] 152))
    exact⟨h2,h2,.inl ⟨rfl,rfl⟩,World.rowIs_alloc w1 #[Value.slice ai n ci,Value.slice none 0 0,Value.int IntKind.i64 ((ν i:Int)+1)] 152 (hcell ai n ci (.slice none 0 0) ((ν i:Int)+1)) (fun q hq=>by
     match q,hq with
     | 0,_=>rfl
     | 1,_=>rfl
     | 2,_=>rfl),(Touch.refl _ _).alloc _,fun p hp=>(h1.blk hp).2.2⟩)
   clear ha hn hc;go_wp2_with fail
   go_loopw [4,5] (fun v u wr=>∃ t:Nat,t<=40/\u=.int .i64 t/\∃ a c,v=.slice a (n+t) c/\ZM w1 wr (ν i) n ai ci t a c (hcell ai n ci (.slice none 0 0) ((ν i:Int)+1))) (fun _ u _=>40-(intOf u).toNat)
   case atStart=>exact⟨0,by omega,rfl,ai,ci,rfl,G0.o⟩
   case round =>
    obtain⟨t,ht40,rfl,a,c,rfl,hI⟩:=hrel;have LI:=qh hI;have hc2:wr.cell? ⟨w1.heap.size,2,none⟩=some (.int .i64 ((ν i:Int)+1)):=hI.box.cell (i:=2) (by omega);have hlt:=hI.box.lt;clear hI;by_cases ht:t<40
    ·go_wp2_with fail
     with_reducible refine(V4 (ν i) wr (HNU.o i hi)).mono ?_
     rintro e w9 ⟨rfl,hb9⟩;have LI:=qh (LI.o.below hb9);have hc2:=(hb9.cell (p:=⟨w1.heap.size,2,none⟩) hlt).trans hc2;clear hb9
     go_wp2_with (first
      | (at_builtin;refine UB rfl _ _ rfl (by rfl) (LI.o.own.below (zk.alloc zj _)) (by omega) (Nat.zero_le _) (mm:=mc (ν i)) (by rfl) ?c1 (mc_one (ν i)) (by rfl) ?_))
     case c1=>exact fun q hq=>mc_cell w9 (ν i) hq
     intro a' c' w2 hown hcase;have NI:=qh (jcv LI.o hown hcase);clear hown hcase;go_wp2_with fail
     go_roundw
     case rel=>exact⟨t+1,by omega,by go_num,a',c',rfl,NI.o⟩
     case measure=>simp[intOf];omega
    ·obtain rfl:t=40:=by omega
     have b3:=(LI.o.tch.block _ (show b<w1.heap.size from KB.o.lt) (fun ⟨p,hp,e⟩=>HS.o.1 ⟨i,hi,p,EA.o▸hp,e⟩))
     have b4:wr.cell? ⟨b,6,none⟩=some (.slice (some ⟨vb,0,none⟩) k cap):=by rw[<- HF.o];exact(KB.o.of_block b3).cell (i:=6) (by omega)
     have v3:=(KG.o.arr.keep (LI.o.tch.block _ (show vb<w1.heap.size from hvb) (fun ⟨p,hp,e⟩=>HS.o.2 ⟨i,hi,p,EA.o▸hp,e⟩))).cells hi;obtain⟨v30,v31,v32,v33,v34⟩:=v3;rw[if_neg (by omega)] at v31;have HG:=qh (jas KG.o hi (by rw[<- EA.o,<- EN.o,<- EC.o];exact LI.o) HS.o.2 HD.o HV.o.1 HV.o.2);rw[<- EN.o] at HG;clear b2 b3 a0 a1 a2 v30 v32;go_wp2_with fail
     go_roundw
     case rel=>exact⟨i+1,by omega,by go_num,_,_,HG.o⟩
     case measure=>simp[intOf];omega
  ·obtain rfl:i=k:=by omega
   go_wp2_with fail
   (try simp only[Exit.inBlock,Exit.then])
   refine bodyPost_end (results_none rfl _ _ _) rfl ?_;exact⟨⟨_,rfl⟩,LA,LC,KG.o⟩
end Book
namespace Book
open Go.RowKit Go.Sort Go.FreshG Limb
def held (a:Option Addr) (n c k:Nat):List Value:=[.slice a n c,.slice none 0 0,.int .i64 ((k:Int)+1)]
theorem jbs {L news:List Value} {m d:Nat} (hm:m<=L.length) (hn:news.length=d):(L.take m++news++L.drop (m+d)).take (m+d)=L.take m++news:=by
 have h:(L.take m++news).length=m+d:=by simp[hn];omega
 rw[<- h];exact List.take_left
theorem ZN {G:World->World->Prop} {P:Program} {o:Oper} {a:Act} {w w':World} {Post:Value->World->Prop} {v u r:Value} (s x:Operand) (t:TypeId)
  (ho:o.op=.call { callee:=.builtin .append,args:=#[s,x],argTypes:=#[t,t] }) (hs:a.eval s=v) (hx:a.eval x=u)
  (hr:(Builtin.append_ #[t,t] o.type #[v,u]).run P w=.ok r w') (hP:Post r w'/\G w w'):Jt P G w Post ((execOp a.eval o).run P w):=by
 unfold execOp;simp only[ho,resolve,invoke,builtin,Sem.run_bind,Sem.run_pure,Result.andThen_ok,List.map_toArray,List.map_cons,List.map_nil,hs,hx,hr];exact hP
end Book
namespace Limb
open Go.RowKit Go.Sort Go.Fresh
theorem jfn:(Tryz.prog.info? 160).map (·.size)=some 1:=by kernel_rfl
theorem jbt {w:World} {base gu L L' i m:Nat} {up r:Nat->Int} {a:Option Addr} (h:Own 160 w base (some ⟨gu,0,none⟩) L L' up) (hi:i+m<=L) (hm:0<m) (hr:Rd w a m r) (ty dcap scap:Nat) :
  ∃ v w',(Builtin.copy_ #[24,24] ty #[.slice (some ⟨gu,i,none⟩) m dcap,.slice a m scap]).run Tryz.prog w=.ok v w'/\Own 160 w' base (some ⟨gu,0,none⟩) L L' (splice up i m r)/\w.grownBy w' (some gu):=by
 obtain⟨b,off,rfl,hc⟩:=hr.cells hm
 rcases h.place with h0 | ⟨g,cur,ha,hbg,hg,hcap,hcc⟩
 ·cases h0.1
 cases ha
 have hle:=h.le
 have hrun:=run_copy_row (P:=Tryz.prog) w 24 24 ty 160 gu i m dcap ⟨b,off,none⟩ m scap cur 160 (ucs r m) Tryz.underlying24 jfn hg (by rw[Qd];exact(Nat.min_self m).symm)
  (by
   intro j u hj;obtain⟨hj1,rfl⟩:=XX hj;rw[Addr.add_lit]
   exact hc j hj1) (by rw[Qd];omega) UR
 refine⟨_,_,hrun,⟨hle,Or.inr ⟨gu,_,rfl,hbg,setRow_heap w gu cur _ _ _ hg,?_,fun k hk=>?_⟩,fun k hk=>?_⟩,⟨rfl,rfl,rfl,by simp,fun k _ hk=>setRow_other w gu k _ (fun e=>hk (by simp[e]))⟩⟩
 ·simp only[List.size_toArray,List.length_append,List.length_take,List.length_drop,Array.length_toList,Qd];omega
 ·rw[List.getElem?_toArray,Qd]
  have h1:(cur.toList.take i).length=i:=by simp;omega
  have h2:(cur.toList.take i++ucs r m).length=i+m:=by rw[List.length_append,h1,Qd]
  by_cases e1:k<i
  ·rw[List.getElem?_append_left (by omega),List.getElem?_append_left (by omega),List.getElem?_take,if_pos e1,Array.getElem?_toList,hcc k hk];show some (Value.int .u32 (up k))=some (Value.int .u32 (splice up i m r k));rw[QL (Or.inl e1)]
  ·by_cases e2:k<i+m
   ·obtain⟨j,rfl⟩:∃ j,k=i+j:=⟨k-i,by omega⟩;rw[List.getElem?_append_left (by omega),List.getElem?_append_right (by omega),h1,Nat.add_sub_cancel_left,ZJ _ _ _ (by omega)];show some (Value.int .u32 (r j))=some (Value.int .u32 (splice up i m r (i+j)));rw[XR (by omega)]
   ·rw[List.getElem?_append_right (by omega),h2,List.getElem?_drop,show i+m+(k-(i+m))=k by omega,Array.getElem?_toList,hcc k hk];show some (Value.int .u32 (up k))=some (Value.int .u32 (splice up i m r k));rw[QL (Or.inr (by omega))]
 ·by_cases e:i<=k/\k<i+m
  ·obtain⟨j,rfl⟩:∃ j,k=i+j:=⟨k-i,by omega⟩;rw[XR (by omega)];exact hr.rng j (by omega)
  ·rw[QL (by omega)];exact h.rng k hk
theorem cf_div (args:Array Value) (w:World):(callFunc 257 args).run Tryz.prog w=.ok (.enter 257 args) w:=by kernel_rfl
theorem divFn (w:World) (bh bg bv gu i n cu cv:Nat) (q:Option Addr) (up vp:Nat->Int) (g:Int) (k:Nat) (c1:w.cell? ⟨bh,0,none⟩=some (.slice (some ⟨gu,i,none⟩) (n+1) cu)) (c2:w.cell? ⟨bg,0,none⟩=some (.int .u64 g))
  (c3:w.cell? ⟨bv,0,none⟩=some (.slice q n cv)) (c4:w.cell? ⟨gu,i+k,none⟩=some (.int .u32 (up (i+k)))) (hk:k<n+1) (hp:Rd w q n vp) (hn:n<=200000000) (hg:0<=g/\g<=999999999) (hu:0<=up (i+k)/\up (i+k)<=999999999) (r1:0<=part vp n k/\part vp n k<=999999999) :
  Calls Tryz.prog 257 #[.int .i64 k,.pointer (some ⟨bh,0,none⟩),.pointer (some ⟨bg,0,none⟩),.pointer (some ⟨bv,0,none⟩)] w fun e w'=>e=.returned (.int .i64 (up (i+k)-g*part vp n k))/\Below w.heap.size w w':=by
 have P:=qh (fun (w1:World) (h:∃ m,w1=w.drewN m)=>Kb q n cv vp k w1 (by obtain⟨m,rfl⟩:=h;exact hp.drewN m) (by omega) (by omega));have m1:g*part vp n k<=999999999*999999999:=Int.mul_le_mul hg.2 r1.2 r1.1 (by omega);have m2:0<=g*part vp n k:=Int.mul_nonneg hg.1 r1.1;have e1:=IntWalk.i64_in (up (i+k)) (by omega);have e2:=IntWalk.u64_in (part vp n k) (by omega);have e3:=IntWalk.u64_in (g*part vp n k) (by omega);have e4:=IntWalk.i64_in (g*part vp n k) (by omega);have e5:=IntWalk.i64_in (up (i+k)-g*part vp n k) (by omega)
 have x1:(k:Int)<((n+1:Nat):Int):=by omega
 have x2:(k:Int)<(n:Int)+1:=by omega
 generalize part vp n k=u at *
 generalize up (i+k)=t at *
 clear hp m1 m2 hu r1;go_enter Tryz.func257,Tryz.ntmps257;go_wp2_with fail
 go_quiet (first | with_reducible exact ZK (P.o _ ⟨_,rfl⟩));go_wp2;go_ret;exact⟨rfl,Qh zk _⟩
def XJ (up vp:Nat->Int) (j N:Nat) (g:Int) (k:Nat):Int:=up (j+k)-g*part vp N k
theorem Ua (up vp:Nat->Int) (j N:Nat) (g:Int):Jh (XJ up vp j N g) (N+1)=Qn up N j-Jh vp N*g:=by
 have e:XJ up vp j N g=fun k=>(fun k=>up (j+k)) k+part vp N k*(-g):=by
  funext k;unfold XJ;rw[Int.mul_neg,Int.mul_comm];show _=up (j+k)+_;omega
 rw[e,XQ,Xl,QA _ (by omega),Int.mul_neg];unfold Qn;omega
theorem Rd.at_own {w:World} {base gu L L' j m:Nat} {up:Nat->Int} (h:Own 160 w base (some ⟨gu,0,none⟩) L L' up) (hj:j+m<=L):Rd w (some ⟨gu,j,none⟩) m (fun k=>up (j+k)) :=
 ⟨fun _=>⟨gu,j,rfl,fun i hi=>h.cell (by omega)⟩,fun i hi=>h.rng _ (by omega)⟩
theorem jat {ob:Nat->Int} {m:Nat} (hd:Dig ob (m+1)) (ht:ob m≠0):1<=1000000000/(ob m+1)/\1000000000/(ob m+1)<=500000000/\Jh ob (m+1)*(1000000000/(ob m+1))<(pw (m+1):Int)/\(pw m:Int)<=Jh ob (m+1):=by
 have h:=hd m (by omega)
 have b:=JF (o:=ob) (n:=m) fun k hk=>hd k (by omega)
 have hp:(0:Int)<(pw m:Int):=by have:=QC m;omega
 have h1:1<=1000000000/(ob m+1):=(Int.le_ediv_iff_mul_le (by omega)).2 (by omega)
 have h2:1000000000/(ob m+1)<=500000000:=by
  have:1000000000/(ob m+1)<500000001:=Int.ediv_lt_of_lt_mul (by omega) (by omega);omega
 have h3:1000000000/(ob m+1)*(ob m+1)<=1000000000:=Int.ediv_mul_le _ (by omega)
 generalize 1000000000/(ob m+1)=s at *
 have e:Jh ob (m+1)=Jh ob m+ob m*(pw m:Int):=rfl;refine⟨h1,h2,?_,?_⟩
 ·have a1:Jh ob (m+1)<(ob m+1)*(pw m:Int):=by rw[e,Int.add_mul];omega
  have a2:Jh ob (m+1)*s<(ob m+1)*(pw m:Int)*s:=Int.mul_lt_mul_of_pos_right a1 (by omega)
  have a3:(ob m+1)*(pw m:Int)*s=s*(ob m+1)*(pw m:Int):=by rw[Int.mul_comm,<- Int.mul_assoc]
  have a4:s*(ob m+1)*(pw m:Int)<=1000000000*(pw m:Int):=Int.mul_le_mul_of_nonneg_right h3 (by omega);rw[JN,Int.natCast_mul];omega
 ·have a1:1*(pw m:Int)<=ob m*(pw m:Int):=Int.mul_le_mul_of_nonneg_right (by omega) (by omega);rw[e];omega
theorem jcw {p:Nat->Int} {m:Nat} {V:Int} (hd:Dig p (m+1+1)) (hs:Jh p (m+1+1)=V) (hlt:V<(pw (m+1):Int)) (hge:(pw m:Int)<=V):Jh p (m+1)=V/\0<p m:=by
 have b:=JF (o:=p) (n:=m+1) fun k hk=>hd k (by omega)
 have b2:=JF (o:=p) (n:=m) fun k hk=>hd k (by omega)
 have hp:(0:Int)<(pw (m+1):Int):=by have:=QC (m+1);omega
 have e:Jh p (m+1+1)=Jh p (m+1)+p (m+1)*(pw (m+1):Int):=rfl;have e2:Jh p (m+1)=Jh p m+p m*(pw m:Int):=rfl
 have h0:p (m+1)=0:=by
  have h:=hd (m+1) (by omega)
  rcases Int.lt_or_le 0 (p (m+1)) with h1 | h1
  ·have:1*(pw (m+1):Int)<=p (m+1)*(pw (m+1):Int):=Int.mul_le_mul_of_nonneg_right (by omega) (by omega);omega
  ·omega
 rw[h0,Int.zero_mul,Int.add_zero] at e;refine⟨by omega,?_⟩;have h:=hd m (by omega)
 rcases Int.lt_or_le 0 (p m) with h1 | h1
 ·exact h1
 ·have:p m=0:=by omega
  rw[this,Int.zero_mul] at e2;omega
structure Zh (w wr:World) (gu gq gv bv n L M cv:Nat) (up qp vp:Nat->Int):Prop where
 u:Own 160 wr w.heap.size (some ⟨gu,0,none⟩) L L up
 q:Own 160 wr w.heap.size (some ⟨gq,0,none⟩) M M qp
 v:Own 160 wr w.heap.size (some ⟨gv,0,none⟩) n cv vp
 vb:wr.rowIs bv 24 1 (fun _=>.slice (some ⟨gv,0,none⟩) n cv)
 bel:Below w.heap.size w wr
def jaf (w:World) (L N:Nat) (A V:Int) (gu gv bv:Nat) (up vp:Nat->Int) (wx:World):Prop :=
 Dig up L/\Jh up L=A/\Dig vp (N+1)/\Jh vp (N+1)=V/\Own 160 wx w.heap.size (some ⟨gu,0,none⟩) L L up/\Own 160 wx w.heap.size (some ⟨gv,0,none⟩) (N+1) (N+1) vp /\
  wx.rowIs bv 24 1 (fun _=>.slice (some ⟨gv,0,none⟩) N (N+1))/\(gu≠gv/\gu≠bv/\gv≠bv)/\w.heap.size<=bv/\Below w.heap.size w wx
theorem row_one (w:World) (v:Value) (t:TypeId):(w.alloc (.cells #[v] t)).rowIs w.heap.size t 1 (fun _=>v):=World.rowIs_alloc w #[v] t (fun _=>v) (fun i hi=>by
 match i,hi with
 | 0,_=>rfl)
theorem scaled_1 {w wa wb:World} {L N:Nat} {A V:Int} {gu gv:Nat} {up vp:Nat->Int} (du:Dig up L) (su:Jh up L=A) (dv:Dig vp (N+1)) (sv:Jh vp (N+1)=V) (ou:Own 160 wa w.heap.size (some ⟨gu,0,none⟩) L L up) (ov:Own 160 wb wa.heap.size (some ⟨gv,0,none⟩) (N+1) (N+1) vp)
  (hA1:Below w.heap.size w wa) (hbb:Below wa.heap.size wa wb):jaf w L N A V gu gv wb.heap.size up vp (wb.alloc (.cells #[.slice (some ⟨gv,0,none⟩) N (N+1)] 24)):=by
 have h1:=(ou.blk rfl).2;have h2:=(ov.blk rfl).2;dsimp only at h1 h2;have hB1:=hA1.trans (hbb.mono hA1.size);exact⟨du,su,dv,sv,(ou.below hbb).JK _,(ov.mono hA1.size).JK _,row_one wb _ _,⟨by omega,by have:=hbb.size;omega,by omega⟩,hB1.size,hB1.alloc hB1.size _⟩
theorem scaled_2 {w wa wb:World} {L N:Nat} {A V:Int} {gu gv:Nat} {up vp:Nat->Int} (du:Dig up L) (su:Jh up L=A) (dv:Dig vp (N+1)) (sv:Jh vp (N+1)=V) (ou:Own 160 wa w.heap.size (some ⟨gu,0,none⟩) L L up)
  (ov:Own 160 wb (wa.alloc (.cells #[.slice none 0 0] 24)).heap.size (some ⟨gv,0,none⟩) (N+1) (N+1) vp)
  (hA1:Below w.heap.size w wa) (hbb:Below (wa.alloc (.cells #[.slice none 0 0] 24)).heap.size (wa.alloc (.cells #[.slice none 0 0] 24)) wb) :
  jaf w L N A V gu gv wa.heap.size up vp (wb.setCell ⟨wa.heap.size,0,none⟩ (.slice (some ⟨gv,0,none⟩) N (N+1))):=by
 have h1:=(ou.blk rfl).2;have h2:=(ov.blk rfl).2;dsimp only at h1 h2;rw[World.size_alloc] at h2;have hB0:Below w.heap.size w (wa.alloc (.cells #[.slice none 0 0] 24)):=hA1.alloc hA1.size _;have hB1:=hB0.trans (hbb.mono hB0.size);have hs:=hA1.size
 refine⟨du,su,dv,sv,((ou.JK _).below hbb).keep (fun p hp=>Below.heap_setCell _ _ _ _ (by cases hp;dsimp only;omega)),(ov.mono (by simp;omega)).keep (fun p hp=>Below.heap_setCell _ _ _ _ (by cases hp;dsimp only;omega)),
  (((row_one wa _ _).of_block (hbb.block _ (by simp))).set 0 _).congr (fun i hi=>by rw[if_pos (by omega)]),⟨by omega,by omega,by omega⟩,hs,hB1.setCell hs _⟩
theorem scaled_3 {w w0 wa wb:World} {L N:Nat} {A V:Int} {gu gv:Nat} {up vp:Nat->Int} (hw0:w0=(w.alloc (.cells #[.slice none 0 0] 24)).drew) (du:Dig up L) (su:Jh up L=A) (dv:Dig vp (N+1)) (sv:Jh vp (N+1)=V)
  (ou:Own 160 wa w0.heap.size (some ⟨gu,0,none⟩) L L up) (ov:Own 160 wb wa.heap.size (some ⟨gv,0,none⟩) (N+1) (N+1) vp) (hba:Below w0.heap.size w0 wa) (hbb:Below wa.heap.size wa wb) :
  jaf w L N A V gu gv w.heap.size up vp (wb.setCell ⟨w.heap.size,0,none⟩ (.slice (some ⟨gv,0,none⟩) N (N+1))):=by
 have h1:=(ou.blk rfl).2;have h2:=(ov.blk rfl).2;dsimp only at h1 h2
 have hs0:w0.heap.size=w.heap.size+1:=by rw[hw0];show(w.alloc _).heap.size=_;simp
 have hB0:Below w.heap.size w w0:=by rw[hw0];exact(zk.alloc zj _).drew
 have hB1:=(hB0.trans (hba.mono hB0.size)).trans (hbb.mono (zm hB0.size hba.size));have hz:=hba.size
 have r0:w0.rowIs w.heap.size 24 1 (fun _=>.slice none 0 0):=by rw[hw0];exact(row_one w _ _)
 refine⟨du,su,dv,sv,((ou.mono (by omega)).below hbb).keep (fun p hp=>Below.heap_setCell _ _ _ _ (by cases hp;dsimp only;omega)),(ov.mono (by omega)).keep (fun p hp=>Below.heap_setCell _ _ _ _ (by cases hp;dsimp only;omega)),
  (((r0.of_block (hba.block _ (by omega))).of_block (hbb.block _ (by omega))).set 0 _).congr (fun i hi=>by rw[if_pos (by omega)]),⟨by omega,by omega,by omega⟩,zj,hB1.setCell zj _⟩
theorem YX (a:Option Addr) (n c:Nat) (o:Nat->Int) (by':Int) (w:World) (hx:Rd w a n o) (dx:Dig o n) (hn:n<=200000000) (hb:0<=by'/\by'<=999999999) (w':World) (h:Below w.heap.size w w') :
  Calls Tryz.prog 256 #[.slice a n c,.int .u32 by'] w' fun e w''=>∃ g p,e=.returned (.slice (some ⟨g,0,none⟩) (n+1) (n+1))/\Dig p (n+1)/\Jh p (n+1)=Jh o n*by'/\Own 160 w'' w'.heap.size (some ⟨g,0,none⟩) (n+1) (n+1) p/\Below w'.heap.size w' w''/\Below w.heap.size w w''/\w'.heap.size<=g/\g<w''.heap.size:=by
 refine(jbo a n c o by' w' (hx.below h) dx hn hb).mono ?_;rintro e w'' ⟨g,p,rfl,h1,h2,h3,h4⟩;exact⟨g,p,rfl,h1,h2,h3,h4,h.trans (h4.mono h.size),(h3.blk rfl).2.1,(h3.blk rfl).2.2⟩
theorem Zh.drewN {w wr:World} {gu gq gv bv n L M cv:Nat} {up qp vp:Nat->Int} (h:Zh w wr gu gq gv bv n L M cv up qp vp) (k:Nat):Zh w (wr.drewN k) gu gq gv bv n L M cv up qp vp:=by
 have hb:Below wr.heap.size wr (wr.drewN k):=Qh zk k;exact⟨h.u.below hb,h.q.below hb,h.v.below hb,h.vb.of_block (hb.block _ h.vb.lt),h.bel.trans (hb.mono h.bel.size)⟩
theorem Zh.YB {w wr:World} {gu gq gv bv n L M cv bg:Nat} {up qp vp:Nat->Int} (h:Zh w wr gu gq gv bv n L M cv up qp vp) (hne:gu≠bg/\gq≠bg/\gv≠bg/\bv≠bg) (hb:w.heap.size<=bg) (x:Value):Zh w (wr.setCell ⟨bg,0,none⟩ x) gu gq gv bv n L M cv up qp vp :=
 ⟨h.u.keep fun p hp=>Below.heap_setCell _ _ _ _ (by cases hp;exact hne.1),h.q.keep fun p hp=>Below.heap_setCell _ _ _ _ (by cases hp;exact hne.2.1),h.v.keep fun p hp=>Below.heap_setCell _ _ _ _ (by cases hp;exact hne.2.2.1),h.vb.setOther hne.2.2.2 _,h.bel.setCell hb _⟩
def boxN (w:World) (b:Nat):Nat:=match w.cell? ⟨b,0,none⟩ with | some (.int _ g)=>g.toNat | _=>0
theorem Ki {w:World} {b:Nat} {t:TypeId} {k:IntKind} {g:Int} (h:w.rowIs b t 1 (fun _=>.int k g)):boxN w b=g.toNat:=by
 unfold boxN;rw[h.cell (i:=0) (by omega)]
theorem jcx (a b:Option Addr) (la ca N n m cb L M:Nat) (oa ob:Nat->Int) (w:World) (ha:Rd w a la oa) (hb:Rd w b N ob) (da:Dig oa la) (db:Dig ob N) (hla:la<=100000000) (hN:N=n+1) (hn:n=m+1) (hL:L=la+1) (hM:M+N=L) (hNa:N<=la) (ht:ob n≠0) :
  Calls Tryz.prog 217 #[.slice a la ca,.slice b N cb] w fun e w'=>∃ gq gr qp rp,e=.returned (.tuple #[.slice (some ⟨gq,0,none⟩) M M,.slice (some ⟨gr,0,none⟩) N N])/\gq≠gr /\
   Dig qp M/\Jh qp M=Jh oa la/Jh ob N/\Dig rp N/\Jh rp N=Jh oa la%Jh ob N /\
   Own 160 w' w.heap.size (some ⟨gq,0,none⟩) M M qp/\Own 160 w' w.heap.size (some ⟨gr,0,none⟩) N N rp/\Below w.heap.size w w':=by
 obtain⟨sc,hsc⟩:∃ sc,sc=1000000000/(ob n+1):=⟨_,rfl⟩;have SP:=jat (ob:=ob) (m:=n) (by rw[<- hN];exact db) ht;rw[<- hsc,<- hN] at SP;obtain⟨p1,p2,p3,p4⟩:=SP;have HP:=qh (And.intro p3 p4);have htop:=db n (by omega);obtain⟨bb,bo,rfl,hc⟩:=hb.cells (by omega);have c1:w.cell? ⟨bb,bo+n,none⟩=some (.int .u32 (ob n)):=hc n (by omega)
 have t1:(1000000000:Int).tdiv (ob n+1)=sc:=by rw[hsc];exact Int.tdiv_eq_ediv_of_nonneg (by omega)
 have WA:=qh (fun (w':World) (h:Below w.heap.size w w')=>YX a la ca oa sc w ha da (by omega) (by omega) w' h);have WB:=qh (fun (w':World) (h:Below w.heap.size w w')=>YX (some ⟨bb,bo,none⟩) N cb ob sc w hb db (by omega) (by omega) w' h);rw[<- hL] at WA;have DA:=qh (And.intro da db);obtain⟨tp,htp⟩:∃ tp,tp=ob n:=⟨_,rfl⟩;rw[<- htp] at c1 t1 htop;have e1:=IntWalk.u32_in (tp+1) (by omega);have e2:=IntWalk.u32_in sc (by omega)
 have x1:¬(tp+1=0):=by omega
 have xn:(N:Int)-1=(n:Int):=by omega
 have xn2:=IntWalk.i64_in ((N:Int)-1) (by omega)
 have hnN:n<N:=by omega
 have HT:=qh htp;have HEQ:=qh (And.intro (And.intro hN hn) (And.intro hL hM));clear ha hb da db hc htop p3 p4 hsc ht htp hN hn hL;go_enter Tryz.func217,Tryz.ntmps217;go_wp2_with fail
 go_step3
 go_upto_region 3 with (fail)
 go_cut [8,9] (fun v8 v9 wx=>∃ gu gv bv up vp,v8=.slice (some ⟨gu,0,none⟩) L L/\v9=.pointer (some ⟨bv,0,none⟩)/\jaf w L N (Jh oa la*sc) (Jh ob N*sc) gu gv bv up vp wx)
 case first =>
  have xs1:(N:Int)<=(N:Int)+1:=by omega
  have xs2:(0:Int)<=(N:Int):=by omega
  have HBB:=qh (Below.refl w.heap.size w)
  go_region_held3 (fun w'=>Below w.heap.size w w')
   (repeat (first
    | (with_reducible assumption)
    | (with_reducible exact zk)
    | (with_reducible refine Below.setCell ?_ ?_ _)
    | (with_reducible refine Below.alloc ?_ ?_ _)
    | (with_reducible refine Below.drew ?_)
    | (simp only[World.size_alloc,World.size_drew,World.size_setCell];omega) | omega))
   (first
    | (go_at_call 256;refine(WA.o _ (by first | with_reducible assumption | exact Below.drew zk | exact(by with_reducible assumption:Below _ _ _).alloc (by with_reducible assumption) _ | exact(Below.drew zk).alloc zj _)).mono ?_;rintro e wa ⟨gu,up,rfl,du,su,ou,hba,hA1,ga1,ga2⟩;have hsa:=hA1.size;obtain⟨hca,hfa⟩:=U7 hba;have hza:=hba.size;(try simp only[World.size_alloc,World.size_drew] at hza hca hfa);(try rw[Nat.add_one_le_iff] at hza))
    | (go_at_call 256;refine(WB.o _ (by first | with_reducible assumption | exact Below.drew zk | exact(by with_reducible assumption:Below _ _ _).alloc (by with_reducible assumption) _ | exact(Below.drew zk).alloc zj _)).mono ?_;rintro e wb ⟨gv,vp,rfl,dv,sv,ov,hbb,hB1,gb1,gb2⟩;have hsb:=hB1.size;obtain⟨hcb,hfb⟩:=U7 hbb;have hzb:=hbb.size;(try simp only[World.size_alloc,World.size_drew] at hzb hcb hfb);(try rw[Nat.add_one_le_iff] at hzb)))
  ·go_wp2_with fail
   go_meet
   case rel=>exact⟨gu,gv,_,up,vp,rfl,rfl,scaled_1 du su dv sv ou ov hA1 hbb⟩
  ·go_wp2_with fail
   go_meet
   case rel=>exact⟨gu,gv,_,up,vp,rfl,rfl,scaled_2 du su dv sv ou ov hA1 hbb⟩
  ·go_wp2_with fail
   go_meet
   case rel=>exact⟨gu,gv,_,up,vp,rfl,rfl,scaled_3 rfl du su dv sv ou ov hba hbb⟩
 case rest =>
  obtain⟨gu,gv,bv,up,vp,rfl,rfl,hsc⟩:=hcut;obtain⟨w1,rfl⟩:∃ w1,w1=wc:=⟨_,rfl⟩;obtain⟨V,hV⟩:∃ V,V=Jh ob N*sc:=⟨_,rfl⟩;obtain⟨X,hX⟩:∃ X,X=Jh oa la*sc:=⟨_,rfl⟩;rw[<- hV,<- hX] at hsc;obtain⟨du,su,dv,sv,ou,ov,rv,hdis,hbv,hbel⟩:=hsc;have HSC:=qh (And.intro (And.intro du su) (And.intro ou ov));have HD:=qh hdis;have hbe:=HEQ.o.1.1;have hLe:=HEQ.o.2.1
  have hVlt:V<(pw N:Int):=by rw[hV];exact HP.o.1
  have hVge:(pw n:Int)<=V:=by
   have h1:=HP.o.2;have h2:Jh ob N*1<=Jh ob N*sc:=Int.mul_le_mul_of_nonneg_left p1 (by have:=(JF DA.o.2).1;omega);rw[hV];omega
  have hpn:(0:Int)<(pw n:Int):=by have:=QC n;omega
  have hV0:0<V:=by omega
  have HT2:=jcw (p:=vp) (m:=n) (V:=V) (by rw[<- hbe];exact dv) (by rw[<- hbe];exact sv) (by rw[<- hbe];exact hVlt) hVge;rw[<- hbe] at HT2;have HVT:=qh HT2;have HVV:=qh (And.intro (And.intro hV hX) (And.intro hVlt (And.intro hVge hV0)))
  have hX0:X<V*(pw M:Int):=by
   have b:=JF DA.o.1;have e1:Jh oa la*sc<(pw la:Int)*sc:=Int.mul_lt_mul_of_pos_right b.2 (by omega)
   have e2:(pw la:Int)*sc<=V*(pw M:Int):=by
    have h3:(pw la:Int)=(pw n:Int)*(pw M:Int):=by rw[<- Int.natCast_mul,<- Yz];congr 1;congr 1;have:=HEQ.o;omega
    rw[h3,hV,Int.mul_assoc,Int.mul_assoc];have h4:=HP.o.2;have h5:(pw n:Int)*((pw M:Int)*sc)<=Jh ob N*((pw M:Int)*sc):=Int.mul_le_mul_of_nonneg_right h4 (Int.mul_nonneg (by omega) (by omega));rwa [Int.mul_comm (pw M:Int) sc] at h5 ⊢
   rw[hX];omega
  have hmk:=run_make_row' (P:=Tryz.prog) 24 160 (.int .u32 0) 4 Tryz.underlying24 Qt rfl .i64 .i64 M (by omega) (by omega)
  have xl:(L:Int)-(N:Int)=(M:Int):=by omega
  have xl2:=IntWalk.i64_in ((L:Int)-(N:Int)) (by omega);have xw:=IntWalk.i64_in (M:Int) (by omega);have xM1:=IntWalk.i64_in ((M:Int)-1) (by omega)
  have xm0:(0:Int)<(M:Int):=by omega
  have xm1:(0:Int)<=(M:Int):=by omega
  have xm2:max (0:Int) (M:Int)=(M:Int):=by omega
  have hdv:Dig vp N:=fun k hk=>dv k (by omega)
  have W0:=qh (show Zh w (w1.alloc (.cells (madeCells #[Value.int .u32 0] M) 160)) gu w1.heap.size gv bv N L M (N+1) up (fun _=>0) vp from
   ⟨ou.JK _,Own.QJ (World.rowIs_made w1 (.int .u32 0) M 160) hbel.size (fun i hi=>by omega),(ov.less (by omega)).JK _,rv.alloc _,hbel.alloc hbel.size _⟩)
  have D0:=qh (show DivI X V N L M M up (fun _=>0) from⟨du,fun k _=>⟨by omega,by omega⟩,fun _ _=>rfl,by rw[Nat.sub_self,Jh,su];simp,by rw[su];exact hX0⟩);have HDIS:=qh (show(gu≠gv/\gu≠bv/\gv≠bv)/\(gu<w1.heap.size/\gv<w1.heap.size/\bv<w1.heap.size) from⟨hdis,(ou.blk rfl).2.2,(ov.blk rfl).2.2,rv.lt⟩);have HDV:=qh hdv;clear du su dv sv ou ov rv hdis hbv hbel hbe hLe hVlt hVge hpn hV0 HT2 hX0 hdv hV hX;go_wp2_with fail
  go_step3;go_wp2_with fail
  go_loopw [10] (fun iv wr=>∃ i:Nat,i<=M/\iv=.int .i64 ((i:Int)-1)/\∃ up qp,DivI X V N L M i up qp/\Zh w wr gu w1.heap.size gv bv N L M (N+1) up qp vp) (fun iv _=>(1+intOf iv).toNat)
  case atStart=>exact⟨M,zj,rfl,up,_,D0.o,W0.o⟩
  case round =>
   obtain⟨wo,rfl⟩:∃ wo,wo=wr:=⟨_,rfl⟩;obtain⟨i,hi,rfl,up2,qp2,hD,hW⟩:=hrel;have KD:=qh hD;have KW:=qh hW;clear hD hW hmk;by_cases hi0:i=0
   ·subst hi0;rw[show(((0:Nat):Int)-1) = -1 from rfl];have hlow:=sum_low (o:=up2) (n:=N) (L:=L) KD.o.udig (by omega) (by have:=KD.o.lt;rw[Qb] at this;have:=HVV.o.2.1;omega);have hb:=KD.o.bal;have hlt:=KD.o.lt;rw[Qb,show(fun k=>qp2 (0+k))=qp2 from by funext k;rw[Nat.zero_add],Nat.sub_zero] at hb;rw[Qb] at hlt;have hu0:=(JF KD.o.udig).1;have hE:=div_end (A:=Jh oa la) (Bv:=Jh ob N) (sc:=sc) (Q:=Jh qp2 M) (R:=Jh up2 L) (by omega) (by rw[<- HVV.o.1.2,<- HVV.o.1.1];rw[hb];simp) hu0 (by rw[<- HVV.o.1.1];simpa using hlt);have SH:=qh (VY (some ⟨gu,0,none⟩) N L up2 sc wo (KW.o.u.less (by omega)).rd (fun k hk=>KD.o.udig k (by omega)) (by omega) (by omega) (by omega));rw[hlow] at SH;have HE:=qh hE
    have xs1:(N:Int)<=(L:Int):=by omega
    have xs2:(0:Int)<=(N:Int):=by omega
    clear hlow hb hlt hu0 hE;go_wp2_with fail
    refine SH.o.mono ?_;rintro e w2 ⟨rp,rfl,dr,sr,orr,hb2⟩;have HRR:=qh (And.intro (And.intro dr sr) (And.intro orr hb2));clear dr sr orr hb2 SH;go_wp2_with fail
    rw[Exit.noGoto_ret];go_ret2;exact⟨w1.heap.size,wo.heap.size,qp2,rp,rfl,by have:=(KW.o.q.blk rfl).2.2;dsimp only at this;omega,KD.o.qdig,HE.o.1,HRR.o.1.1,HRR.o.1.2.trans HE.o.2,KW.o.q.below HRR.o.2.2,HRR.o.2.1.mono KW.o.bel.size,KW.o.bel.trans (HRR.o.2.2.mono KW.o.bel.size)⟩
   ·obtain⟨j,rfl⟩:∃ j,i=j+1:=⟨i-1,by omega⟩;rw[show(((j+1:Nat):Int)-1)=(j:Int) by omega];have hH:=KD.o.head (by omega) (by omega) HVV.o.2.1 HVV.o.2.2.2;have HH:=qh hH;have hLe:=HEQ.o.2.1;have xj1:=IntWalk.i64_in ((j:Int)+(N:Int)) (by omega);have xj2:=IntWalk.i64_in ((j:Int)+(N:Int)+1) (by omega);have xj6:=IntWalk.i64_in ((j:Int)-1) (by omega)
    have xj3:(j:Int)<=(j:Int)+(N:Int)+1:=by omega
    have xj4:(j:Int)+(N:Int)+1<=(L:Int):=by omega
    have xj5:(0:Int)<=(j:Int):=by omega
    have xlen:j+N+1-j=N+1:=by omega
    clear hH hLe
    go_upto_region 9 with (fail)
    obtain⟨Wh,hWh⟩:∃ Wh,Wh=wo.alloc (.cells #[.slice (some ⟨gu,j,none⟩) (N+1) (L-j)] 24):=⟨_,rfl⟩;have LW:=qh (show Zh w Wh gu w1.heap.size gv bv N L M (N+1) up2 qp2 vp by rw[hWh];exact⟨KW.o.u.JK _,KW.o.q.JK _,KW.o.v.JK _,KW.o.vb.alloc _,KW.o.bel.alloc KW.o.bel.size _⟩);have LH:=qh (show Wh.rowIs wo.heap.size 24 1 (fun _=>.slice (some ⟨gu,j,none⟩) (N+1) (L-j)) by rw[hWh];exact row_one wo _ _);have HSZ:=qh (show gu<wo.heap.size/\w1.heap.size<wo.heap.size/\gv<wo.heap.size/\bv<wo.heap.size/\Wh.heap.size=wo.heap.size+1 from⟨(KW.o.u.blk rfl).2.2,(KW.o.q.blk rfl).2.2,(KW.o.v.blk rfl).2.2,KW.o.vb.lt,by rw[hWh];simp⟩);rw[show wo.alloc (.cells #[.slice (some ⟨gu,j,none⟩) (N+1) (L-j)] 24)=Wh from hWh.symm];clear hWh;have hnn:=HEQ.o.1.1;have hb0:Wh.cell? ⟨wo.heap.size,0,none⟩=some (.slice (some ⟨gu,j,none⟩) (N+1) (L-j)):=LH.o.cell (i:=0) (by omega);have hu1:Wh.cell? ⟨gu,j+N,none⟩=some (.int .u32 (up2 (j+N))):=LW.o.u.cell (by omega);have hu2:Wh.cell? ⟨gu,j+n,none⟩=some (.int .u32 (up2 (j+n))):=LW.o.u.cell (by omega);have hv0:Wh.cell? ⟨bv,0,none⟩=some (.slice (some ⟨gv,0,none⟩) N (N+1)):=LW.o.vb.cell (i:=0) (by omega);have hv1:Wh.cell? ⟨gv,n,none⟩=some (.int .u32 (vp n)):=LW.o.v.cell (by omega);have d1:=KD.o.udig (j+N) (by omega);have d2:=KD.o.udig (j+n) (by omega);have d3:=HDV.o n (by omega);have d4:=HVT.o.2;obtain⟨two,htwo⟩:∃ two,two=up2 (j+N)*1000000000+up2 (j+n):=⟨_,rfl⟩;have y1:=IntWalk.u64_in (up2 (j+N)) (by omega);have y2:=IntWalk.u64_in (up2 (j+n)) (by omega)
    have y3:=IntWalk.u64_in (up2 (j+N)*1000000000) (by omega);have y4:=IntWalk.u64_in (up2 (j+N)*1000000000+up2 (j+n)) (by omega);have y5:=IntWalk.u64_in (vp n) (by omega);have y6:two.tdiv (vp n)=two/vp n:=Int.tdiv_eq_ediv_of_nonneg (by omega)
    have y7:¬vp n=0:=by omega
    have y8:0<=two/vp n/\two/vp n<=two:=⟨Int.ediv_nonneg (by omega) (by omega),Int.ediv_le_self _ (by omega)⟩;have y9:=IntWalk.u64_in (two/vp n) (by omega)
    have z1:(N:Int)<((N+1:Nat):Int):=by omega
    have z2:(n:Int)<((N+1:Nat):Int):=by omega
    have z3:(N:Int)<(N:Int)+1:=by omega
    have z4:(n:Int)<(N:Int)+1:=by omega
    have z5:n<N+1:=by omega
    have HTWO:=qh htwo
    have htb:0<=two/\two<=999999999999999999:=by omega
    clear hnn;go_wp2_with fail
    go_quiet (fail);obtain⟨Wd,hWd⟩:∃ Wd,Wd=Wh.drewN nq:=⟨_,rfl⟩
    have cw:∀ p,Wd.cell? p=Wh.cell? p:=by rw[hWd];intro p;rfl
    have LD:=qh (show Zh w Wd gu w1.heap.size gv bv N L M (N+1) up2 qp2 vp from
     have hbD:Below Wh.heap.size Wh Wd:=by rw[hWd];exact Qh zk nq
     ⟨LW.o.u.below hbD,LW.o.q.below hbD,LW.o.v.below hbD,LW.o.vb.of_block (hbD.block _ LW.o.vb.lt),LW.o.bel.trans (hbD.mono LW.o.bel.size)⟩)
    have LHD:=qh (show Wd.rowIs wo.heap.size 24 1 (fun _=>.slice (some ⟨gu,j,none⟩) (N+1) (L-j)) by rw[hWd];exact LH.o);have HSD:=qh (show Wd.heap.size=wo.heap.size+1 by rw[hWd];exact HSZ.o.2.2.2.2);rw[<- hWd,<- HTWO.o];have hb0:=(cw _).trans hb0;have hv0:=(cw _).trans hv0;have hv1:=(cw _).trans hv1;clear htwo y1 y2 y3 y4 hu1 hu2 hWd cw LW LH
    go_upto_region 11 with (fail)
    obtain⟨g0,hg0⟩:∃ g0,g0=(if 999999999<two/vp n then 999999999 else two/vp n):=⟨_,rfl⟩;rw[<- hg0]
    have hgm:g0=min (two/vp n) 999999999:=by rw[hg0];split <;> omega
    obtain⟨bg,hbg⟩:∃ bg,bg=Wd.heap.size:=⟨_,rfl⟩;obtain⟨Wg,hWg⟩:∃ Wg,Wg=Wd.alloc (.cells #[.int .u64 g0] 229):=⟨_,rfl⟩;have MW:=qh (show Zh w Wg gu w1.heap.size gv bv N L M (N+1) up2 qp2 vp by rw[hWg];exact⟨LD.o.u.JK _,LD.o.q.JK _,LD.o.v.JK _,LD.o.vb.alloc _,LD.o.bel.alloc LD.o.bel.size _⟩);have MH:=qh (show Wg.rowIs wo.heap.size 24 1 (fun _=>.slice (some ⟨gu,j,none⟩) (N+1) (L-j)) by rw[hWg];exact LHD.o.alloc _);have MG:=qh (show Wg.rowIs bg 229 1 (fun _=>.int .u64 g0) by rw[hWg,hbg];exact row_one Wd _ _);have hbg2:bg=wo.heap.size+1:=hbg.trans HSD.o;rw[show Wd.alloc (.cells #[.int .u64 g0] 229)=Wg from hWg.symm,<- hbg];clear hWg hbg LD LHD hb0 hv0 hv1;have hnn:=HEQ.o.1
    have hq0:Qn up2 N j/V<=g0:=by
     have hd:=HH.o;rw[hgm];have tt:=(YO (f:=fun k=>up2 (j+k)) (m:=n) (fun k hk=>KD.o.udig (j+k) (by omega))).1;have tv:=(YO (f:=vp) (m:=m) (fun k hk=>HDV.o k (by omega))).2;rw[<- hnn.1,<- HTWO.o] at tt;rw[<- hnn.2,<- hnn.1,HVT.o.1] at tv;have hpm:0<=vp m*(pw m:Int):=Int.mul_nonneg (HDV.o m (by omega)).1 (by omega)
     have hpn:(0:Int)<(pw n:Int):=by have:=QC n;omega
     refine guess_ge (B1:=(pw n:Int)) d4 hpn ?_ hd.1 (by simpa[Qn,hnn.1] using tt) hd.2.1 HVV.o.2.2.2;rw[Int.add_mul] at tv
     have e:vp n*(pw n:Int)=vp n*1000000000*(pw m:Int):=by rw[hnn.2,JN,Int.natCast_mul,Int.mul_comm (pw m:Int),<- Int.mul_assoc];rfl
     omega
    have hgv:g0*vp n<=two:=by
     have h1:g0<=two/vp n:=by omega
     exact(Int.le_ediv_iff_mul_le d4).1 h1
    have hgb:0<=g0/\g0<=999999999:=by omega
    have HG0:=qh (And.intro (And.intro hgb hq0) hgv);have hgn:0<=g0*vp n:=Int.mul_nonneg hgb.1 (by omega);have r0:Wg.cell? ⟨bg,0,none⟩=some (.int .u64 g0):=MG.o.cell (i:=0) (by omega);have r1:Wg.cell? ⟨bv,0,none⟩=some (.slice (some ⟨gv,0,none⟩) N (N+1)):=MW.o.vb.cell (i:=0) (by omega);have r2:Wg.cell? ⟨gv,n,none⟩=some (.int .u32 (vp n)):=MW.o.v.cell (by omega);have hnN:=hnN;have y10:=IntWalk.u64_in (g0*vp n) (by omega);have y11:=IntWalk.u64_in (two-g0*vp n) (by omega);have HB2:=qh hbg2;clear hgm hq0 hgv hgb hgn hg0 hnn hbg2;go_wp2_with fail
    go_quiet (fail);obtain⟨Wv,hWv⟩:∃ Wv,Wv=Wg.drewN nq:=⟨_,rfl⟩
    have hbD:Below Wg.heap.size Wg Wv:=by rw[hWv];exact Qh zk nq
    have NW:=qh (show Zh w Wv gu w1.heap.size gv bv N L M (N+1) up2 qp2 vp from⟨MW.o.u.below hbD,MW.o.q.below hbD,MW.o.v.below hbD,MW.o.vb.of_block (hbD.block _ MW.o.vb.lt),MW.o.bel.trans (hbD.mono MW.o.bel.size)⟩);have NH:=qh (MH.o.of_block (hbD.block _ MH.o.lt));have NG:=qh (MG.o.of_block (hbD.block _ MG.o.lt));rw[<- hWv];clear hWv hbD r0 r1 r2 MW MH MG y10 y11;go_wp2_with fail
    go_loopw [14] (fun ov wx=>∃ g:Int,((0<=g/\g<=999999999)/\Qn up2 N j/V<=g)/\g*vp n<=two/\ov=.int .u64 (two-g*vp n)/\Zh w wx gu w1.heap.size gv bv N L M (N+1) up2 qp2 vp /\
     wx.rowIs wo.heap.size 24 1 (fun _=>.slice (some ⟨gu,j,none⟩) (N+1) (L-j))/\wx.rowIs bg 229 1 (fun _=>.int .u64 g)) (fun ov _=>(1000000000-intOf ov).toNat)
    case atStart=>exact⟨g0,HG0.o.1,HG0.o.2,rfl,NW.o,NH.o,NG.o⟩
    case round =>
     obtain⟨g,hg,hgt,rfl,hW,hH,hG⟩:=hrel;have OW:=qh hW;have OH:=qh hH;have OG:=qh hG;have OB:=qh hg;have hv1:=HDV.o n (by have:=HEQ.o.1;omega);have hgn:0<=g*vp n:=Int.mul_nonneg hg.1.1 hv1.1;obtain⟨ov,hov⟩:∃ ov,ov=two-g*vp n:=⟨_,rfl⟩
     have hob:0<=ov/\ov<=999999999999999999:=by omega
     have HOV:=qh hov;rw[<- hov];have hv2:=HDV.o m (by have:=HEQ.o.1;omega);have hu3:=KD.o.udig (j+m) (by have:=HEQ.o;omega);have hgm:0<=g*vp m/\g*vp m<=999999999*999999999:=⟨Int.mul_nonneg hg.1.1 hv2.1,Int.mul_le_mul hg.1.2 (by omega) hv2.1 (by omega)⟩;obtain⟨gm,hgm2⟩:∃ gm,gm=g*vp m:=⟨_,rfl⟩;rw[<- hgm2] at hgm;have HGM:=qh hgm2;have r0:wr.cell? ⟨bg,0,none⟩=some (.int .u64 g):=hG.cell (i:=0) (by omega);have r1:wr.cell? ⟨bv,0,none⟩=some (.slice (some ⟨gv,0,none⟩) N (N+1)):=hW.vb.cell (i:=0) (by omega);have r2:wr.cell? ⟨wo.heap.size,0,none⟩=some (.slice (some ⟨gu,j,none⟩) (N+1) (L-j)):=hH.cell (i:=0) (by omega);have r3:wr.cell? ⟨gv,n,none⟩=some (.int .u32 (vp n)):=hW.v.cell (by have:=HEQ.o.1;omega);have r4:wr.cell? ⟨gv,m,none⟩=some (.int .u32 (vp m)):=hW.v.cell (by have:=HEQ.o.1;omega);have r5:wr.cell? ⟨gu,j+m,none⟩=some (.int .u32 (up2 (j+m))):=hW.u.cell (by have:=HEQ.o;omega);have fz:=hG.frozen
     have ne1:¬bv=bg:=by have:=HSZ.o;have:=HB2.o;omega
     have ne2:¬gv=bg:=by have:=HSZ.o;have:=HB2.o;omega
     have ne3:¬bg=bv:=fun h=>ne1 h.symm
     have ne4:¬bg=gv:=fun h=>ne2 h.symm
     have xm:(N:Int)-2=(m:Int):=by have:=HEQ.o.1;omega
     have xm3:=IntWalk.i64_in ((N:Int)-2) (by omega)
     have xm4:(m:Int)<(N:Int):=by have:=HEQ.o.1;omega
     have xm5:(m:Int)<(N:Int)+1:=by omega
     have xm6:m<N:=by omega
     have w1':=IntWalk.u64_in (vp m) (by omega);have w2':=IntWalk.u64_in (vp n) (by omega);have w3':=IntWalk.u64_in gm (by omega);have w4':=IntWalk.u64_in (up2 (j+m)) (by omega);have w5':=IntWalk.u64_in g (by omega);clear hW hH hG hg hgt hgn hv2 hu3 hov hgm2;by_cases hlt:ov<1000000000
     ·have w6':=IntWalk.u64_in (ov*1000000000) (by omega);have w7':=IntWalk.u64_in (ov*1000000000+up2 (j+m)) (by have:=KD.o.udig (j+m) (by have:=HEQ.o;omega);omega);have egm:g*vp m=gm:=HGM.o.symm;by_cases hgr:gm>ov*1000000000+up2 (j+m)
      ·have w8':=IntWalk.u64_in (g-1) (by have:=OB.o;have:g≠0:=(fun h=>by rw[HGM.o,h,Int.zero_mul] at hgr;have:=KD.o.udig (j+m) (by have:=HEQ.o;omega);omega);omega);have w9':=IntWalk.u64_in (ov+vp n) (by omega);have hnn:=HEQ.o.1
       have HGD:=qh (show Qn up2 N j/V<=g-1 from by
        have tt:=je0 (f:=fun k=>up2 (j+k)) (m:=m) (fun k hk=>KD.o.udig (j+k) (by have:=HEQ.o;omega));have tv:=(YO (f:=vp) (m:=m) (fun k hk=>HDV.o k (by omega))).2
        have hpm:(0:Int)<(pw m:Int):=by have:=QC m;omega
        rw[<- hnn.2,<- hnn.1,HVT.o.1] at tv;refine jcf (v1:=vp n) (v2:=vp m) (two:=two) (h2:=up2 (j+m)) hpm tv ?_ OB.o.1.1 (by rw[<- HOV.o,<- HGM.o];omega) OB.o.2 HVV.o.2.2.2
        have e:two=up2 (j+(m+1+1))*1000000000+up2 (j+(m+1)):=by rw[HTWO.o,hnn.1,hnn.2]
        rw[e]
        simpa[Qn,hnn.1,hnn.2] using tt)
       have HG1:=qh (show 0<=g-1/\g-1<=999999999/\(g-1)*vp n<=two/\ov+vp n=two-(g-1)*vp n from by
        have h1:=OB.o;have h2:g≠0:=(fun h=>by rw[HGM.o,h,Int.zero_mul] at hgr;have:=KD.o.udig (j+m) (by have:=HEQ.o;omega);omega)
        have h3:(g-1)*vp n=g*vp n-vp n:=by rw[Int.sub_mul,Int.one_mul]
        have h4:=HOV.o
        omega)
       have HNE:=qh (show(gu≠bg/\w1.heap.size≠bg/\gv≠bg/\bv≠bg)/\w.heap.size<=bg/\wo.heap.size≠bg by have:=HSZ.o;have:=HB2.o;have:=KW.o.bel.size;omega);clear hnn;go_wp2_with fail
       go_quiet (fail);go_wp2_with fail
       go_roundw
       case rel=>exact⟨g-1,⟨⟨HG1.o.1,HG1.o.2.1⟩,HGD.o⟩,HG1.o.2.2.1,by rw[HG1.o.2.2.2],(OW.o.drewN nq).YB HNE.o.1 HNE.o.2.1 _,World.rowIs.setOther (w:=wr.drewN nq) OH.o HNE.o.2.2 _,(World.rowIs.set (w:=wr.drewN nq) OG.o 0 _).congr (fun i hi=>by rw[if_pos (by omega)])⟩
       case measure=>simp[intOf];omega
      ·go_wp2_with fail
       go_quiet (fail);obtain⟨wy,hwy⟩:∃ wy,wy=wr.drewN nq:=⟨_,rfl⟩;rw[<- hwy]
       have hbD:Below wr.heap.size wr wy:=by rw[hwy];exact Qh zk nq
       have PW:=qh (show Zh w wy gu w1.heap.size gv bv N L M (N+1) up2 qp2 vp from⟨OW.o.u.below hbD,OW.o.q.below hbD,OW.o.v.below hbD,OW.o.vb.of_block (hbD.block _ OW.o.vb.lt),OW.o.bel.trans (hbD.mono OW.o.bel.size)⟩);have PH:=qh (OH.o.of_block (hbD.block _ OH.o.lt));have PG:=qh (OG.o.of_block (hbD.block _ OG.o.lt));have r0:wy.cell? ⟨bg,0,none⟩=some (.int .u64 g):=PG.o.cell (i:=0) (by omega);clear hwy hbD r1 r2 r3 r4 r5 fz w1' w2' w3' w4' w5' OW OH OG;by_cases hz:g=0
       ·have KS:=qh (KD.o.skip (by omega) (by omega) HVV.o.2.1 HVV.o.2.2.2 (by have:=OB.o.2;omega));subst hz;go_wp2_with fail
        go_roundw
        case rel=>exact⟨j,by omega,rfl,up2,qp2,KS.o,PW.o⟩
        case measure=>simp[intOf];omega
       ·have hgz:(g==0)=false:=by simpa using hz
        go_wp2_with fail
        clear r0 hgz
        go_loopw [15] (fun lv wx=>(∃ v:Value,lv=v)/\∃ g:Int,((0<=g/\g<=999999999)/\Qn up2 N j/V<=g)/\Zh w wx gu w1.heap.size gv bv N L M (N+1) up2 qp2 vp /\
         wx.rowIs wo.heap.size 24 1 (fun _=>.slice (some ⟨gu,j,none⟩) (N+1) (L-j))/\wx.rowIs bg 229 1 (fun _=>.int .u64 g)) (fun _ wx=>boxN wx bg)
        case atStart=>exact⟨⟨_,rfl⟩,g,OB.o,PW.o,PH.o,PG.o⟩
        case round =>
         obtain⟨⟨lv,rfl⟩,g3,hg3,hW,hH,hG⟩:=hrel;have QW:=qh hW;have QH:=qh hH;have QG:=qh hG;have QB:=qh hg3;have HQ0:=qh (Ki hG);have r0:wr.cell? ⟨bg,0,none⟩=some (.int .u64 g3):=hG.cell (i:=0) (by omega);have r1:wr.cell? ⟨bv,0,none⟩=some (.slice (some ⟨gv,0,none⟩) N (N+1)):=hW.vb.cell (i:=0) (by omega);have r2:wr.cell? ⟨wo.heap.size,0,none⟩=some (.slice (some ⟨gu,j,none⟩) (N+1) (L-j)):=hH.cell (i:=0) (by omega);have hLe:=HEQ.o.2.1
         have hpart:∀ k,0<=part vp N k/\part vp N k<=999999999:=by
          intro k;unfold part;split
          ·have:=HDV.o k (by omega);omega
          ·omega
         have QW':=QW
         have CA:=qh (Zx 257 #[.pointer (some ⟨wo.heap.size,0,none⟩),.pointer (some ⟨bg,0,none⟩),.pointer (some ⟨bv,0,none⟩)] (N+1) (XJ up2 vp j N g3) (-999999999) 1 wr (by omega) cf_div
          (fun k hk v1 hb1=>divFn v1 wo.heap.size bg bv gu j N (L-j) (N+1) (some ⟨gv,0,none⟩) up2 vp g3 k ((hb1.cell (p:=⟨wo.heap.size,0,none⟩) QH.o.lt).trans r2) ((hb1.cell (p:=⟨bg,0,none⟩) QG.o.lt).trans r0) ((hb1.cell (p:=⟨bv,0,none⟩) QW.o.vb.lt).trans r1)
           ((QW.o.u.below hb1).cell (by omega)) (by omega) ((QW.o.v.less (by omega)).below hb1).rd (by omega) QB.o.1 (by have:=KD.o.udig (j+k) (by omega);omega) (hpart k))
          (fun k hk=>by
           have h1:=KD.o.udig (j+k) (by omega);have h2:=hpart k;have h3:g3*part vp N k<=999999999*999999999:=Int.mul_le_mul QB.o.1.2 h2.2 h2.1 (by omega);have h4:0<=g3*part vp N k:=Int.mul_nonneg QB.o.1.1 h2.1;unfold XJ
           omega) (by omega) (by omega) (by omega) (by omega))
         rw[show((N+1:Nat):Int)=(N:Int)+1 from rfl] at CA;have xK:=IntWalk.i64_in ((N:Int)+1) (by omega);clear hg3 hW hH hG hLe hpart;go_wp2_with fail
         refine CA.o.mono ?_;rintro e w4 ⟨rfl,hO4,hb4⟩;have RW:=qh (show Zh w w4 gu w1.heap.size gv bv N L M (N+1) up2 qp2 vp from⟨QW.o.u.below hb4,QW.o.q.below hb4,QW.o.v.below hb4,QW.o.vb.of_block (hb4.block _ QW.o.vb.lt),QW.o.bel.trans (hb4.mono QW.o.bel.size)⟩);have RH:=qh (QH.o.of_block (hb4.block _ QH.o.lt));have RG:=qh (QG.o.of_block (hb4.block _ QG.o.lt));have RO:=qh hO4;clear hO4 hb4 CA r0 r1 r2 QW QH QG;have r0:w4.cell? ⟨bg,0,none⟩=some (.int .u64 g3):=RG.o.cell (i:=0) (by omega);have r1:w4.cell? ⟨bv,0,none⟩=some (.slice (some ⟨gv,0,none⟩) N (N+1)):=RW.o.vb.cell (i:=0) (by omega);have r2:w4.cell? ⟨wo.heap.size,0,none⟩=some (.slice (some ⟨gu,j,none⟩) (N+1) (L-j)):=RH.o.cell (i:=0) (by omega);have BL:=qh (V7 (some ⟨gu,j,none⟩) (some ⟨gv,0,none⟩) (N+1) (L-j) N (N+1) (fun k=>up2 (j+k)) vp g3 w4 (Rd.at_own RW.o.u (by omega)) (RW.o.v.less (by omega)).rd (fun k hk=>KD.o.udig (j+k) (by omega)) HDV.o (by have:=HEQ.o.2.1;omega) (by have:=HEQ.o.2.1;omega) QB.o.1);rw[show Jh (fun k=>up2 (j+k)) (N+1)=Qn up2 N j from rfl,HVT.o.1] at BL;go_wp2_with fail
         refine BL.o.mono ?_;rintro e w5 ⟨rfl,hb5⟩;have SW:=qh (show Zh w w5 gu w1.heap.size gv bv N L M (N+1) up2 qp2 vp from⟨RW.o.u.below hb5,RW.o.q.below hb5,RW.o.v.below hb5,RW.o.vb.of_block (hb5.block _ RW.o.vb.lt),RW.o.bel.trans (hb5.mono RW.o.bel.size)⟩);have SH:=qh (RH.o.of_block (hb5.block _ RH.o.lt));have SG:=qh (RG.o.of_block (hb5.block _ RG.o.lt));have SO:=qh (RO.o.below hb5);clear hb5 BL r0 r1 r2 RW RH RG RO;have r0:w5.cell? ⟨bg,0,none⟩=some (.int .u64 g3):=SG.o.cell (i:=0) (by omega);have r2:w5.cell? ⟨wo.heap.size,0,none⟩=some (.slice (some ⟨gu,j,none⟩) (N+1) (L-j)):=SH.o.cell (i:=0) (by omega);have fz:=SG.o.frozen;have HNE:=qh (show(gu≠bg/\w1.heap.size≠bg/\gv≠bg/\bv≠bg)/\w.heap.size<=bg/\wo.heap.size≠bg/\gu<wr.heap.size by have:=HSZ.o;have:=HB2.o;have:=KW.o.bel.size;have:=HDIS.o;have:=(QW'.o.u.blk rfl).2.2;dsimp only at this;omega);by_cases hlt3:Qn up2 N j<V*g3
         ·have hh0:=HH.o.1
          have hgp:1<=g3:=by
           rcases Int.lt_or_le 0 g3 with h | h
           ·omega
           ·have:=QB.o.1.1;rw[show g3=0 by omega,Int.mul_zero] at hlt3;omega
          have w8':=IntWalk.u64_in (g3-1) (by have:=QB.o.1;omega);have HGL:=qh (And.intro (YN HVV.o.2.2.2 QB.o.2 hlt3) hgp);clear hh0 hgp;go_wp2_with fail
          go_roundw
          case rel=>exact⟨⟨_,rfl⟩,g3-1,⟨⟨by have:=HGL.o.2;omega,by have:=QB.o.1;omega⟩,HGL.o.1⟩,SW.o.YB HNE.o.1 HNE.o.2.1 _,World.rowIs.setOther (a:=⟨bg,0,none⟩) SH.o HNE.o.2.2.1 _,(SG.o.set 0 _).congr (fun i hi=>by rw[if_pos (by omega)])⟩
          case measure =>
           have e1:=Ki ((SG.o.set 0 (.int .u64 (g3-1))).congr (g:=fun _=>.int .u64 (g3-1)) (fun i hi=>by rw[if_pos (by omega)]));rw[e1,HQ0.o];have:=HGL.o.2;omega
         ·obtain⟨gr1,gr2,gr3⟩:=Yh HVV.o.2.2.2 QB.o.2 hlt3;have hLe:=HEQ.o.2.1
          have hsum:Jh (cD (XJ up2 vp j N g3)) (N+1)=Qn up2 N j-V*g3:=by
           have h1:=Ua up2 vp j N g3;rw[HVT.o.1] at h1;rw[(ZG (by rw[h1];exact gr2) (by rw[h1,JN,Int.natCast_mul];have:=HVV.o.2.1;omega)).2,h1]
          have ST:=qh (KD.o.step (g:=g3) (r:=cD (XJ up2 vp j N g3)) (by omega) (by omega) HVV.o.2.1 HVV.o.2.2.2 (by have:=QB.o.1;omega) (Ql _ _) hsum gr3);obtain⟨vc,w6,hrun,hown6,hgrow⟩:=jbt (r:=cD (XJ up2 vp j N g3)) SW.o.u (i:=j) (m:=N+1) (by omega) (by omega) SO.o.rd 3 (L-j) (N+1);have HO6:=qh hown6;have HG6:=qh hgrow;have w7':=IntWalk.u32_in g3 (by have:=QB.o.1;omega);have hsz6:=SW.o.bel.size;have TG:=qh (SG.o.of_block (hgrow.block bg SG.o.lt (fun e=>by have:=HNE.o.1.1;cases e;contradiction)));have TQ:=qh (SW.o.q.keep fun p hp=>hgrow.block _ (SW.o.q.blk hp).2.2 (fun e=>by have:=HDIS.o;have:=(KW.o.u.blk rfl).2.2;cases hp;cases e;have h9:=HDIS.o.2.1;dsimp only at *;omega));have r5:w6.cell? ⟨bg,0,none⟩=some (.int .u64 g3):=TG.o.cell (i:=0) (by omega);obtain⟨vo,r6⟩:∃ vo,w6.cell? ⟨w1.heap.size,j,none⟩=some vo:=⟨_,TQ.o.cell (by omega)⟩;have fq:=TQ.o.fz;clear hown6 hgrow gr1 gr2 gr3 hsum hLe
          have HF:=qh (show Zh w (w6.setCell ⟨w1.heap.size,j,none⟩ (.int .u32 g3)) gu w1.heap.size gv bv N L M (N+1) (splice up2 j (N+1) (cD (XJ up2 vp j N g3))) (upd qp2 j g3) vp from by
           have hd:=HDIS.o
           have hv6:=SW.o.v.keep (w':=w6) fun p hp=>HG6.o.block _ (SW.o.v.blk hp).2.2 (fun e=>by cases hp;cases e;exact hd.1.1 rfl)
           have hb6:=SW.o.vb.of_block (w':=w6) (HG6.o.block _ SW.o.vb.lt (fun e=>by cases e;exact hd.1.2.1 rfl));have hl6:Below w.heap.size w w6:=SW.o.bel.grown HG6.o SW.o.bel.size (fun k hk=>by cases hk;exact(SW.o.u.blk rfl).2.1)
           refine⟨HO6.o.keep fun p hp=>Below.heap_setCell _ _ _ _ (by cases hp;dsimp only;omega),TQ.o.put (by omega) (by have:=QB.o.1;omega),hv6.keep fun p hp=>Below.heap_setCell _ _ _ _ (by cases hp;dsimp only;omega),hb6.setOther (by dsimp only;omega) _,hl6.setCell (p:=⟨w1.heap.size,j,none⟩) (TQ.o.blk rfl).2.1 _⟩)
          go_wp2_with fail
          go_roundw
          case rel=>exact⟨j,by omega,rfl,_,_,ST.o,HF.o⟩
          case measure=>simp[intOf];omega
     ·have hge:¬ov<1000000000:=hlt;have hdb:decide (ov<1000000000)=false:=zo hlt;go_wp2_with fail
      go_quiet (fail);obtain⟨wy,hwy⟩:∃ wy,wy=wr.drewN nq:=⟨_,rfl⟩;rw[<- hwy]
      have hbD:Below wr.heap.size wr wy:=by rw[hwy];exact Qh zk nq
      have PW:=qh (show Zh w wy gu w1.heap.size gv bv N L M (N+1) up2 qp2 vp from⟨OW.o.u.below hbD,OW.o.q.below hbD,OW.o.v.below hbD,OW.o.vb.of_block (hbD.block _ OW.o.vb.lt),OW.o.bel.trans (hbD.mono OW.o.bel.size)⟩);have PH:=qh (OH.o.of_block (hbD.block _ OH.o.lt));have PG:=qh (OG.o.of_block (hbD.block _ OG.o.lt));have r0:wy.cell? ⟨bg,0,none⟩=some (.int .u64 g):=PG.o.cell (i:=0) (by omega);clear hwy hbD r1 r2 r3 r4 r5 fz w1' w2' w3' w4' w5' OW OH OG;by_cases hz:g=0
      ·have KS:=qh (KD.o.skip (by omega) (by omega) HVV.o.2.1 HVV.o.2.2.2 (by have:=OB.o.2;omega));subst hz;go_wp2_with fail
       go_roundw
       case rel=>exact⟨j,by omega,rfl,up2,qp2,KS.o,PW.o⟩
       case measure=>simp[intOf];omega
      ·have hgz:(g==0)=false:=by simpa using hz
       go_wp2_with fail
       clear r0 hgz
       go_loopw [15] (fun lv wx=>(∃ v:Value,lv=v)/\∃ g:Int,((0<=g/\g<=999999999)/\Qn up2 N j/V<=g)/\Zh w wx gu w1.heap.size gv bv N L M (N+1) up2 qp2 vp /\
        wx.rowIs wo.heap.size 24 1 (fun _=>.slice (some ⟨gu,j,none⟩) (N+1) (L-j))/\wx.rowIs bg 229 1 (fun _=>.int .u64 g)) (fun _ wx=>boxN wx bg)
       case atStart=>exact⟨⟨_,rfl⟩,g,OB.o,PW.o,PH.o,PG.o⟩
       case round =>
        obtain⟨⟨lv,rfl⟩,g3,hg3,hW,hH,hG⟩:=hrel;have QW:=qh hW;have QH:=qh hH;have QG:=qh hG;have QB:=qh hg3;have HQ0:=qh (Ki hG);have r0:wr.cell? ⟨bg,0,none⟩=some (.int .u64 g3):=hG.cell (i:=0) (by omega);have r1:wr.cell? ⟨bv,0,none⟩=some (.slice (some ⟨gv,0,none⟩) N (N+1)):=hW.vb.cell (i:=0) (by omega);have r2:wr.cell? ⟨wo.heap.size,0,none⟩=some (.slice (some ⟨gu,j,none⟩) (N+1) (L-j)):=hH.cell (i:=0) (by omega);have hLe:=HEQ.o.2.1
        have hpart:∀ k,0<=part vp N k/\part vp N k<=999999999:=by
         intro k;unfold part;split
         ·have:=HDV.o k (by omega);omega
         ·omega
        have QW':=QW
        have CA:=qh (Zx 257 #[.pointer (some ⟨wo.heap.size,0,none⟩),.pointer (some ⟨bg,0,none⟩),.pointer (some ⟨bv,0,none⟩)] (N+1) (XJ up2 vp j N g3) (-999999999) 1 wr (by omega) cf_div
         (fun k hk v1 hb1=>divFn v1 wo.heap.size bg bv gu j N (L-j) (N+1) (some ⟨gv,0,none⟩) up2 vp g3 k ((hb1.cell (p:=⟨wo.heap.size,0,none⟩) QH.o.lt).trans r2) ((hb1.cell (p:=⟨bg,0,none⟩) QG.o.lt).trans r0) ((hb1.cell (p:=⟨bv,0,none⟩) QW.o.vb.lt).trans r1)
          ((QW.o.u.below hb1).cell (by omega)) (by omega) ((QW.o.v.less (by omega)).below hb1).rd (by omega) QB.o.1 (by have:=KD.o.udig (j+k) (by omega);omega) (hpart k))
         (fun k hk=>by
          have h1:=KD.o.udig (j+k) (by omega);have h2:=hpart k;have h3:g3*part vp N k<=999999999*999999999:=Int.mul_le_mul QB.o.1.2 h2.2 h2.1 (by omega);have h4:0<=g3*part vp N k:=Int.mul_nonneg QB.o.1.1 h2.1;unfold XJ
          omega) (by omega) (by omega) (by omega) (by omega))
        rw[show((N+1:Nat):Int)=(N:Int)+1 from rfl] at CA;have xK:=IntWalk.i64_in ((N:Int)+1) (by omega);clear hg3 hW hH hG hLe hpart;go_wp2_with fail
        refine CA.o.mono ?_;rintro e w4 ⟨rfl,hO4,hb4⟩;have RW:=qh (show Zh w w4 gu w1.heap.size gv bv N L M (N+1) up2 qp2 vp from⟨QW.o.u.below hb4,QW.o.q.below hb4,QW.o.v.below hb4,QW.o.vb.of_block (hb4.block _ QW.o.vb.lt),QW.o.bel.trans (hb4.mono QW.o.bel.size)⟩);have RH:=qh (QH.o.of_block (hb4.block _ QH.o.lt));have RG:=qh (QG.o.of_block (hb4.block _ QG.o.lt));have RO:=qh hO4;clear hO4 hb4 CA r0 r1 r2 QW QH QG;have r0:w4.cell? ⟨bg,0,none⟩=some (.int .u64 g3):=RG.o.cell (i:=0) (by omega);have r1:w4.cell? ⟨bv,0,none⟩=some (.slice (some ⟨gv,0,none⟩) N (N+1)):=RW.o.vb.cell (i:=0) (by omega);have r2:w4.cell? ⟨wo.heap.size,0,none⟩=some (.slice (some ⟨gu,j,none⟩) (N+1) (L-j)):=RH.o.cell (i:=0) (by omega);have BL:=qh (V7 (some ⟨gu,j,none⟩) (some ⟨gv,0,none⟩) (N+1) (L-j) N (N+1) (fun k=>up2 (j+k)) vp g3 w4 (Rd.at_own RW.o.u (by omega)) (RW.o.v.less (by omega)).rd (fun k hk=>KD.o.udig (j+k) (by omega)) HDV.o (by have:=HEQ.o.2.1;omega) (by have:=HEQ.o.2.1;omega) QB.o.1);rw[show Jh (fun k=>up2 (j+k)) (N+1)=Qn up2 N j from rfl,HVT.o.1] at BL;go_wp2_with fail
        refine BL.o.mono ?_;rintro e w5 ⟨rfl,hb5⟩;have SW:=qh (show Zh w w5 gu w1.heap.size gv bv N L M (N+1) up2 qp2 vp from⟨RW.o.u.below hb5,RW.o.q.below hb5,RW.o.v.below hb5,RW.o.vb.of_block (hb5.block _ RW.o.vb.lt),RW.o.bel.trans (hb5.mono RW.o.bel.size)⟩);have SH:=qh (RH.o.of_block (hb5.block _ RH.o.lt));have SG:=qh (RG.o.of_block (hb5.block _ RG.o.lt));have SO:=qh (RO.o.below hb5);clear hb5 BL r0 r1 r2 RW RH RG RO;have r0:w5.cell? ⟨bg,0,none⟩=some (.int .u64 g3):=SG.o.cell (i:=0) (by omega);have r2:w5.cell? ⟨wo.heap.size,0,none⟩=some (.slice (some ⟨gu,j,none⟩) (N+1) (L-j)):=SH.o.cell (i:=0) (by omega);have fz:=SG.o.frozen;have HNE:=qh (show(gu≠bg/\w1.heap.size≠bg/\gv≠bg/\bv≠bg)/\w.heap.size<=bg/\wo.heap.size≠bg/\gu<wr.heap.size by have:=HSZ.o;have:=HB2.o;have:=KW.o.bel.size;have:=HDIS.o;have:=(QW'.o.u.blk rfl).2.2;dsimp only at this;omega);by_cases hlt3:Qn up2 N j<V*g3
        ·have hh0:=HH.o.1
         have hgp:1<=g3:=by
          rcases Int.lt_or_le 0 g3 with h | h
          ·omega
          ·have:=QB.o.1.1;rw[show g3=0 by omega,Int.mul_zero] at hlt3;omega
         have w8':=IntWalk.u64_in (g3-1) (by have:=QB.o.1;omega);have HGL:=qh (And.intro (YN HVV.o.2.2.2 QB.o.2 hlt3) hgp);clear hh0 hgp;go_wp2_with fail
         go_roundw
         case rel=>exact⟨⟨_,rfl⟩,g3-1,⟨⟨by have:=HGL.o.2;omega,by have:=QB.o.1;omega⟩,HGL.o.1⟩,SW.o.YB HNE.o.1 HNE.o.2.1 _,World.rowIs.setOther (a:=⟨bg,0,none⟩) SH.o HNE.o.2.2.1 _,(SG.o.set 0 _).congr (fun i hi=>by rw[if_pos (by omega)])⟩
         case measure =>
          have e1:=Ki ((SG.o.set 0 (.int .u64 (g3-1))).congr (g:=fun _=>.int .u64 (g3-1)) (fun i hi=>by rw[if_pos (by omega)]));rw[e1,HQ0.o];have:=HGL.o.2;omega
        ·obtain⟨gr1,gr2,gr3⟩:=Yh HVV.o.2.2.2 QB.o.2 hlt3;have hLe:=HEQ.o.2.1
         have hsum:Jh (cD (XJ up2 vp j N g3)) (N+1)=Qn up2 N j-V*g3:=by
          have h1:=Ua up2 vp j N g3;rw[HVT.o.1] at h1;rw[(ZG (by rw[h1];exact gr2) (by rw[h1,JN,Int.natCast_mul];have:=HVV.o.2.1;omega)).2,h1]
         have ST:=qh (KD.o.step (g:=g3) (r:=cD (XJ up2 vp j N g3)) (by omega) (by omega) HVV.o.2.1 HVV.o.2.2.2 (by have:=QB.o.1;omega) (Ql _ _) hsum gr3);obtain⟨vc,w6,hrun,hown6,hgrow⟩:=jbt (r:=cD (XJ up2 vp j N g3)) SW.o.u (i:=j) (m:=N+1) (by omega) (by omega) SO.o.rd 3 (L-j) (N+1);have HO6:=qh hown6;have HG6:=qh hgrow;have w7':=IntWalk.u32_in g3 (by have:=QB.o.1;omega);have hsz6:=SW.o.bel.size;have TG:=qh (SG.o.of_block (hgrow.block bg SG.o.lt (fun e=>by have:=HNE.o.1.1;cases e;contradiction)));have TQ:=qh (SW.o.q.keep fun p hp=>hgrow.block _ (SW.o.q.blk hp).2.2 (fun e=>by have:=HDIS.o;have:=(KW.o.u.blk rfl).2.2;cases hp;cases e;have h9:=HDIS.o.2.1;dsimp only at *;omega));have r5:w6.cell? ⟨bg,0,none⟩=some (.int .u64 g3):=TG.o.cell (i:=0) (by omega);obtain⟨vo,r6⟩:∃ vo,w6.cell? ⟨w1.heap.size,j,none⟩=some vo:=⟨_,TQ.o.cell (by omega)⟩;have fq:=TQ.o.fz;clear hown6 hgrow gr1 gr2 gr3 hsum hLe
         have HF:=qh (show Zh w (w6.setCell ⟨w1.heap.size,j,none⟩ (.int .u32 g3)) gu w1.heap.size gv bv N L M (N+1) (splice up2 j (N+1) (cD (XJ up2 vp j N g3))) (upd qp2 j g3) vp from by
          have hd:=HDIS.o
          have hv6:=SW.o.v.keep (w':=w6) fun p hp=>HG6.o.block _ (SW.o.v.blk hp).2.2 (fun e=>by cases hp;cases e;exact hd.1.1 rfl)
          have hb6:=SW.o.vb.of_block (w':=w6) (HG6.o.block _ SW.o.vb.lt (fun e=>by cases e;exact hd.1.2.1 rfl));have hl6:Below w.heap.size w w6:=SW.o.bel.grown HG6.o SW.o.bel.size (fun k hk=>by cases hk;exact(SW.o.u.blk rfl).2.1)
          refine⟨HO6.o.keep fun p hp=>Below.heap_setCell _ _ _ _ (by cases hp;dsimp only;omega),TQ.o.put (by omega) (by have:=QB.o.1;omega),hv6.keep fun p hp=>Below.heap_setCell _ _ _ _ (by cases hp;dsimp only;omega),hb6.setOther (by dsimp only;omega) _,hl6.setCell (p:=⟨w1.heap.size,j,none⟩) (TQ.o.blk rfl).2.1 _⟩)
         go_wp2_with fail
         go_roundw
         case rel=>exact⟨j,by omega,rfl,_,_,ST.o,HF.o⟩
         case measure=>simp[intOf];omega
end Limb
end Go.Proofs.YtgkkbkoiaccmfaaGreatDoor
