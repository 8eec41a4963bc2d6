/-
  The walk of divide's closure of package limbs; parts put into an own list by copy.
-/
import Derived.Test.YthacfgmdihcffaaGreatDoorPzRD
import Derived.Deep.DeepCutAuto
import Derived.Laws.CopyRow
set_option linter.unusedSimpArgs false
set_option linter.unusedVariables false
set_option maxHeartbeats 16000000
set_option maxRecDepth 100000
namespace Go.Proofs.YthacfgmdihcffaaGreatDoor
namespace Book
open Go.RowKit Go.Sort Go.Fresh Limb
end Book
namespace Limb
open Go.RowKit
theorem Own.allocd {T:Nat} {w:World} {base:Nat} {a:Option Addr} {n cap:Nat} {o:Nat->Int} (h:Own T w base a n cap o) (x:Obj):Own T (w.alloc x) base a n cap o:=h.below (zk.alloc zj x)
end Limb
namespace Book
open Go.RowKit Go.Sort Go.Fresh Limb
structure GrowI (w1 wr:World) (i n:Nat) (ai:Option Addr) (ci t:Nat) (a:Option Addr) (c:Nat) (hv:Nat->Value):Prop where
 own:Own 128 wr 0 a (n+t) c (fun _=>mk i)
 old:Own 128 wr 0 ai n ci (fun _=>mk i)
 plc:(a=ai/\c=ci)\/∃ g,a=some ⟨g,0,none⟩/\w1.heap.size<g
 box:wr.rowIs w1.heap.size 127 3 hv
 tch:Touch (fun g=>∃ p,ai=some p/\p.block=g) w1 wr
 olt:∀ p,ai=some p->p.block<w1.heap.size
theorem grow_step {w1 wr w2:World} {i n t c ci c':Nat} {a ai a':Option Addr} {hv:Nat->Value} {o:Obj} (G:GrowI w1 wr i n ai ci t a c hv) (hown:Own 128 w2 0 a' (n+t+1) c' (upd (fun _=>mk i) (n+t) (mk i)))
  (hcase:(a'=a/\c'=c/\(wr.alloc o).grownBy w2 (a.map (·.block)))\/((∃ g,a'=some ⟨g,0,none⟩/\wr.heap.size+1<=g)/\(wr.alloc o).grownBy w2 none/\c<n+t+1)) :
  GrowI w1 w2 i n ai ci (t+1) a' c' hv:=by
 have hown':Own 128 w2 0 a' (n+(t+1)) c' (fun _=>mk i):=hown.congr fun q _=>by unfold upd;split <;> rfl
 have hsz:=G.tch.size;have hbx:=G.box.lt
 have oldw:Own 128 (wr.alloc o) 0 ai n ci (fun _=>mk i):=G.old.keep fun p hp=>Below.heap_alloc _ _ _ (by have:=G.olt p hp;omega)
 have boxw:(wr.alloc o).rowIs w1.heap.size 127 3 hv:=G.box.alloc o;have tchw:=G.tch.alloc o
 rcases hcase with ⟨rfl,rfl,hg⟩ | ⟨⟨g,rfl,hlt⟩,hg,-⟩
 ·rcases G.plc with ⟨rfl,rfl⟩ | ⟨g,rfl,hlt⟩
  ·refine⟨hown',hown'.less (by omega),.inl ⟨rfl,rfl⟩,boxw.of_block (hg.block _ (by simp;omega) (fun e=>?_)),tchw.grown hg (fun q hq=>?_),G.olt⟩
   ·cases h:a' with
    | none=>rw[h] at e;cases e
    | some p=>rw[h] at e;simp at e;have:=G.olt p h;omega
   ·cases h:a' with
    | none=>rw[h] at hq;cases hq
    | some p=>rw[h] at hq;simp at hq;exact .inl ⟨p,rfl,hq⟩
  ·refine⟨hown',oldw.keep (fun p hp=>hg.block _ (by have:=G.olt p hp;simp;omega) (fun e=>by have:=G.olt p hp;simp at e;omega)),.inr ⟨g,rfl,hlt⟩,boxw.of_block (hg.block _ (by simp;omega) (fun e=>by simp at e;omega)),
    tchw.grown hg (fun q hq=>.inr (by simp at hq;omega)),G.olt⟩
 ·refine⟨hown',oldw.keep (fun p hp=>hg.block _ (by have:=G.olt p hp;simp;omega) (fun e=>by cases e)),.inr ⟨g,rfl,by omega⟩,boxw.of_block (hg.block _ (by simp;omega) (fun e=>by cases e)),
   tchw.grown hg (fun q hq=>by cases hq),G.olt⟩
end Book
namespace Limb
open Go.RowKit Go.Sort Go.Fresh
def tw (o:Nat->Int) (n i:Nat):Int:=if i<n then o i else 77
theorem leftLimbs_any (g:Nat) (a:Option Addr) (n ca:Nat) (o:Nat->Int) (w:World) (ht:Rd w (some ⟨g,0,none⟩) (n+1) (tw o n)) (ha:Rd w a n o) (hn:n<=1000000000) :
  Calls Tryz.prog 221 #[.slice (some ⟨g,0,none⟩) n (n+1),.slice a n ca] w fun e w'=>e=.returned (.bool true)/\∃ m,w'=w.drewN m:=by
 have HA:=qh ha;have HT:=qh ht;have e1:=IntWalk.i64_in ((n:Int)+1) (by omega)
 have ec:((n+1:Nat):Int)=(n:Int)+1:=by omega
 have x1:¬((n:Int)+1<=(n:Int)):=by omega
 clear ha ht;go_enter Tryz.func221,Tryz.ntmps221;go_wp2_with fail
 go_loopw [5] (fun i wr=>∃ t:Nat,t<=n/\i=.int .i64 t/\∃ m,wr=w.drewN m) (fun i _=>n-(intOf i).toNat)
 case atStart=>exact⟨0,by omega,rfl,0,rfl⟩
 case round =>
  obtain⟨t,htn,rfl,hm⟩:=hrel;have HM:=qh hm
  have cw:∀ p,wr.cell? p=w.cell? p:=by obtain⟨m,rfl⟩:=hm;intro p;rfl
  clear hm;obtain⟨b1,o1,eb,hc1⟩:=HT.o.cells (by omega)
  cases eb
  by_cases ht:t<n
  ·obtain⟨b2,o2,rfl,hc2⟩:=HA.o.cells (by omega)
   have c1:wr.cell? ⟨g,t,none⟩=some (.int .u32 (o t)):=by
    have h:=(cw _).trans (hc1 t (by omega));rw[Nat.zero_add] at h;rw[h];show some (Value.int .u32 (if t<n then o t else 77))=_;rw[if_pos ht]
   have c2:wr.cell? ⟨b2,o2+t,none⟩=some (.int .u32 (o t)):=(cw _).trans (hc2 t ht);clear hc1 hc2 cw;go_wp2_with fail
   go_quiet (fail);go_wp2_with fail
   go_roundw
   case rel=>exact⟨t+1,by omega,by go_num,by obtain⟨m,e⟩:=HM.o;exact⟨_,by rw[e,World.drewN_drewN]⟩⟩
   case measure=>simp[intOf];omega
  ·obtain rfl:t=n:=by omega
   have c1:wr.cell? ⟨g,t,none⟩=some (.int .u32 77):=by
    have h:=(cw _).trans (hc1 t (by omega));rw[Nat.zero_add] at h;rw[h];show some (Value.int .u32 (if t<t then o t else 77))=_;rw[if_neg (by omega)]
   clear hc1 cw;go_wp2_with fail
   go_ret;exact⟨rfl,HM.o⟩
theorem leftNum_any (s:Bool) (g:Nat) (a:Option Addr) (n ca:Nat) (o:Nat->Int) (w:World) (ht:Rd w (some ⟨g,0,none⟩) (n+1) (tw o n)) (ha:Rd w a n o) (hn:n<=1000000000) :
  Calls Tryz.prog 175 #[numV s (some ⟨g,0,none⟩) n (n+1),numV s a n ca] w fun e w'=>e=.returned (.bool true)/\Below w.heap.size w w':=by
 have HC:=qh (fun (w':World) (h:Below w.heap.size w w')=>leftLimbs_any g a n ca o w' (ht.below h) (ha.below h) hn)
 have es:(s==s)=true:=by simp
 clear ha ht;go_enter Tryz.func175,Tryz.ntmps175;go_wp2_with fail
 refine(HC.o _ ?_).mono ?_
 ·exact qg
 rintro e w1 ⟨rfl,m,rfl⟩;go_wp2_with fail
 go_ret;exact⟨rfl,qg⟩
end Limb
namespace Book
open Go.RowKit Go.Sort Go.Fresh Limb
def ArrT (ν:Nat->Nat) (w:World) (vb k:Nat) (A:Nat->Option Addr) (N C:Nat->Nat) (X:Nat->Value):Prop :=
 ∃ m f,w.rowIs vb 120 m f/\∀ j,j<k->3*j+2<m/\f (3*j)=.slice (A j) (N j) (C j)/\f (3*j+1)=X j/\f (3*j+2)=.int .i64 ((ν j:Int)+1)
theorem ArrT.cells {ν:Nat->Nat} {w:World} {vb k:Nat} {A:Nat->Option Addr} {N C:Nat->Nat} {X:Nat->Value} (h:ArrT ν w vb k A N C X) {j:Nat} (hj:j<k) :
  w.cell? ⟨vb,j*3,none⟩=some (.slice (A j) (N j) (C j))/\w.cell? ⟨vb,j*3+1,none⟩=some (X j)/\w.cell? ⟨vb,j*3+2,none⟩=some (.int .i64 ((ν j:Int)+1))/\(∀ i,w.frozen? ⟨vb,i,none⟩=false)/\vb<w.heap.size:=by
 obtain⟨m,f,hR,hE⟩:=h;obtain⟨h1,h2,h3,h4⟩:=hE j hj;rw[Nat.mul_comm j 3];exact⟨by rw[<- h2];exact hR.cell (by omega),by rw[<- h3];exact hR.cell (by omega),by rw[<- h4];exact hR.cell (by omega),hR.frozen,hR.lt⟩
theorem ArrT.keep {ν:Nat->Nat} {w w':World} {vb k:Nat} {A:Nat->Option Addr} {N C:Nat->Nat} {X:Nat->Value} (h:ArrT ν w vb k A N C X) (e:w'.heap[vb]?=w.heap[vb]?):ArrT ν w' vb k A N C X:=by
 obtain⟨m,f,hR,hE⟩:=h;exact⟨m,f,hR.of_block e,hE⟩
theorem ArrT.lt {ν:Nat->Nat} {w:World} {vb k:Nat} {A:Nat->Option Addr} {N C:Nat->Nat} {X:Nat->Value} (h:ArrT ν w vb k A N C X):vb<w.heap.size:=by
 obtain⟨m,f,hR,hE⟩:=h;exact hR.lt
theorem ArrT.setLong {ν:Nat->Nat} {w:World} {vb k:Nat} {A:Nat->Option Addr} {N C:Nat->Nat} {X:Nat->Value} (h:ArrT ν w vb k A N C X) (i:Nat) (v:Value):ArrT ν (w.setCell ⟨vb,i*3+1,none⟩ v) vb k A N C (fun j=>if j=i then v else X j):=by
 obtain⟨m,f,hR,hE⟩:=h;refine⟨m,_,hR.set (i*3+1) v,fun j hj=>?_⟩;obtain⟨h1,h2,h3,h4⟩:=hE j hj;refine⟨h1,?_,?_,?_⟩
 ·rw[if_neg (by omega)];exact h2
 ·show(if 3*j+1=i*3+1 then v else f (3*j+1))=if j=i then v else X j
  by_cases e:j=i
  ·subst e;rw[if_pos (by omega),if_pos rfl]
  ·rw[if_neg (by omega),if_neg e];exact h3
 ·rw[if_neg (by omega)];exact h4
theorem ownT_step {k i t g:Nat} {A:Nat->Option Addr} {N C:Nat->Nat} {O:Nat->Nat->Value} {w:World} {m:Nat->Value} (hD:Part k A) (hO:∀ j,j<k->OwnT w 0 (A j) (N j) (C j) (O j)) (hi:i<k) (hg:A i=some ⟨g,0,none⟩) (ht:t<N i) :
  ∀ j,j<k->OwnT (put8 w g t m) 0 (A j) (N j) (C j) (if j=i then updT (O i) t m else O j):=by
 intro j hj;by_cases e:j=i
 ·subst e;rw[if_pos rfl,hg];have h:=hO j hj;rw[hg] at h;exact h.put8 ht m
 ·rw[if_neg e]
  refine(hO j hj).keep fun p hp=>?_
  have hne:∀ (v:World) (o:Nat) (x:Value),(v.setCell ⟨g,o,none⟩ x).heap[p.block]?=v.heap[p.block]?:=fun v o x=>Below.heap_setCell _ _ _ _ (fun he=>hD j hj i hi e p _ hp hg he)
  unfold put8;rw[hne,hne,hne,hne,hne,hne,hne,hne]
theorem rowIs_put8 {w:World} {b m:Nat} {T:TypeId} {f:Nat->Value} (h:w.rowIs b T m f) {g:Nat} (hg:g≠b) (t:Nat) (mm:Nat->Value):(Book.put8 w g t mm).rowIs b T m f:=by
 unfold Book.put8;exact(((((((h.setOther (by dsimp only;omega) _).setOther (by dsimp only;omega) _).setOther (by dsimp only;omega) _).setOther (by dsimp only;omega) _).setOther (by dsimp only;omega) _).setOther (by dsimp only;omega) _).setOther (by dsimp only;omega) _).setOther (by dsimp only;omega) _
theorem Touch.put8 {U:Nat->Prop} {a b:World} (h:Touch U a b) {g:Nat} (hp:U g\/a.heap.size<=g) (t:Nat) (m:Nat->Value):Touch U a (Book.put8 b g t m) :=
 (((((((h.setCell (p:=⟨g,_,none⟩) hp _).setCell (p:=⟨g,_,none⟩) hp _).setCell (p:=⟨g,_,none⟩) hp _).setCell (p:=⟨g,_,none⟩) hp _).setCell (p:=⟨g,_,none⟩) hp _).setCell (p:=⟨g,_,none⟩) hp _).setCell (p:=⟨g,_,none⟩) hp _).setCell (p:=⟨g,_,none⟩) hp _
theorem fillT_any (b vb k cap:Nat) (A:Nat->Option Addr) (N C:Nat->Nat) (O:Nat->Nat->Value) (f:Nat->Value) (ν:Nat->Nat) (w:World) (hk:k<=30000) (hν:∀ j,j<k->ν j<=30000) (hB:w.rowIs b 59 13 f) (hf:f 6=.slice (some ⟨vb,0,none⟩) k cap)
  (hA:ArrT ν w vb k A N C (fun _=>.slice none 0 0)) (hO:∀ j,j<k->OwnT w 0 (A j) (N j) (C j) (O j)) (hN:∀ j,j<k->N j<=100000000) (hS:¬UA k A b/\¬UA k A vb) (hD:Part k A) :
  Calls Tryz.prog 50 #[.pointer (some ⟨b,0,none⟩)] w fun e w'=>(∃ v,e=.returned v)/\Touch (UA k A) w w'/\∀ j,j<k->OwnT w' 0 (A j) (N j) (C j) (fun c=>mc (ν j) (c%8)):=by
 have HB:=qh hB;have HA:=qh hA;have HO:=qh hO;have HS:=qh hS;have HD:=qh hD;have HN:=qh hN;have HF:=qh hf;have HV:=qh hν;clear hB hA hO hS hD hN hf hν;go_enter Tryz.func50,Tryz.ntmps50;go_wp2_with fail
 go_loopw [2] (fun v wr=>∃ i:Nat,i<=k/\v=.int .i64 i/\Touch (UA k A) w wr/\∃ OO:Nat->Nat->Value,(∀ j,j<k->OwnT wr 0 (A j) (N j) (C j) (OO j))/\∀ j,j<i->∀ c,c<N j*8->OO j c=mc (ν j) (c%8)) (fun v _=>k-(intOf v).toNat)
 case atStart=>exact⟨0,by omega,rfl,Touch.refl _ _,O,HO.o,fun j hj=>by omega⟩
 case round =>
  obtain⟨w1,rfl⟩:∃ w1,w1=wr:=⟨_,rfl⟩;obtain⟨i,hik,rfl,hT,OO,hOO,hM⟩:=hrel;have KT:=qh hT;have KO:=qh hOO;have KM:=qh hM;have KB:=qh (HB.o.of_block (hT.block _ HB.o.lt HS.o.1));have KA:=qh (HA.o.keep (hT.block _ HA.o.lt HS.o.2));clear hT hOO hM
  have b2:w1.cell? ⟨b,6,none⟩=some (.slice (some ⟨vb,0,none⟩) k cap):=by rw[<- HF.o];exact KB.o.cell (i:=6) (by omega)
  by_cases hi:i<k
  ·obtain⟨a0,a1,a2,-,hvb⟩:=KA.o.cells hi;obtain⟨a,ha⟩:∃ a,a=A i:=⟨_,rfl⟩;obtain⟨n,hn⟩:∃ n,n=N i:=⟨_,rfl⟩;obtain⟨c,hc⟩:∃ c,c=C i:=⟨_,rfl⟩;rw[<- ha,<- hn,<- hc] at a0;have EA:=qh ha;have EN:=qh hn;have EC:=qh hc
   have hnb:n<=100000000:=by rw[hn];exact HN.o i hi
   clear ha hn hc;go_wp2_with fail
   go_loopw [4] (fun v wr2=>∃ t:Nat,t<=n/\v=.int .i64 t/\wr2.rowIs w1.heap.size 120 3 (hcell a n c (.slice none 0 0) ((ν i:Int)+1))/\Touch (UA k A) w wr2 /\
    ∃ OO:Nat->Nat->Value,(∀ j,j<k->OwnT wr2 0 (A j) (N j) (C j) (OO j))/\(∀ j,j<i->∀ c,c<N j*8->OO j c=mc (ν j) (c%8))/\∀ c,c<t*8->OO i c=mc (ν i) (c%8)) (fun v _=>n-(intOf v).toNat)
   case atStart =>
    refine⟨0,by omega,rfl,?_,KT.o.alloc _,OO,fun j hj=>(KO.o j hj).below (zk.alloc zj _),KM.o,fun c hc=>by omega⟩
    have h:=World.rowIs_alloc w1 #[Value.slice a n c,Value.slice none 0 0,Value.int IntKind.i64 ((ν i:Int)+1)] 120 (hcell a n c (.slice none 0 0) ((ν i:Int)+1)) (fun q hq=>by
     match q,hq with
     | 0,_=>rfl
     | 1,_=>rfl
     | 2,_=>rfl)
    exact h
   case round =>
    obtain⟨t,htn,rfl,hH,hT2,OO2,hOO2,hM2,hM3⟩:=hrel;have LT:=qh hT2;have LO:=qh hOO2;have LM:=qh (And.intro hM2 hM3);have LH:=qh hH;have hwr:w.heap.size<=w1.heap.size:=KT.o.size;have hc0:wr.cell? ⟨w1.heap.size,0,none⟩=some (.slice a n c):=hH.cell (i:=0) (by omega);have hc2:wr.cell? ⟨w1.heap.size,2,none⟩=some (.int .i64 ((ν i:Int)+1)):=hH.cell (i:=2) (by omega);clear hH hT2 hOO2 hM2 hM3;by_cases ht:t<n
    ·obtain⟨g,hg⟩:=(LO.o i hi).some_of_pos (by rw[<- EN.o];omega);obtain rfl:=EA.o.trans hg;have hO:=LO.o i hi;rw[<- EA.o,<- EN.o] at hO;have HCO:=qh (fun (q:Nat) (hq:q<n*8)=>hO.cell hq);have hfz:=hO.fz;have hglt:=(hO.blk rfl).2.2;have hgw:g<w.heap.size:=((HO.o i hi).blk hg).2.2;have HS1:=qh (fun (w':World) (hb:Below wr.heap.size wr w')=>And.intro ((hb.cell (p:=⟨w1.heap.size,0,none⟩) LH.o.lt).trans hc0) ((hb.cell (p:=⟨w1.heap.size,2,none⟩) LH.o.lt).trans hc2));have hlt:w1.heap.size<wr.heap.size:=LH.o.lt;clear hO;go_wp2_with fail
     refine wp_region_fresh 7 (spOf [(5,Sp.know (.agg #[.bool false,.slice none 0 0,.bool false,.slice none 0 0,.int .u16 ((ν i:Int)+2),.int .u16 0,.int .u16 0,.int .u16 0]))]) (fun w'=>Below wr.heap.size wr w') (by kernel_rfl) (by kernel_rfl)
      (spOf_cons (Sp.know_keeps _) spOf_nil) (fun _ _ h hb=>h.trans (hb.mono h.size)) (zk.drew) ?_
     simp only[zx,zy,zv,zw]
     iterate 5
      (refine wpF_reads rfl rfl ?_ (fun w' hw'=>?_) ?_;rotate_left;· (have hb':=Has.world hw';(have hs:=HS1.o _ hb');clear hw';go_simp;try rfl))
     (refine wpF_spec rfl rfl (fun w' hw'=>?_) ?_;· (have hb':=Has.world hw';go_simp;((refine(markT_any (ν i) w' (HV.o i hi)).mono ?_;rintro e w'' ⟨rfl,hb⟩;exact⟨_,rfl,rfl,hb⟩))))
     rintro _ rfl
     (refine wpF_reads rfl rfl ?_ (fun w' hw'=>?_) ?_;rotate_left;· (have hb':=Has.world hw';(skip);clear hw';go_simp;try rfl))
     refine wpF_nil (fun w5 hb5 hF5=>?_);clear hF5 HS1;have LH:=qh (LH.o.of_block (hb5.block _ LH.o.lt));have LT:=qh (LT.o.trans (Touch.of_below (hb5.mono zj)));have LO:=qh (fun j hj=>(LO.o j hj).below hb5)
     have hcq:∀ q,q<n*8->w5.cell? ⟨g,q,none⟩=some (OO2 i q):=fun q hq=>(hb5.cell (p:=⟨g,q,none⟩) hglt).trans (HCO.o q hq)
     have s0:=hcq (t*8) (by omega);have s1:=hcq (t*8+1) (by omega);have s2:=hcq (t*8+2) (by omega);have s3:=hcq (t*8+3) (by omega);have s4:=hcq (t*8+4) (by omega);have s5:=hcq (t*8+5) (by omega);have s6:=hcq (t*8+6) (by omega);have s7:=hcq (t*8+7) (by omega)
     have hfz:=fun q=>(hb5.frozen (p:=⟨g,q,none⟩) hglt).trans (hfz q)
     have hg5:g<w5.heap.size:=Nat.lt_of_lt_of_le hglt hb5.size;have ST:=qh (ownT_step (m:=mc (ν i)) HD.o LO.o hi hg (by rw[<- EN.o];exact ht));clear hb5 hcq HCO;go_wp2_with fail
     go_roundw
     case rel =>
      refine⟨t+1,by omega,by go_num,?_,?_,_,ST.o,?_,?_⟩
      ·exact rowIs_put8 LH.o (by omega) t (mc (ν i))
      ·exact LT.o.put8 (Or.inl ⟨i,hi,_,hg,rfl⟩) t (mc (ν i))
      ·intro j hj c hc;rw[if_neg (by omega)];exact LM.o.1 j hj c hc
      ·intro c hc;rw[if_pos rfl];unfold updT;by_cases e:c/8=t
       ·rw[if_pos e]
       ·rw[if_neg e];exact LM.o.2 c (by omega)
     case measure=>simp[intOf];omega
    ·obtain rfl:t=n:=by omega
     go_wp2_with fail
     go_roundw
     case rel =>
      refine⟨i+1,by omega,by go_num,LT.o,OO2,LO.o,fun j hj c hc=>?_⟩;by_cases e:j=i
      ·subst e;exact LM.o.2 c (by rw[EN.o];exact hc)
      ·exact LM.o.1 j (by omega) c hc
     case measure=>simp[intOf];omega
  ·obtain rfl:i=k:=by omega
   go_wp2_with fail
   (try simp only[Exit.inBlock,Exit.then])
   refine bodyPost_end (results_none rfl _ _ _) rfl ?_;exact⟨⟨_,rfl⟩,KT.o,fun j hj=>(KO.o j hj).congr fun c hc=>KM.o j hj c hc⟩
end Book
namespace Limb
open Go.RowKit Go.Sort Go.Fresh
theorem field_num (s:Bool) (a:Option Addr) (n c:Nat) (w:World):(Instr.field 30 (numV s a n c) 1).run Tryz.prog w=.ok (.slice a n c) w:=by kernel_rfl
theorem nat_sum {o:Nat->Int} {n:Nat} (h:Dig o n):(((sumB o n).toNat:Nat):Int)=sumB o n:=by have:=(sumB_bd h).1;omega
theorem below_any (a b:Option Addr) (na ca nb cb:Nat) (oa ob:Nat->Int) (often:Int) (w:World) (ha:Rd w a na oa) (hb:Rd w b nb ob) (da:Dig oa na) (db:Dig ob nb) (hna:na<=200000000) (hnb:nb<=200000000) (ho:0<=often/\often<=999999999) :
  Calls Tryz.prog 251 #[.slice a na ca,.slice b nb cb,.int .u64 often] w fun e w'=>e=.returned (.bool (decide (sumB oa na<sumB ob nb*often)))/\Below w.heap.size w w':=by
 obtain⟨X,hX⟩:∃ X,X=(sumB oa na).toNat:=⟨_,rfl⟩;obtain⟨Y,hY⟩:∃ Y,Y=(sumB ob nb*often).toNat:=⟨_,rfl⟩
 have eX:(X:Int)=sumB oa na:=by rw[hX];exact nat_sum da
 have eY:(Y:Int)=sumB ob nb*often:=by
  have:=Int.mul_nonneg (sumB_bd db).1 ho.1;omega
 rw[<- eX,<- eY];have u1:=IntWalk.u32_in often (by omega);have CL:=qh (clone_any a na ca oa w ha (by omega));have WD:=qh (fun (w':World) (h:Below w.heap.size w w')=>wide_any b nb cb ob often w' (hb.below h) db hnb ho);rw[<- eY] at WD;have DA:=qh da;have HE:=qh eX.symm;have lX:=qh (show lenB X<=na by rw[hX];exact lenB_le_of da);obtain⟨LX,hLX⟩:∃ LX,LX=lenB X:=⟨_,rfl⟩;have HLX:=qh hLX;clear ha hb da db hX hY eX eY hLX;have hfld:=field_num;go_enter Tryz.func251,Tryz.ntmps251;go_wp2_with fail
 refine CL.o.mono ?_;rintro e w1 ⟨a1,c1,rfl,hO,hn,hb1⟩;have HO:=qh hO;have G1:=qh hb1;have CU:=qh (cut_any false a1 na c1 oa w1 hO.rd DA.o (by omega) hO.le hn);rw[show(sumB oa na).toNat=X by have:=HE.o;omega,Bool.false_and,<- HLX.o] at CU;clear hO hb1 hn CL;go_wp2_with fail
 refine CU.o.mono ?_;rintro e w2 ⟨rfl,hb2⟩;have RX:=qh (own_fit (HO.o.below hb2) DA.o HE.o).rd;have G2:=qh (G1.o.trans (hb2.mono G1.o.size));clear hb2 CU G1;go_wp2_with fail
 refine(WD.o _ G2.o).mono ?_;rintro e w3 ⟨g,p,rfl,hd,hs,hO,hb3⟩;have HP:=qh hO;have HD:=qh (And.intro hd hs);have G3:=qh (G2.o.trans (hb3.mono G2.o.size));have RX:=qh (RX.o.below hb3);have CU:=qh (cut_any false (some ⟨g,0,none⟩) (nb+1) (nb+1) p w3 hO.rd hd (by omega) zj (fun h=>by cases h));obtain⟨LY,hLY⟩:∃ LY,LY=lenB Y:=⟨_,rfl⟩;rw[show(sumB p (nb+1)).toNat=Y by omega,Bool.false_and,<- hLY] at CU
 have lY:=qh (show lenB Y<=nb+1 by
  have:=lenB_le_of hd
  rwa [show(sumB p (nb+1)).toNat=Y by omega] at this)
 have HLY:=qh hLY;clear hO hb3 WD G2 hd hs hLY;go_wp2_with fail
 refine CU.o.mono ?_;rintro e w4 ⟨rfl,hb4⟩;have AM:=qh (amounts_any X Y a1 (some ⟨g,0,none⟩) (lenB X) (lenB Y) w4 (RX.o.below hb4) (own_fit (HP.o.below hb4) HD.o.1 HD.o.2).rd (by have:=lX.o;omega) (by have:=lY.o;omega));rw[<- HLX.o,<- HLY.o] at AM;have G4:=qh (G3.o.trans (hb4.mono G3.o.size));clear hb4 CU G3;go_wp2_with fail
 refine AM.o.mono ?_;rintro e w5 ⟨rfl,m,rfl⟩
 have E:decide (cmpZ (X:Int) (Y:Int)<0)=decide ((X:Int)<(Y:Int)):=by
  refine decide_eq_decide.2 ?_
  rcases Int.lt_trichotomy (X:Int) (Y:Int) with h | h | h
  ·rw[cmpZ_lt h];omega
  ·rw[cmpZ_eq h];omega
  ·rw[cmpZ_gt h];omega
 have HEq:=qh E;clear E AM;go_wp2;go_ret;exact⟨by rw[<- HEq.o];rfl,bdrewN G4.o m⟩
end Limb
namespace Book
open Go.RowKit Go.Sort Go.Fresh Limb
theorem mk_rngL {j:Nat} (h:j<=30000):0<=mk j/\mk j<=4294967295:=by unfold mk;omega
theorem markL_any (j:Nat) (w:World) (h:j<=30000):Calls Tryz.prog 118 #[.int .i64 ((j:Int)+1)] w fun e w'=>e=.returned (.int .u32 (mk j))/\w'=w:=by
 have e1:=IntWalk.i64_in (1000+((j:Int)+1)) (by omega);have e2:=IntWalk.u32_in (1000+((j:Int)+1)) (by omega)
 have e3:1000+((j:Int)+1)=mk j:=by unfold mk;omega
 go_enter Tryz.func118,Tryz.ntmps118;go_wp2;go_ret;exact⟨rfl,rfl⟩
theorem isL_any (x:Int) (j:Nat) (w:World) (h:j<=30000):Calls Tryz.prog 130 #[.int .u32 x,.int .i64 ((j:Int)+1)] w fun e w'=>e=.returned (.bool (x==mk j))/\w'=w:=by
 have e1:=IntWalk.i64_in (1000+((j:Int)+1)) (by omega);have e2:=IntWalk.u32_in (1000+((j:Int)+1)) (by omega)
 have e3:1000+((j:Int)+1)=mk j:=by unfold mk;omega
 go_enter Tryz.func130,Tryz.ntmps130;go_wp2;go_ret;exact⟨rfl,rfl⟩
def ArrL (ν:Nat->Nat) (w:World) (vb k:Nat) (A:Nat->Option Addr) (N C:Nat->Nat) (X:Nat->Value):Prop :=
 ∃ m f,w.rowIs vb 127 m f/\∀ j,j<k->3*j+2<m/\f (3*j)=.slice (A j) (N j) (C j)/\f (3*j+1)=X j/\f (3*j+2)=.int .i64 ((ν j:Int)+1)
theorem ArrL.cells {ν:Nat->Nat} {w:World} {vb k:Nat} {A:Nat->Option Addr} {N C:Nat->Nat} {X:Nat->Value} (h:ArrL ν w vb k A N C X) {j:Nat} (hj:j<k) :
  w.cell? ⟨vb,j*3,none⟩=some (.slice (A j) (N j) (C j))/\w.cell? ⟨vb,j*3+1,none⟩=some (X j)/\w.cell? ⟨vb,j*3+2,none⟩=some (.int .i64 ((ν j:Int)+1))/\(∀ i,w.frozen? ⟨vb,i,none⟩=false)/\vb<w.heap.size:=by
 obtain⟨m,f,hR,hE⟩:=h;obtain⟨h1,h2,h3,h4⟩:=hE j hj;rw[Nat.mul_comm j 3];exact⟨by rw[<- h2];exact hR.cell (by omega),by rw[<- h3];exact hR.cell (by omega),by rw[<- h4];exact hR.cell (by omega),hR.frozen,hR.lt⟩
theorem ArrL.keep {ν:Nat->Nat} {w w':World} {vb k:Nat} {A:Nat->Option Addr} {N C:Nat->Nat} {X:Nat->Value} (h:ArrL ν w vb k A N C X) (e:w'.heap[vb]?=w.heap[vb]?):ArrL ν w' vb k A N C X:=by
 obtain⟨m,f,hR,hE⟩:=h;exact⟨m,f,hR.of_block e,hE⟩
theorem ArrL.lt {ν:Nat->Nat} {w:World} {vb k:Nat} {A:Nat->Option Addr} {N C:Nat->Nat} {X:Nat->Value} (h:ArrL ν w vb k A N C X):vb<w.heap.size:=by
 obtain⟨m,f,hR,hE⟩:=h;exact hR.lt
theorem ArrL.setLong {ν:Nat->Nat} {w:World} {vb k:Nat} {A:Nat->Option Addr} {N C:Nat->Nat} {X:Nat->Value} (h:ArrL ν w vb k A N C X) (i:Nat) (v:Value):ArrL ν (w.setCell ⟨vb,i*3+1,none⟩ v) vb k A N C (fun j=>if j=i then v else X j):=by
 obtain⟨m,f,hR,hE⟩:=h;refine⟨m,_,hR.set (i*3+1) v,fun j hj=>?_⟩;obtain⟨h1,h2,h3,h4⟩:=hE j hj;refine⟨h1,?_,?_,?_⟩
 ·rw[if_neg (by omega)];exact h2
 ·show(if 3*j+1=i*3+1 then v else f (3*j+1))=if j=i then v else X j
  by_cases e:j=i
  ·subst e;rw[if_pos (by omega),if_pos rfl]
  ·rw[if_neg (by omega),if_neg e];exact h3
 ·rw[if_neg (by omega)];exact h4
theorem ArrL.congr {ν:Nat->Nat} {w:World} {vb k:Nat} {A:Nat->Option Addr} {N C:Nat->Nat} {X Y:Nat->Value} (h:ArrL ν w vb k A N C X) (e:∀ j,j<k->X j=Y j):ArrL ν w vb k A N C Y:=by
 obtain⟨m,f,hR,hE⟩:=h;exact⟨m,f,hR,fun j hj=>by rw[<- e j hj];exact hE j hj⟩
theorem fillL_any (b vb k cap:Nat) (A:Nat->Option Addr) (N C:Nat->Nat) (O:Nat->Nat->Int) (f:Nat->Value) (ν:Nat->Nat) (w:World) (hk:k<=30000) (hν:∀ j,j<k->ν j<=30000) (hB:w.rowIs b 59 13 f) (hf:f 2=.slice (some ⟨vb,0,none⟩) k cap)
  (hA:ArrL ν w vb k A N C (fun _=>.slice none 0 0)) (hO:∀ j,j<k->Own 128 w 0 (A j) (N j) (C j) (O j)) (hN:∀ j,j<k->N j<=1000000000) (hS:¬UA k A b/\¬UA k A vb) (hD:Part k A) :
  Calls Tryz.prog 46 #[.pointer (some ⟨b,0,none⟩)] w fun e w'=>(∃ v,e=.returned v)/\Touch (UA k A) w w'/\∀ j,j<k->Own 128 w' 0 (A j) (N j) (C j) (fun _=>mk (ν j)):=by
 have HF:=qh hf;have HNU:=qh hν;have HB:=qh hB;have HA:=qh hA;have HO:=qh hO;have HS:=qh hS;have HD:=qh hD;have HN:=qh hN;clear hB hA hO hS hD hN hf hν;go_enter Tryz.func46,Tryz.ntmps46;go_wp2_with fail
 go_loopw [2] (fun v wr=>∃ i:Nat,i<=k/\v=.int .i64 i/\Touch (UA k A) w wr/\∃ OO:Nat->Nat->Int,(∀ j,j<k->Own 128 wr 0 (A j) (N j) (C j) (OO j))/\∀ j,j<i->∀ c,c<N j->OO j c=mk (ν j)) (fun v _=>k-(intOf v).toNat)
 case atStart=>exact⟨0,by omega,rfl,Touch.refl _ _,O,HO.o,fun j hj=>by omega⟩
 case round =>
  obtain⟨w1,rfl⟩:∃ w1,w1=wr:=⟨_,rfl⟩;obtain⟨i,hik,rfl,hT,OO,hOO,hM⟩:=hrel;have KT:=qh hT;have KO:=qh hOO;have KM:=qh hM;have KB:=qh (HB.o.of_block (hT.block _ HB.o.lt HS.o.1));have KA:=qh (HA.o.keep (hT.block _ HA.o.lt HS.o.2));clear hT hOO hM
  have b2:w1.cell? ⟨b,2,none⟩=some (.slice (some ⟨vb,0,none⟩) k cap):=by rw[<- HF.o];exact KB.o.cell (i:=2) (by omega)
  by_cases hi:i<k
  ·obtain⟨a0,a1,a2,-,hvb⟩:=KA.o.cells hi;obtain⟨a,ha⟩:∃ a,a=A i:=⟨_,rfl⟩;obtain⟨n,hn⟩:∃ n,n=N i:=⟨_,rfl⟩;obtain⟨c,hc⟩:∃ c,c=C i:=⟨_,rfl⟩;rw[<- ha,<- hn,<- hc] at a0;have EA:=qh ha;have EN:=qh hn;have EC:=qh hc
   have hnb:n<=1000000000:=by rw[hn];exact HN.o i hi
   clear ha hn hc;go_wp2_with fail
   go_loopw [4] (fun v wr2=>∃ t:Nat,t<=n/\v=.int .i64 t/\wr2.rowIs w1.heap.size 127 3 (hcell a n c (.slice none 0 0) ((ν i:Int)+1))/\Touch (UA k A) w wr2 /\
    ∃ OO:Nat->Nat->Int,(∀ j,j<k->Own 128 wr2 0 (A j) (N j) (C j) (OO j))/\(∀ j,j<i->∀ c,c<N j->OO j c=mk (ν j))/\∀ c,c<t->OO i c=mk (ν i)) (fun v _=>n-(intOf v).toNat)
   case atStart =>
    refine⟨0,by omega,rfl,?_,KT.o.alloc _,OO,fun j hj=>(KO.o j hj).below (zk.alloc zj _),KM.o,fun c hc=>by omega⟩
    have h:=World.rowIs_alloc w1 #[Value.slice a n c,Value.slice none 0 0,Value.int IntKind.i64 ((ν i:Int)+1)] 127 (hcell a n c (.slice none 0 0) ((ν i:Int)+1)) (fun q hq=>by
     match q,hq with
     | 0,_=>rfl
     | 1,_=>rfl
     | 2,_=>rfl)
    exact h
   case round =>
    obtain⟨t,htn,rfl,hH,hT2,OO2,hOO2,hM2,hM3⟩:=hrel;have LT:=qh hT2;have LO:=qh hOO2;have LM:=qh (And.intro hM2 hM3);have LH:=qh hH;have hwr:w.heap.size<=w1.heap.size:=KT.o.size;have hc0:wr.cell? ⟨w1.heap.size,0,none⟩=some (.slice a n c):=hH.cell (i:=0) (by omega);have hc2:wr.cell? ⟨w1.heap.size,2,none⟩=some (.int .i64 ((ν i:Int)+1)):=hH.cell (i:=2) (by omega);clear hH hT2 hOO2 hM2 hM3;by_cases ht:t<n
    ·obtain⟨g,hg⟩:=(LO.o i hi).some_of_pos (by rw[<- EN.o];omega);obtain rfl:=EA.o.trans hg;have hO:=LO.o i hi;rw[<- EA.o,<- EN.o] at hO;obtain⟨vo,hco⟩:∃ vo,wr.cell? ⟨g,t,none⟩=some vo:=⟨_,hO.cell ht⟩;have hfz:=hO.fz;have hglt:=(hO.blk rfl).2.2;have hgw:g<w.heap.size:=((HO.o i hi).blk hg).2.2;have HS1:=qh (fun (w':World) (hb:Below wr.heap.size wr w')=>And.intro ((hb.cell (p:=⟨w1.heap.size,0,none⟩) LH.o.lt).trans hc0) ((hb.cell (p:=⟨w1.heap.size,2,none⟩) LH.o.lt).trans hc2));have hlt:w1.heap.size<wr.heap.size:=LH.o.lt;clear hO;go_wp2_with fail
     refine wp_region_fresh 7 (spOf [(5,Sp.know (.int .u32 (mk (ν i))))]) (fun w'=>Below wr.heap.size wr w') (by kernel_rfl) (by kernel_rfl)
      (spOf_cons (Sp.know_keeps _) spOf_nil) (fun _ _ h hb=>h.trans (hb.mono h.size)) (zk.drew) ?_
     simp only[zx,zy,zv,zw]
     iterate 5
      (refine wpF_reads rfl rfl ?_ (fun w' hw'=>?_) ?_;rotate_left;· (have hb':=Has.world hw';(have hs:=HS1.o _ hb');clear hw';go_simp;try rfl))
     (refine wpF_spec rfl rfl (fun w' hw'=>?_) ?_;· (have hb':=Has.world hw';go_simp;((refine(markL_any (ν i) w' (HNU.o i hi)).mono ?_;rintro e w'' ⟨rfl,rfl⟩;exact⟨_,rfl,rfl,zk⟩))))
     rintro _ rfl
     (refine wpF_reads rfl rfl ?_ (fun w' hw'=>?_) ?_;rotate_left;· (have hb':=Has.world hw';(skip);clear hw';go_simp;try rfl))
     refine wpF_nil (fun w5 hb5 hF5=>?_);clear hF5 HS1;have LH:=qh (LH.o.of_block (hb5.block _ LH.o.lt));have LT:=qh (LT.o.trans (Touch.of_below (hb5.mono zj)));have LO:=qh (fun j hj=>(LO.o j hj).below hb5);have hco:=(hb5.cell (p:=⟨g,t,none⟩) hglt).trans hco
     have hfz:=fun q=>(hb5.frozen (p:=⟨g,q,none⟩) hglt).trans (hfz q)
     have ST:=qh (own_step HD.o LO.o hi hg (by rw[<- EN.o];exact ht) (mk_rngL (HNU.o i hi)));clear hb5;go_wp2_with fail
     go_roundw
     case rel =>
      refine⟨t+1,by omega,by go_num,LH.o.setOther (by dsimp only;omega) _,LT.o.setCell (p:=⟨g,t,none⟩) (Or.inl ⟨i,hi,_,hg,rfl⟩) _,_,ST.o,?_,?_⟩
      ·intro j hj c hc;rw[if_neg (by omega)];exact LM.o.1 j hj c hc
      ·intro c hc;rw[if_pos rfl];by_cases e:c=t
       ·subst e;exact upd_same _ _ _
       ·rw[upd_ne _ _ e];exact LM.o.2 c (by omega)
     case measure=>simp[intOf];omega
    ·obtain rfl:t=n:=by omega
     go_wp2_with fail
     go_roundw
     case rel =>
      refine⟨i+1,by omega,by go_num,LT.o,OO2,LO.o,fun j hj c hc=>?_⟩;by_cases e:j=i
      ·subst e;exact LM.o.2 c (by rw[EN.o];exact hc)
      ·exact LM.o.1 j (by omega) c hc
     case measure=>simp[intOf];omega
  ·obtain rfl:i=k:=by omega
   go_wp2_with fail
   (try simp only[Exit.inBlock,Exit.then])
   refine bodyPost_end (results_none rfl _ _ _) rfl ?_;exact⟨⟨_,rfl⟩,KT.o,fun j hj=>(KO.o j hj).congr fun c hc=>KM.o j hj c hc⟩
structure GrowOL (ν:Nat->Nat) (w wr:World) (vb k:Nat) (A:Nat->Option Addr) (N C:Nat->Nat) (i:Nat) (LA:Nat->Option Addr) (LC:Nat->Nat):Prop where
 tch:Touch (fun g=>UA k A g\/g=vb) w wr
 arr:ArrL ν wr vb k A N C (fun j=>if j<i then .slice (LA j) (N j+40) (LC j) else .slice none 0 0)
 own:∀ j,j<k->Own 128 wr 0 (A j) (N j) (C j) (fun _=>mk (ν j))
 lng:∀ j,j<i->Own 128 wr 0 (LA j) (N j+40) (LC j) (fun _=>mk (ν j))/\(LA j=A j\/∃ g,LA j=some ⟨g,0,none⟩/\w.heap.size<=g)
theorem growL_round {ν:Nat->Nat} {w w1 wr:World} {vb k i c:Nat} {A LA:Nat->Option Addr} {N C LC:Nat->Nat} {a:Option Addr} {hv:Nat->Value} (GO:GrowOL ν w w1 vb k A N C i LA LC) (hi:i<k) (G:GrowI w1 wr (ν i) (N i) (A i) (C i) 40 a c hv)
  (hS:¬UA k A vb) (hD:Part k A) (hvb:vb<w.heap.size) (hA:∀ j,j<k->∀ p,A j=some p->p.block<w.heap.size) :
  GrowOL ν w (wr.setCell ⟨vb,i*3+1,none⟩ (.slice a (N i+40) c)) vb k A N C (i+1) (fun j=>if j=i then a else LA j) (fun j=>if j=i then c else LC j):=by
 have hsz:=GO.tch.size
 have hnv:∀ j,j<k->∀ p,A j=some p->p.block≠vb:=fun j hj p hp e=>hS ⟨j,hj,p,hp,e⟩
 refine⟨?_,?_,fun j hj=>?_,fun j hj=>?_⟩
 ·exact(GO.tch.trans (G.tch.weak fun q _ ⟨p,hp,e⟩=>Or.inl ⟨i,hi,p,hp,e⟩)).setCell (p:=⟨vb,i*3+1,none⟩) (Or.inl (Or.inr rfl)) _
 ·refine((GO.arr.keep (G.tch.block _ (by omega) (fun ⟨p,hp,e⟩=>hnv i hi p hp e))).setLong i _).congr fun j hj=>?_
  show(if j=i then _ else if j<i then _ else _)=(if j<i+1 then Value.slice (if j=i then a else LA j) _ (if j=i then c else LC j) else _);by_cases e:j=i
  ·subst e;rw[if_pos rfl,if_pos (by omega),if_pos rfl,if_pos rfl]
  ·rw[if_neg e,if_neg e,if_neg e];by_cases h:j<i
   ·rw[if_pos h,if_pos (by omega)]
   ·rw[if_neg h,if_neg (by omega)]
 ·have h1:Own 128 wr 0 (A j) (N j) (C j) (fun _=>mk (ν j)):=by
   by_cases e:j=i
   ·subst e;exact G.old
   ·exact(GO.own j hj).keep fun p hp=>G.tch.block _ (by have:=hA j hj p hp;omega) (fun ⟨q,hq,e'⟩=>hD j hj i hi e p q hp hq e'.symm)
  exact h1.keep fun p hp=>Below.heap_setCell _ _ _ _ (hnv j hj p hp)
 ·by_cases e:j=i
  ·subst e;rw[if_pos rfl,if_pos rfl];refine⟨G.own.keep fun p hp=>Below.heap_setCell _ _ _ _ ?_,?_⟩
   ·rcases G.plc with ⟨h,_⟩ | ⟨g,h,hlt⟩
    ·exact hnv j hi p (h▸hp)
    ·rw[h] at hp;cases hp;dsimp only;omega
   ·rcases G.plc with ⟨h,_⟩ | ⟨g,h,hlt⟩
    ·exact .inl h
    ·exact .inr ⟨g,h,by omega⟩
  ·rw[if_neg e,if_neg e];obtain⟨h1,h2⟩:=GO.lng j (by omega)
   have hne:∀ p,LA j=some p->p.block≠vb/\∀ q,A i=some q->q.block≠p.block:=by
    intro p hp
    rcases h2 with h | ⟨g,h,hlt⟩
    ·rw[h] at hp;exact⟨hnv j (by omega) p hp,fun q hq e'=>hD j (by omega) i hi e p q hp hq e'.symm⟩
    ·rw[h] at hp;cases hp
     exact⟨by dsimp only;omega,fun q hq=>by have:=hA i hi q hq;dsimp only;omega⟩
   refine⟨(h1.keep fun p hp=>G.tch.block _ (h1.blk hp).2.2 (fun ⟨q,hq,e'⟩=>(hne p hp).2 q hq e')).keep fun p hp=>Below.heap_setCell _ _ _ _ (hne p hp).1,h2⟩
theorem growL_any (b vb k cap:Nat) (A:Nat->Option Addr) (N C:Nat->Nat) (f:Nat->Value) (ν:Nat->Nat) (w:World) (hk:k<=30000) (hν:∀ j,j<k->ν j<=30000) (hB:w.rowIs b 59 13 f) (hf:f 2=.slice (some ⟨vb,0,none⟩) k cap)
  (hA:ArrL ν w vb k A N C (fun _=>.slice none 0 0)) (hO:∀ j,j<k->Own 128 w 0 (A j) (N j) (C j) (fun _=>mk (ν j))) (hN:∀ j,j<k->N j<=900000000) (hS:¬UA k A b/\¬UA k A vb) (hD:Part k A) (hbv:b≠vb) :
  Calls Tryz.prog 58 #[.pointer (some ⟨b,0,none⟩)] w fun e w'=>(∃ v,e=.returned v)/\∃ LA LC,GrowOL ν w w' vb k A N C k LA LC:=by
 have HF:=qh hf;have HNU:=qh hν;have HB:=qh hB;have HA:=qh hA;have HO:=qh hO;have HS:=qh hS;have HD:=qh hD;have HN:=qh hN;have HV:=qh (And.intro hA.lt fun j hj p hp=>((hO j hj).blk (p:=p) hp).2.2);clear hB hA hO hS hD hN hf hν;go_enter Tryz.func58,Tryz.ntmps58;go_wp2_with fail
 go_loopw [2] (fun v wr=>∃ i:Nat,i<=k/\v=.int .i64 i/\∃ LA LC,GrowOL ν w wr vb k A N C i LA LC) (fun v _=>k-(intOf v).toNat)
 case atStart=>exact⟨0,by omega,rfl,fun _=>none,fun _=>0,Touch.refl _ _,HA.o.congr (fun j _=>by rw[if_neg (by omega)]),HO.o,fun j hj=>by omega⟩
 case round =>
  obtain⟨w1,rfl⟩:∃ w1,w1=wr:=⟨_,rfl⟩;obtain⟨i,hik,rfl,LA,LC,hG⟩:=hrel;have KG:=qh hG;have KB:=qh (HB.o.of_block (hG.tch.block _ HB.o.lt (fun h=>h.elim HS.o.1 (fun h=>hbv h))));clear hG
  have b2:w1.cell? ⟨b,2,none⟩=some (.slice (some ⟨vb,0,none⟩) k cap):=by rw[<- HF.o];exact KB.o.cell (i:=2) (by omega)
  by_cases hi:i<k
  ·obtain⟨a0,a1,a2,-,hvb⟩:=KG.o.arr.cells hi;rw[if_neg (by omega)] at a1;obtain⟨n,hn⟩:∃ n,n=N i:=⟨_,rfl⟩;obtain⟨ai,ha⟩:∃ ai,ai=A i:=⟨_,rfl⟩;obtain⟨ci,hc⟩:∃ ci,ci=C i:=⟨_,rfl⟩;rw[<- ha,<- hn,<- hc] at a0
   have hnb:n<=900000000:=by rw[hn];exact HN.o i hi
   have EA:=qh ha;have EN:=qh hn;have EC:=qh hc
   have G0:=qh (show GrowI w1 (w1.alloc (.cells #[.slice ai n ci,.slice none 0 0,.int .i64 ((ν i:Int)+1)] 127)) (ν i) n ai ci 0 ai ci (hcell ai n ci (.slice none 0 0) ((ν i:Int)+1)) from by
    have h1:=KG.o.own i hi;rw[<- ha,<- hn,<- hc] at h1;have h2:=h1.below (zk.alloc zj (.cells #[.slice ai n ci,.slice none 0 0,.int .i64 ((ν i:Int)+1)] 127))
    exact⟨h2,h2,.inl ⟨rfl,rfl⟩,World.rowIs_alloc w1 #[Value.slice ai n ci,Value.slice none 0 0,Value.int IntKind.i64 ((ν i:Int)+1)] 127 (hcell ai n ci (.slice none 0 0) ((ν i:Int)+1)) (fun q hq=>by
     match q,hq with
     | 0,_=>rfl
     | 1,_=>rfl
     | 2,_=>rfl),(Touch.refl _ _).alloc _,fun p hp=>(h1.blk hp).2.2⟩)
   clear ha hn hc;go_wp2_with fail
   go_loopw [4,5] (fun v u wr=>∃ t:Nat,t<=40/\u=.int .i64 t/\∃ a c,v=.slice a (n+t) c/\GrowI w1 wr (ν i) n ai ci t a c (hcell ai n ci (.slice none 0 0) ((ν i:Int)+1))) (fun _ u _=>40-(intOf u).toNat)
   case atStart=>exact⟨0,by omega,rfl,ai,ci,rfl,G0.o⟩
   case round =>
    obtain⟨t,ht40,rfl,a,c,rfl,hI⟩:=hrel;have LI:=qh hI;have hc2:wr.cell? ⟨w1.heap.size,2,none⟩=some (.int .i64 ((ν i:Int)+1)):=hI.box.cell (i:=2) (by omega);have hlt:=hI.box.lt;clear hI;by_cases ht:t<40
    ·go_wp2_with (first
      | (go_at_call 118;refine(markL_any (ν i) _ (HNU.o i hi)).mono ?_;rintro e w2 ⟨rfl,hw2⟩;obtain rfl:=hw2.symm)
      | (at_builtin;refine wpList_push rfl _ _ rfl (by rfl) (LI.o.own.allocd _) (by omega) (Nat.zero_le _) (v:=mk (ν i)) (by rfl) ?c1 (mk_rngL (HNU.o i hi)) (by rfl) ?_))
     case c1=>simp
     intro a' c' w2 hown hcase;have NI:=qh (grow_step LI.o hown hcase);clear hown hcase;go_wp2_with fail
     go_roundw
     case rel=>exact⟨t+1,by omega,by go_num,a',c',rfl,NI.o⟩
     case measure=>simp[intOf];omega
    ·obtain rfl:t=40:=by omega
     have b3:=(LI.o.tch.block _ (show b<w1.heap.size from KB.o.lt) (fun ⟨p,hp,e⟩=>HS.o.1 ⟨i,hi,p,EA.o▸hp,e⟩))
     have b4:wr.cell? ⟨b,2,none⟩=some (.slice (some ⟨vb,0,none⟩) k cap):=by rw[<- HF.o];exact(KB.o.of_block b3).cell (i:=2) (by omega)
     have v3:=(KG.o.arr.keep (LI.o.tch.block _ (show vb<w1.heap.size from hvb) (fun ⟨p,hp,e⟩=>HS.o.2 ⟨i,hi,p,EA.o▸hp,e⟩))).cells hi;obtain⟨v30,v31,v32,v33,v34⟩:=v3;rw[if_neg (by omega)] at v31;have HG:=qh (growL_round KG.o hi (by rw[<- EA.o,<- EN.o,<- EC.o];exact LI.o) HS.o.2 HD.o HV.o.1 HV.o.2);rw[<- EN.o] at HG;clear b2 b3 a0 a1 a2 v30 v32;go_wp2_with fail
     go_roundw
     case rel=>exact⟨i+1,by omega,by go_num,_,_,HG.o⟩
     case measure=>simp[intOf];omega
  ·obtain rfl:i=k:=by omega
   go_wp2_with fail
   (try simp only[Exit.inBlock,Exit.then])
   refine bodyPost_end (results_none rfl _ _ _) rfl ?_;exact⟨⟨_,rfl⟩,LA,LC,KG.o⟩
theorem lookL_any (b vb k cap:Nat) (A LA:Nat->Option Addr) (N C LC:Nat->Nat) (f:Nat->Value) (ν:Nat->Nat) (w:World) (hk:k<=30000) (hν:∀ j,j<k->ν j<=30000) (hB:w.rowIs b 59 13 f) (hf:f 2=.slice (some ⟨vb,0,none⟩) k cap)
  (hA:ArrL ν w vb k A N C (fun j=>.slice (LA j) (N j+40) (LC j))) (hO:∀ j,j<k->Own 128 w 0 (A j) (N j) (C j) (fun _=>mk (ν j))) (hL:∀ j,j<k->Own 128 w 0 (LA j) (N j+40) (LC j) (fun _=>mk (ν j))) (hN:∀ j,j<k->N j<=900000000) :
  Calls Tryz.prog 70 #[.pointer (some ⟨b,0,none⟩)] w fun e w'=>e=.returned (.bool true)/\Below w.heap.size w w':=by
 have HF:=qh hf;have HNU:=qh hν;have HB:=qh hB;have HA:=qh hA;have HO:=qh hO;have HL:=qh hL;have HN:=qh hN;clear hB hA hO hL hN hf hν;go_enter Tryz.func70,Tryz.ntmps70;go_wp2_with fail
 go_loopw [3] (fun v wr=>∃ i:Nat,i<=k/\v=.int .i64 i/\Below w.heap.size w wr) (fun v _=>k-(intOf v).toNat)
 case atStart=>exact⟨0,by omega,rfl,zk⟩
 case round =>
  obtain⟨w1,rfl⟩:∃ w1,w1=wr:=⟨_,rfl⟩;obtain⟨i,hik,rfl,hG⟩:=hrel;have KG:=qh hG;have KB:=qh (HB.o.of_block (hG.block _ HB.o.lt));have KA:=qh (HA.o.keep (hG.block _ HA.o.lt));clear hG
  have b2:w1.cell? ⟨b,2,none⟩=some (.slice (some ⟨vb,0,none⟩) k cap):=by rw[<- HF.o];exact KB.o.cell (i:=2) (by omega)
  by_cases hi:i<k
  ·obtain⟨a0,a1,a2,-,hvb⟩:=KA.o.cells hi;have O1:=(HO.o i hi).below KG.o;have L1:=(HL.o i hi).below KG.o;obtain⟨n,hn⟩:∃ n,n=N i:=⟨_,rfl⟩;obtain⟨ai,ha⟩:∃ ai,ai=A i:=⟨_,rfl⟩;obtain⟨ci,hc⟩:∃ ci,ci=C i:=⟨_,rfl⟩;obtain⟨lc,hlc⟩:∃ lc,lc=LC i:=⟨_,rfl⟩;obtain⟨gq,hlg⟩:=L1.some_of_pos (by omega);rw[<- hlc,hlg,<- hn] at L1 a1;rw[<- ha,<- hn,<- hc] at a0 O1
   have hnb:n<=900000000:=by rw[hn];exact HN.o i hi
   have LO:=qh O1;have LL:=qh L1;obtain⟨W,hW⟩:∃ W,W=w1.alloc (.cells #[.slice ai n ci,.slice (some ⟨gq,0,none⟩) (n+40) lc,.int .i64 ((ν i:Int)+1)] 127):=⟨_,rfl⟩
   have R:=World.rowIs_alloc w1 #[Value.slice ai n ci,Value.slice (some ⟨gq,0,none⟩) (n+40) lc,Value.int IntKind.i64 ((ν i:Int)+1)] 127 (hcell ai n ci (.slice (some ⟨gq,0,none⟩) (n+40) lc) ((ν i:Int)+1)) (fun q hq=>by
     match q,hq with
     | 0,_=>rfl
     | 1,_=>rfl
     | 2,_=>rfl)
   rw[<- hW] at R;have WB:=qh (show Below w1.heap.size w1 W by rw[hW];exact zk.alloc zj _);have WR:=qh (show W.rowIs w1.heap.size 127 3 (hcell ai n ci (.slice (some ⟨gq,0,none⟩) (n+40) lc) ((ν i:Int)+1)) from R);have HW:=qh hW;have e40:=IntWalk.i64_in ((n:Int)+40) (by omega)
   have ec:((n+40:Nat):Int)=(n:Int)+40:=by omega
   clear ha hn hc hlc O1 L1 R hW hlg
   go_upto_region 5 with (fail)
   rw[show(w1.alloc (.cells #[.slice ai n ci,.slice (some ⟨gq,0,none⟩) (n+40) lc,.int .i64 ((ν i:Int)+1)] 127))=W from HW.o.symm];have h0:W.cell? ⟨w1.heap.size,0,none⟩=some (.slice ai n ci):=WR.o.cell (i:=0) (by omega);have h1:W.cell? ⟨w1.heap.size,1,none⟩=some (.slice (some ⟨gq,0,none⟩) (n+40) lc):=WR.o.cell (i:=1) (by omega);have h2:W.cell? ⟨w1.heap.size,2,none⟩=some (.int .i64 ((ν i:Int)+1)):=WR.o.cell (i:=2) (by omega);go_wp2_with fail
   go_loopw [5] (fun v wr=>∃ t:Nat,t<=n+40/\v=.int .i64 t/\∃ m,wr=W.drewN m) (fun v _=>n+40-(intOf v).toNat)
   case atStart=>exact⟨0,by omega,rfl,0,rfl⟩
   case round =>
    obtain⟨t,htn,rfl,hm⟩:=hrel;have HM:=qh hm
    have cw:∀ p,wr.cell? p=W.cell? p:=by obtain⟨m,rfl⟩:=hm;intro p;rfl
    clear hm;have g0:wr.cell? ⟨w1.heap.size,0,none⟩=some (.slice ai n ci):=(cw _).trans h0;have g1:wr.cell? ⟨w1.heap.size,1,none⟩=some (.slice (some ⟨gq,0,none⟩) (n+40) lc):=(cw _).trans h1;have g2:wr.cell? ⟨w1.heap.size,2,none⟩=some (.int .i64 ((ν i:Int)+1)):=(cw _).trans h2;have IS:=qh (fun (v1:World)=>isL_any (mk (ν i)) (ν i) v1 (HNU.o i hi));rw[show(mk (ν i)==mk (ν i))=true by simp] at IS;by_cases ht:t<n+40
    ·have c1:wr.cell? ⟨gq,t,none⟩=some (.int .u32 (mk (ν i))):=(cw _).trans ((LL.o.below WB.o).cell ht)
     have x1:(t:Int)<(n:Int)+40:=by omega
     by_cases ht2:t<n
     ·obtain⟨g,rfl⟩:=LO.o.some_of_pos (by omega);have c2:wr.cell? ⟨g,t,none⟩=some (.int .u32 (mk (ν i))):=(cw _).trans ((LO.o.below WB.o).cell ht2)
      have x2:(t:Int)<(n:Int):=by omega
      clear cw h0 h1 h2;go_wp2_with fail
      go_quiet (first | with_reducible exact quietOf (IS.o _));go_wp2_with fail
      go_roundw
      case rel=>exact⟨t+1,by omega,by go_num,by obtain⟨m,e⟩:=HM.o;exact⟨_,by rw[e,World.drewN_drewN]⟩⟩
      case measure=>simp[intOf];omega
     ·have x2:¬(t:Int)<(n:Int):=by omega
      clear cw h0 h1 h2;go_wp2_with fail
      go_quiet (first | with_reducible exact quietOf (IS.o _));go_wp2_with fail
      go_roundw
      case rel=>exact⟨t+1,by omega,by go_num,by obtain⟨m,e⟩:=HM.o;exact⟨_,by rw[e,World.drewN_drewN]⟩⟩
      case measure=>simp[intOf];omega
    ·have x1:¬(t:Int)<(n:Int)+40:=by omega
     obtain rfl:t=n+40:=by omega
     go_wp2_with fail
     go_roundw
     case rel=>exact⟨i+1,by omega,by go_num,by obtain⟨m,e⟩:=HM.o;rw[e];exact bdrewN (KG.o.trans (WB.o.mono KG.o.size)) _⟩
     case measure=>simp[intOf];omega
  ·obtain rfl:i=k:=by omega
   go_wp2_with fail
   go_ret;exact⟨rfl,KG.o⟩
theorem info8T:(Tryz.prog.info? 37).map (fun i=>(i.zero,i.size,i.bytes))=some (some (.agg #[.bool false,.slice none 0 0,.bool false,.slice none 0 0,.int .u16 0,.int .u16 0,.int .u16 0,.int .u16 0]),8,72):=by kernel_rfl
def vcs (F:Nat->Value) (k:Nat):List Value:=(List.range k).map F
theorem vcs_len (F:Nat->Value) (k:Nat):(vcs F k).length=k:=by unfold vcs;rw[List.length_map,List.length_range]
theorem vcs_get (F:Nat->Value) {k i:Nat} (h:i<k):(vcs F k)[i]?=some (F i):=by unfold vcs;rw[List.getElem?_map,List.getElem?_range h];rfl
theorem vcs_get' {F:Nat->Value} {k i:Nat} {v:Value} (h:(vcs F k)[i]?=some v):i<k/\v=F i:=by
 have hi:=(List.getElem?_eq_some_iff.1 h).1;rw[vcs_len] at hi;rw[vcs_get F hi] at h;exact⟨hi,(Option.some.inj h).symm⟩
def pushF (F:Nat->Value) (n:Nat) (m:Nat->Value) (i:Nat):Value:=if i<n*8 then F i else m (i-n*8)
theorem push_get {F:Nat->Value} {n:Nat} {m:Nat->Value} {i:Nat} (h:i<(n+1)*8):(vcs F (n*8)++vcs m 8)[i]?=some (pushF F n m i):=by
 unfold pushF;by_cases e:i<n*8
 ·rw[List.getElem?_append_left (by rw[vcs_len];exact e),vcs_get F e,if_pos e]
 ·rw[List.getElem?_append_right (by rw[vcs_len];omega),vcs_len,vcs_get m (by omega),if_neg e]
theorem pushT_any {w:World} {base:Nat} {a:Option Addr} {n cap:Nat} {F:Nat->Value} (h:OwnT w base a n cap F) (hn:n<=1000000000) (hb:base<=w.heap.size) {gs:Nat} {mm:Nat->Value} (hc:∀ i,i<8->w.cell? ⟨gs,i,none⟩=some (mm i)) (h1:∀ i,i<8->(mm i).oneCell'=true) (ty m c:Nat) (hm:m=1) :
  ∃ a' cap' w',(Builtin.append_ #[22,22] ty #[.slice a n cap,.slice (some ⟨gs,0,none⟩) m c]).run Tryz.prog w=.ok (.slice a' (n+1) cap') w'/\OwnT w' base a' (n+1) cap' (pushF F n mm) /\
   ((a'=a/\cap'=cap/\w.grownBy w' (a.map (·.block)))\/((∃ g,a'=some ⟨g,0,none⟩/\w.heap.size<=g)/\w.grownBy w' none/\cap<n+1)):=by
 subst hm;obtain⟨i0,hi,hz0,hz1,hz2⟩:=info_parts info8T
 have hnews:∀ j u,(vcs mm 8)[j]?=some u->w.cell? ((⟨gs,0,none⟩:Addr).add j)=some u:=by
  intro j u hj;obtain⟨h2,rfl⟩:=vcs_get' hj;rw[Addr.add_lit,Nat.zero_add];exact hc j h2
 have hone:∀ u∈vcs mm 8,u.oneCell'=true:=fun u hu=>by
  obtain⟨j,hj⟩:=List.mem_iff_getElem?.1 hu;obtain⟨h2,rfl⟩:=vcs_get' hj;exact h1 j h2
 have hzs:∀ k,(Builtin.zeroCells (Value.agg #[.bool false,.slice none 0 0,.bool false,.slice none 0 0,.int .u16 0,.int .u16 0,.int .u16 0,.int .u16 0]).cells k).size=k*8:=fun k=>by rw[size_zeroCells];rfl
 have grownOwn:∀ old,old<n+1->OwnT (w.drew.alloc (.cells ((vcs F (n*8)).toArray++(vcs mm 8).toArray++Builtin.zeroCells (Value.agg #[.bool false,.slice none 0 0,.bool false,.slice none 0 0,.int .u16 0,.int .u16 0,.int .u16 0,.int .u16 0]).cells (grownCap w (n+1) old 37-(n+1))) 37)) base (some ⟨w.heap.size,0,none⟩) (n+1) (grownCap w (n+1) old 37) (pushF F n mm) /\
   w.grownBy (w.drew.alloc (.cells ((vcs F (n*8)).toArray++(vcs mm 8).toArray++Builtin.zeroCells (Value.agg #[.bool false,.slice none 0 0,.bool false,.slice none 0 0,.int .u16 0,.int .u16 0,.int .u16 0,.int .u16 0]).cells (grownCap w (n+1) old 37-(n+1))) 37)) none:=by
  intro old ho;have hge:=grownCap_ge w (n+1) old 37;refine⟨⟨hge,Or.inr ⟨w.heap.size,_,rfl,hb,heap_alloc_new w.drew _,?_,fun i hi=>?_⟩⟩,⟨rfl,rfl,rfl,by simp,fun k hk _=>heap_alloc_old w.drew _ hk⟩⟩
  ·rw[Array.size_append,Array.size_append,List.size_toArray,List.size_toArray,vcs_len,vcs_len,hzs];omega
  ·rw[Array.getElem?_append_left (by rw[Array.size_append,List.size_toArray,List.size_toArray,vcs_len,vcs_len];omega),<- Array.getElem?_toList,Array.toList_append];exact push_get hi
 rcases h.place with ⟨rfl,rfl,rfl⟩ | ⟨g,cur,rfl,hbg,hg,hcap,hcc⟩
 ·have hr:=run_append_nil (P:=Tryz.prog) w 22 ty 37 i0 _ Tryz.underlying22 hi hz0 ⟨gs,0,none⟩ 1 c (vcs mm 8) (by rw[hz1,vcs_len]) hnews (by omega) (by omega) (by rw[hz2];omega);have hgr:=grownOwn 0 (by omega);simp only[Nat.zero_add,Nat.zero_mul,vcs,List.range_zero,List.map_nil,Array.empty_append] at hgr;exact⟨_,_,_,hr,hgr.1,Or.inr ⟨⟨_,rfl,zj⟩,hgr.2,by omega⟩⟩
 ·by_cases hroom:n+1<=cap
  ·have hr:=run_append_room (P:=Tryz.prog) w 22 ty 37 i0 Tryz.underlying22 hi g n cap cur hg ⟨gs,0,none⟩ 1 c (vcs mm 8) (by rw[hz1,vcs_len]) hnews hone hroom (by rw[hz1,vcs_len];omega);refine⟨_,_,_,hr,⟨hroom,Or.inr ⟨g,_,rfl,hbg,setRow_heap w g cur _ _ _ hg,?_,fun i hi=>?_⟩⟩,Or.inl ⟨rfl,rfl,⟨rfl,rfl,rfl,by simp,fun k _ hk=>setRow_other w g k _ (fun e=>hk (by simp[e]))⟩⟩⟩
   ·simp only[List.size_toArray,List.length_append,List.length_take,List.length_drop,Array.length_toList,vcs_len,hz1];omega
   ·rw[hz1,List.getElem?_toArray,List.append_assoc]
    have hlt:(cur.toList.take (n*8)).length=n*8:=by rw[List.length_take,Array.length_toList];omega
    unfold pushF;by_cases e:i<n*8
    ·rw[List.getElem?_append_left (by rw[hlt];exact e),List.getElem?_take,if_pos e,Array.getElem?_toList,hcc i e,if_pos e]
    ·rw[List.getElem?_append_right (by rw[hlt];omega),hlt,List.getElem?_append_left (by rw[vcs_len];omega),vcs_get mm (by omega),if_neg e]
  ·have holds:∀ j u,(vcs F (n*8))[j]?=some u->w.cell? ((⟨g,0,none⟩:Addr).add j)=some u:=by
    intro j u hj;obtain⟨hj1,rfl⟩:=vcs_get' hj;rw[Addr.add_lit,Nat.zero_add,cell_of_row _ _ _ _ _ _ hg];exact hcc j hj1
   have hle:=h.le;have hr:=run_append_grow (P:=Tryz.prog) w 22 ty 37 i0 _ Tryz.underlying22 hi hz0 ⟨g,0,none⟩ n cap (vcs F (n*8)) (by rw[vcs_len,hz1]) holds ⟨gs,0,none⟩ 1 c (vcs mm 8) (by rw[hz1,vcs_len]) hnews (by omega) (by omega) (growslice_fits (by omega) (by rw[hz2];omega));have hgr:=grownOwn cap (by omega);exact⟨_,_,_,hr,hgr.1,Or.inr ⟨⟨_,rfl,zj⟩,hgr.2,by omega⟩⟩
theorem wpList_pushT {ops:Array Oper} {rest:List Oper} {oo:Oper} {ac:Act} {Q:Exit->Act->World->Prop} (hgd:oo.guard=none) (s x:Operand)
  (ho:oo.op=.call { callee:=.builtin .append,args:=#[s,x],argTypes:=#[22,22] })
  {w:World} {base:Nat} {a:Option Addr} {n cap:Nat} {F:Nat->Value} (hs:ac.eval s=.slice a n cap) (h:OwnT w base a n cap F) (hn:n<=1000000000) (hb:base<=w.heap.size)
  {gs:Nat} {mm:Nat->Value} {m c:Nat} (hx:ac.eval x=.slice (some ⟨gs,0,none⟩) m c) (hc:∀ i,i<8->w.cell? ⟨gs,i,none⟩=some (mm i)) (h1:∀ i,i<8->(mm i).oneCell'=true) (hm:m=1)
  (hK:∀ a' cap' w',OwnT w' base a' (n+1) cap' (pushF F n mm)->((a'=a/\cap'=cap/\w.grownBy w' (a.map (·.block)))\/((∃ g,a'=some ⟨g,0,none⟩/\w.heap.size<=g)/\w.grownBy w' none/\cap<n+1)) ->
   wpList Tryz.prog ops Q rest (ac.put oo.dst (.slice a' (n+1) cap')) w'):wpList Tryz.prog ops Q (oo :: rest) ac w:=by
 refine wpList_plain hgd fun K hK'=>?_
 obtain⟨a',cap',w',hr,h2,h3⟩:=pushT_any h hn hb hc h1 oo.type m c hm;unfold Oper.wp execOp;simp only[ho,resolve,invoke,builtin,Sem.run_bind,Sem.run_pure,Result.andThen_ok,List.map_toArray,List.map_cons,List.map_nil,hs,hx,hr];exact hK' _ _ (hK _ _ _ h2 h3)
theorem ArrT.congr {ν:Nat->Nat} {w:World} {vb k:Nat} {A:Nat->Option Addr} {N C:Nat->Nat} {X Y:Nat->Value} (h:ArrT ν w vb k A N C X) (e:∀ j,j<k->X j=Y j):ArrT ν w vb k A N C Y:=by
 obtain⟨m,f,hR,hE⟩:=h;exact⟨m,f,hR,fun j hj=>by rw[<- e j hj];exact hE j hj⟩
def mcf (j:Nat):Nat->Value:=fun c=>mc j (c%8)
theorem mc_one (j i:Nat) (_:i<8):(mc j i).oneCell'=true:=by
 unfold mc
 split <;> rfl
theorem mc_cell (w:World) (j:Nat) {q:Nat} (h:q<8):(w.alloc (.cells #[.bool false,.slice none 0 0,.bool false,.slice none 0 0,.int .u16 ((j:Int)+2),.int .u16 0,.int .u16 0,.int .u16 0] 37)).cell? ⟨w.heap.size,q,none⟩=some (mc j q):=by
 rw[cell_of_row _ _ _ _ _ _ (heap_alloc_new w _)]
 match q,h with
 | 0,_=>rfl
 | 1,_=>rfl
 | 2,_=>rfl
 | 3,_=>rfl
 | 4,_=>rfl
 | 5,_=>rfl
 | 6,_=>rfl
 | 7,_=>rfl
structure GrowIT (w1 wr:World) (i n:Nat) (ai:Option Addr) (ci t:Nat) (a:Option Addr) (c:Nat) (hv:Nat->Value):Prop where
 own:OwnT wr 0 a (n+t) c (mcf i)
 old:OwnT wr 0 ai n ci (mcf i)
 plc:(a=ai/\c=ci)\/∃ g,a=some ⟨g,0,none⟩/\w1.heap.size<g
 box:wr.rowIs w1.heap.size 120 3 hv
 tch:Touch (fun g=>∃ p,ai=some p/\p.block=g) w1 wr
 olt:∀ p,ai=some p->p.block<w1.heap.size
theorem GrowIT.below {w1 wr w2:World} {i n t c ci:Nat} {a ai:Option Addr} {hv:Nat->Value} (G:GrowIT w1 wr i n ai ci t a c hv) (hb:Below wr.heap.size wr w2):GrowIT w1 w2 i n ai ci t a c hv :=
 ⟨G.own.below hb,G.old.below hb,G.plc,G.box.of_block (hb.block _ G.box.lt),G.tch.trans (Touch.of_below hb),G.olt⟩
theorem OwnT.less {w:World} {base:Nat} {a:Option Addr} {n cap L:Nat} {F:Nat->Value} (h:OwnT w base a n cap F) (hL:L<=n):OwnT w base a L cap F:=by
 refine⟨zm hL h.le,?_⟩
 rcases h.place with ⟨e0,h0,h1⟩ | ⟨g,cur,ha,hbg,hg,hcap,hc⟩
 ·exact Or.inl ⟨e0,by omega,h1⟩
 ·exact Or.inr ⟨g,cur,ha,hbg,hg,hcap,fun i hi=>hc i (by omega)⟩
theorem growT_step {w1 wr w2:World} {i n t c ci c':Nat} {a ai a':Option Addr} {hv:Nat->Value} {o:Obj} (G:GrowIT w1 wr i n ai ci t a c hv) (hown:OwnT w2 0 a' (n+t+1) c' (pushF (mcf i) (n+t) (mc i)))
  (hcase:(a'=a/\c'=c/\(wr.alloc o).grownBy w2 (a.map (·.block)))\/((∃ g,a'=some ⟨g,0,none⟩/\wr.heap.size+1<=g)/\(wr.alloc o).grownBy w2 none/\c<n+t+1)) :
  GrowIT w1 w2 i n ai ci (t+1) a' c' hv:=by
 have hown':OwnT w2 0 a' (n+(t+1)) c' (mcf i):=hown.congr fun q hq=>by unfold pushF mcf;split;rfl;rw[show q-(n+t)*8=q%8 by omega]
 have hsz:=G.tch.size;have hbx:=G.box.lt
 have oldw:OwnT (wr.alloc o) 0 ai n ci (mcf i):=G.old.keep fun p hp=>Below.heap_alloc _ _ _ (by have:=G.olt p hp;omega)
 have boxw:(wr.alloc o).rowIs w1.heap.size 120 3 hv:=G.box.alloc o;have tchw:=G.tch.alloc o
 rcases hcase with ⟨rfl,rfl,hg⟩ | ⟨⟨g,rfl,hlt⟩,hg,-⟩
 ·rcases G.plc with ⟨rfl,rfl⟩ | ⟨g,rfl,hlt⟩
  ·refine⟨hown',hown'.less (by omega),.inl ⟨rfl,rfl⟩,boxw.of_block (hg.block _ (by simp;omega) (fun e=>?_)),tchw.grown hg (fun q hq=>?_),G.olt⟩
   ·cases h:a' with
    | none=>rw[h] at e;cases e
    | some p=>rw[h] at e;simp at e;have:=G.olt p h;omega
   ·cases h:a' with
    | none=>rw[h] at hq;cases hq
    | some p=>rw[h] at hq;simp at hq;exact .inl ⟨p,rfl,hq⟩
  ·refine⟨hown',oldw.keep (fun p hp=>hg.block _ (by have:=G.olt p hp;simp;omega) (fun e=>by have:=G.olt p hp;simp at e;omega)),.inr ⟨g,rfl,hlt⟩,boxw.of_block (hg.block _ (by simp;omega) (fun e=>by simp at e;omega)),
    tchw.grown hg (fun q hq=>.inr (by simp at hq;omega)),G.olt⟩
 ·refine⟨hown',oldw.keep (fun p hp=>hg.block _ (by have:=G.olt p hp;simp;omega) (fun e=>by cases e)),.inr ⟨g,rfl,by omega⟩,boxw.of_block (hg.block _ (by simp;omega) (fun e=>by cases e)),
   tchw.grown hg (fun q hq=>by cases hq),G.olt⟩
structure GrowOT (ν:Nat->Nat) (w wr:World) (vb k:Nat) (A:Nat->Option Addr) (N C:Nat->Nat) (i:Nat) (LA:Nat->Option Addr) (LC:Nat->Nat):Prop where
 tch:Touch (fun g=>UA k A g\/g=vb) w wr
 arr:ArrT ν wr vb k A N C (fun j=>if j<i then .slice (LA j) (N j+40) (LC j) else .slice none 0 0)
 own:∀ j,j<k->OwnT wr 0 (A j) (N j) (C j) (mcf (ν j))
 lng:∀ j,j<i->OwnT wr 0 (LA j) (N j+40) (LC j) (mcf (ν j))/\(LA j=A j\/∃ g,LA j=some ⟨g,0,none⟩/\w.heap.size<=g)
theorem growT_round {ν:Nat->Nat} {w w1 wr:World} {vb k i c:Nat} {A LA:Nat->Option Addr} {N C LC:Nat->Nat} {a:Option Addr} {hv:Nat->Value} (GO:GrowOT ν w w1 vb k A N C i LA LC) (hi:i<k) (G:GrowIT w1 wr (ν i) (N i) (A i) (C i) 40 a c hv)
  (hS:¬UA k A vb) (hD:Part k A) (hvb:vb<w.heap.size) (hA:∀ j,j<k->∀ p,A j=some p->p.block<w.heap.size) :
  GrowOT ν w (wr.setCell ⟨vb,i*3+1,none⟩ (.slice a (N i+40) c)) vb k A N C (i+1) (fun j=>if j=i then a else LA j) (fun j=>if j=i then c else LC j):=by
 have hsz:=GO.tch.size
 have hnv:∀ j,j<k->∀ p,A j=some p->p.block≠vb:=fun j hj p hp e=>hS ⟨j,hj,p,hp,e⟩
 refine⟨?_,?_,fun j hj=>?_,fun j hj=>?_⟩
 ·exact(GO.tch.trans (G.tch.weak fun q _ ⟨p,hp,e⟩=>Or.inl ⟨i,hi,p,hp,e⟩)).setCell (p:=⟨vb,i*3+1,none⟩) (Or.inl (Or.inr rfl)) _
 ·refine((GO.arr.keep (G.tch.block _ (by omega) (fun ⟨p,hp,e⟩=>hnv i hi p hp e))).setLong i _).congr fun j hj=>?_
  show(if j=i then _ else if j<i then _ else _)=(if j<i+1 then Value.slice (if j=i then a else LA j) _ (if j=i then c else LC j) else _);by_cases e:j=i
  ·subst e;rw[if_pos rfl,if_pos (by omega),if_pos rfl,if_pos rfl]
  ·rw[if_neg e,if_neg e,if_neg e];by_cases h:j<i
   ·rw[if_pos h,if_pos (by omega)]
   ·rw[if_neg h,if_neg (by omega)]
 ·have h1:OwnT wr 0 (A j) (N j) (C j) (mcf (ν j)):=by
   by_cases e:j=i
   ·subst e;exact G.old
   ·exact(GO.own j hj).keep fun p hp=>G.tch.block _ (by have:=hA j hj p hp;omega) (fun ⟨q,hq,e'⟩=>hD j hj i hi e p q hp hq e'.symm)
  exact h1.keep fun p hp=>Below.heap_setCell _ _ _ _ (hnv j hj p hp)
 ·by_cases e:j=i
  ·subst e;rw[if_pos rfl,if_pos rfl];refine⟨G.own.keep fun p hp=>Below.heap_setCell _ _ _ _ ?_,?_⟩
   ·rcases G.plc with ⟨h,_⟩ | ⟨g,h,hlt⟩
    ·exact hnv j hi p (h▸hp)
    ·rw[h] at hp;cases hp;dsimp only;omega
   ·rcases G.plc with ⟨h,_⟩ | ⟨g,h,hlt⟩
    ·exact .inl h
    ·exact .inr ⟨g,h,by omega⟩
  ·rw[if_neg e,if_neg e];obtain⟨h1,h2⟩:=GO.lng j (by omega)
   have hne:∀ p,LA j=some p->p.block≠vb/\∀ q,A i=some q->q.block≠p.block:=by
    intro p hp
    rcases h2 with h | ⟨g,h,hlt⟩
    ·rw[h] at hp;exact⟨hnv j (by omega) p hp,fun q hq e'=>hD j (by omega) i hi e p q hp hq e'.symm⟩
    ·rw[h] at hp;cases hp
     exact⟨by dsimp only;omega,fun q hq=>by have:=hA i hi q hq;dsimp only;omega⟩
   refine⟨(h1.keep fun p hp=>G.tch.block _ (h1.blk hp).2.2 (fun ⟨q,hq,e'⟩=>(hne p hp).2 q hq e')).keep fun p hp=>Below.heap_setCell _ _ _ _ (hne p hp).1,h2⟩
theorem growT_any (b vb k cap:Nat) (A:Nat->Option Addr) (N C:Nat->Nat) (f:Nat->Value) (ν:Nat->Nat) (w:World) (hk:k<=30000) (hν:∀ j,j<k->ν j<=30000) (hB:w.rowIs b 59 13 f) (hf:f 6=.slice (some ⟨vb,0,none⟩) k cap)
  (hA:ArrT ν w vb k A N C (fun _=>.slice none 0 0)) (hO:∀ j,j<k->OwnT w 0 (A j) (N j) (C j) (mcf (ν j))) (hN:∀ j,j<k->N j<=100000000) (hS:¬UA k A b/\¬UA k A vb) (hD:Part k A) (hbv:b≠vb) :
  Calls Tryz.prog 62 #[.pointer (some ⟨b,0,none⟩)] w fun e w'=>(∃ v,e=.returned v)/\∃ LA LC,GrowOT ν w w' vb k A N C k LA LC:=by
 have HF:=qh hf;have HNU:=qh hν;have HB:=qh hB;have HA:=qh hA;have HO:=qh hO;have HS:=qh hS;have HD:=qh hD;have HN:=qh hN;have HV:=qh (And.intro hA.lt fun j hj p hp=>((hO j hj).blk (p:=p) hp).2.2);clear hB hA hO hS hD hN hf hν;go_enter Tryz.func62,Tryz.ntmps62;go_wp2_with fail
 go_loopw [2] (fun v wr=>∃ i:Nat,i<=k/\v=.int .i64 i/\∃ LA LC,GrowOT ν w wr vb k A N C i LA LC) (fun v _=>k-(intOf v).toNat)
 case atStart=>exact⟨0,by omega,rfl,fun _=>none,fun _=>0,Touch.refl _ _,HA.o.congr (fun j _=>by rw[if_neg (by omega)]),HO.o,fun j hj=>by omega⟩
 case round =>
  obtain⟨w1,rfl⟩:∃ w1,w1=wr:=⟨_,rfl⟩;obtain⟨i,hik,rfl,LA,LC,hG⟩:=hrel;have KG:=qh hG;have KB:=qh (HB.o.of_block (hG.tch.block _ HB.o.lt (fun h=>h.elim HS.o.1 (fun h=>hbv h))));clear hG
  have b2:w1.cell? ⟨b,6,none⟩=some (.slice (some ⟨vb,0,none⟩) k cap):=by rw[<- HF.o];exact KB.o.cell (i:=6) (by omega)
  by_cases hi:i<k
  ·obtain⟨a0,a1,a2,-,hvb⟩:=KG.o.arr.cells hi;rw[if_neg (by omega)] at a1;obtain⟨n,hn⟩:∃ n,n=N i:=⟨_,rfl⟩;obtain⟨ai,ha⟩:∃ ai,ai=A i:=⟨_,rfl⟩;obtain⟨ci,hc⟩:∃ ci,ci=C i:=⟨_,rfl⟩;rw[<- ha,<- hn,<- hc] at a0
   have hnb:n<=100000000:=by rw[hn];exact HN.o i hi
   have EA:=qh ha;have EN:=qh hn;have EC:=qh hc
   have G0:=qh (show GrowIT w1 (w1.alloc (.cells #[.slice ai n ci,.slice none 0 0,.int .i64 ((ν i:Int)+1)] 120)) (ν i) n ai ci 0 ai ci (hcell ai n ci (.slice none 0 0) ((ν i:Int)+1)) from by
    have h1:=KG.o.own i hi;rw[<- ha,<- hn,<- hc] at h1;have h2:=h1.below (zk.alloc zj (.cells #[.slice ai n ci,.slice none 0 0,.int .i64 ((ν i:Int)+1)] 120))
    exact⟨h2,h2,.inl ⟨rfl,rfl⟩,World.rowIs_alloc w1 #[Value.slice ai n ci,Value.slice none 0 0,Value.int IntKind.i64 ((ν i:Int)+1)] 120 (hcell ai n ci (.slice none 0 0) ((ν i:Int)+1)) (fun q hq=>by
     match q,hq with
     | 0,_=>rfl
     | 1,_=>rfl
     | 2,_=>rfl),(Touch.refl _ _).alloc _,fun p hp=>(h1.blk hp).2.2⟩)
   clear ha hn hc;go_wp2_with fail
   go_loopw [4,5] (fun v u wr=>∃ t:Nat,t<=40/\u=.int .i64 t/\∃ a c,v=.slice a (n+t) c/\GrowIT w1 wr (ν i) n ai ci t a c (hcell ai n ci (.slice none 0 0) ((ν i:Int)+1))) (fun _ u _=>40-(intOf u).toNat)
   case atStart=>exact⟨0,by omega,rfl,ai,ci,rfl,G0.o⟩
   case round =>
    obtain⟨t,ht40,rfl,a,c,rfl,hI⟩:=hrel;have LI:=qh hI;have hc2:wr.cell? ⟨w1.heap.size,2,none⟩=some (.int .i64 ((ν i:Int)+1)):=hI.box.cell (i:=2) (by omega);have hlt:=hI.box.lt;clear hI;by_cases ht:t<40
    ·go_wp2_with fail
     with_reducible refine(markT_any (ν i) wr (HNU.o i hi)).mono ?_
     rintro e w9 ⟨rfl,hb9⟩;have LI:=qh (LI.o.below hb9);have hc2:=(hb9.cell (p:=⟨w1.heap.size,2,none⟩) hlt).trans hc2;clear hb9
     go_wp2_with (first
      | (at_builtin;refine wpList_pushT rfl _ _ rfl (by rfl) (LI.o.own.below (zk.alloc zj _)) (by omega) (Nat.zero_le _) (mm:=mc (ν i)) (by rfl) ?c1 (mc_one (ν i)) (by rfl) ?_))
     case c1=>exact fun q hq=>mc_cell w9 (ν i) hq
     intro a' c' w2 hown hcase;have NI:=qh (growT_step LI.o hown hcase);clear hown hcase;go_wp2_with fail
     go_roundw
     case rel=>exact⟨t+1,by omega,by go_num,a',c',rfl,NI.o⟩
     case measure=>simp[intOf];omega
    ·obtain rfl:t=40:=by omega
     have b3:=(LI.o.tch.block _ (show b<w1.heap.size from KB.o.lt) (fun ⟨p,hp,e⟩=>HS.o.1 ⟨i,hi,p,EA.o▸hp,e⟩))
     have b4:wr.cell? ⟨b,6,none⟩=some (.slice (some ⟨vb,0,none⟩) k cap):=by rw[<- HF.o];exact(KB.o.of_block b3).cell (i:=6) (by omega)
     have v3:=(KG.o.arr.keep (LI.o.tch.block _ (show vb<w1.heap.size from hvb) (fun ⟨p,hp,e⟩=>HS.o.2 ⟨i,hi,p,EA.o▸hp,e⟩))).cells hi;obtain⟨v30,v31,v32,v33,v34⟩:=v3;rw[if_neg (by omega)] at v31;have HG:=qh (growT_round KG.o hi (by rw[<- EA.o,<- EN.o,<- EC.o];exact LI.o) HS.o.2 HD.o HV.o.1 HV.o.2);rw[<- EN.o] at HG;clear b2 b3 a0 a1 a2 v30 v32;go_wp2_with fail
     go_roundw
     case rel=>exact⟨i+1,by omega,by go_num,_,_,HG.o⟩
     case measure=>simp[intOf];omega
  ·obtain rfl:i=k:=by omega
   go_wp2_with fail
   (try simp only[Exit.inBlock,Exit.then])
   refine bodyPost_end (results_none rfl _ _ _) rfl ?_;exact⟨⟨_,rfl⟩,LA,LC,KG.o⟩
end Book
namespace Book
open Go.RowKit Go.Sort Go.FreshG Limb
def held (a:Option Addr) (n c k:Nat):List Value:=[.slice a n c,.slice none 0 0,.int .i64 ((k:Int)+1)]
structure Bk (w:World) (b base k:Nat) (v:Value) (xs:List Value):Prop where
 box:w.rowIs b 59 13 (bkf k v)
 row:w.ownsRow base 127 3 v k xs
 ne:v.ownBlock≠some b
def Row1 (w:World) (base k:Nat) (xs:List Value) (a:Option Addr) (n c:Nat) (x:Value):Prop:=w.ownsRow base 127 3 x (k+1) (xs++held a n c k)
def Gr (base k:Nat) (v:Value) (xs:List Value) (a:Option Addr) (n c:Nat) (w w':World):Prop :=
 Touch (fun g=>v.ownBlock=some g) w w'/\(w.ownsRow base 127 3 v k xs->w'.ownsRow base 127 3 v k xs)/\∀ x,Row1 w base k xs a n c x->Row1 w' base k xs a n c x
theorem Gr.refl (base k:Nat) (v:Value) (xs:List Value) (a:Option Addr) (n c:Nat) (w:World):Gr base k v xs a n c w w:=⟨Touch.refl _ _,fun h=>h,fun _ h=>h⟩
theorem Gr.grown {base k:Nat} {v:Value} {xs:List Value} {a:Option Addr} {n c:Nat} {w w':World} (h:w.grownBy w' none):Gr base k v xs a n c w w':=by
 refine⟨(Touch.refl _ _).grown h (fun _ h=>by cases h),fun hr=>hr.kept h ?_,fun x hr=>World.ownsRow.kept hr h ?_⟩
 ·cases hv:v.ownBlock
  ·exact .inl rfl
  ·exact .inr (by simp)
 ·cases hv:x.ownBlock
  ·exact .inl rfl
  ·exact .inr (by simp)
theorem Gr.alloc {base k:Nat} {v:Value} {xs:List Value} {a:Option Addr} {n c:Nat} (w:World) (o:Obj):Gr base k v xs a n c w (w.alloc o):=Gr.grown (World.grownBy_alloc w o none)
theorem take_mid {L news:List Value} {m d:Nat} (hm:m<=L.length) (hn:news.length=d):(L.take m++news++L.drop (m+d)).take (m+d)=L.take m++news:=by
 have h:(L.take m++news).length=m+d:=by simp[hn];omega
 rw[<- h];exact List.take_left
theorem gives_appendG {G:World->World->Prop} {P:Program} {o:Oper} {a:Act} {w w':World} {Post:Value->World->Prop} {v u r:Value} (s x:Operand) (t:TypeId)
  (ho:o.op=.call { callee:=.builtin .append,args:=#[s,x],argTypes:=#[t,t] }) (hs:a.eval s=v) (hx:a.eval x=u)
  (hr:(Builtin.append_ #[t,t] o.type #[v,u]).run P w=.ok r w') (hP:Post r w'/\G w w'):givesUpon P G w Post ((execOp a.eval o).run P w):=by
 unfold execOp;simp only[ho,resolve,invoke,builtin,Sem.run_bind,Sem.run_pure,Result.andThen_ok,List.map_toArray,List.map_cons,List.map_nil,hs,hx,hr];exact hP
theorem Bk.alloc {w:World} {b base k:Nat} {v:Value} {xs:List Value} (h:Bk w b base k v xs) (o:Obj):Bk (w.alloc o) b base k v xs:=⟨h.box.alloc o,h.row.alloc o,h.ne⟩
end Book
namespace Limb
open Go.RowKit Go.Sort Go.Fresh
theorem infoPart1:(Tryz.prog.info? 128).map (·.size)=some 1:=by kernel_rfl
theorem copy_own {w:World} {base gu L L' i m:Nat} {up r:Nat->Int} {a:Option Addr} (h:Own 128 w base (some ⟨gu,0,none⟩) L L' up) (hi:i+m<=L) (hm:0<m) (hr:Rd w a m r) (ty dcap scap:Nat) :
  ∃ v w',(Builtin.copy_ #[28,28] ty #[.slice (some ⟨gu,i,none⟩) m dcap,.slice a m scap]).run Tryz.prog w=.ok v w'/\Own 128 w' base (some ⟨gu,0,none⟩) L L' (splice up i m r)/\w.grownBy w' (some gu):=by
 obtain⟨b,off,rfl,hc⟩:=hr.cells hm
 rcases h.place with h0 | ⟨g,cur,ha,hbg,hg,hcap,hcc⟩
 ·cases h0.1
 cases ha
 have hle:=h.le
 have hrun:=run_copy_row (P:=Tryz.prog) w 28 28 ty 128 gu i m dcap ⟨b,off,none⟩ m scap cur 128 (ucs r m) Tryz.underlying28 infoPart1 hg (by rw[ucs_len];exact(Nat.min_self m).symm)
  (by
   intro j u hj;obtain⟨hj1,rfl⟩:=ucs_get' hj;rw[Addr.add_lit]
   exact hc j hj1) (by rw[ucs_len];omega) ucs_one
 refine⟨_,_,hrun,⟨hle,Or.inr ⟨gu,_,rfl,hbg,setRow_heap w gu cur _ _ _ hg,?_,fun k hk=>?_⟩,fun k hk=>?_⟩,⟨rfl,rfl,rfl,by simp,fun k _ hk=>setRow_other w gu k _ (fun e=>hk (by simp[e]))⟩⟩
 ·simp only[List.size_toArray,List.length_append,List.length_take,List.length_drop,Array.length_toList,ucs_len];omega
 ·rw[List.getElem?_toArray,ucs_len]
  have h1:(cur.toList.take i).length=i:=by simp;omega
  have h2:(cur.toList.take i++ucs r m).length=i+m:=by rw[List.length_append,h1,ucs_len]
  by_cases e1:k<i
  ·rw[List.getElem?_append_left (by omega),List.getElem?_append_left (by omega),List.getElem?_take,if_pos e1,Array.getElem?_toList,hcc k hk];show some (Value.int .u32 (up k))=some (Value.int .u32 (splice up i m r k));rw[splice_out (Or.inl e1)]
  ·by_cases e2:k<i+m
   ·obtain⟨j,rfl⟩:∃ j,k=i+j:=⟨k-i,by omega⟩;rw[List.getElem?_append_left (by omega),List.getElem?_append_right (by omega),h1,Nat.add_sub_cancel_left,ucs_get _ _ _ (by omega)];show some (Value.int .u32 (r j))=some (Value.int .u32 (splice up i m r (i+j)));rw[splice_in (by omega)]
   ·rw[List.getElem?_append_right (by omega),h2,List.getElem?_drop,show i+m+(k-(i+m))=k by omega,Array.getElem?_toList,hcc k hk];show some (Value.int .u32 (up k))=some (Value.int .u32 (splice up i m r k));rw[splice_out (Or.inr (by omega))]
 ·by_cases e:i<=k/\k<i+m
  ·obtain⟨j,rfl⟩:∃ j,k=i+j:=⟨k-i,by omega⟩;rw[splice_in (by omega)];exact hr.rng j (by omega)
  ·rw[splice_out (by omega)];exact h.rng k hk
theorem cf_div (args:Array Value) (w:World):(callFunc 250 args).run Tryz.prog w=.ok (.enter 250 args) w:=by kernel_rfl
theorem divFn (w:World) (bh bg bv gu i n cu cv:Nat) (q:Option Addr) (up vp:Nat->Int) (g:Int) (k:Nat) (c1:w.cell? ⟨bh,0,none⟩=some (.slice (some ⟨gu,i,none⟩) (n+1) cu)) (c2:w.cell? ⟨bg,0,none⟩=some (.int .u64 g))
  (c3:w.cell? ⟨bv,0,none⟩=some (.slice q n cv)) (c4:w.cell? ⟨gu,i+k,none⟩=some (.int .u32 (up (i+k)))) (hk:k<n+1) (hp:Rd w q n vp) (hn:n<=200000000) (hg:0<=g/\g<=999999999) (hu:0<=up (i+k)/\up (i+k)<=999999999) (r1:0<=part vp n k/\part vp n k<=999999999) :
  Calls Tryz.prog 250 #[.int .i64 k,.pointer (some ⟨bh,0,none⟩),.pointer (some ⟨bg,0,none⟩),.pointer (some ⟨bv,0,none⟩)] w fun e w'=>e=.returned (.int .i64 (up (i+k)-g*part vp n k))/\Below w.heap.size w w':=by
 have P:=qh (fun (w1:World) (h:∃ m,w1=w.drewN m)=>part_any q n cv vp k w1 (by obtain⟨m,rfl⟩:=h;exact hp.drewN m) (by omega) (by omega));have m1:g*part vp n k<=999999999*999999999:=Int.mul_le_mul hg.2 r1.2 r1.1 (by omega);have m2:0<=g*part vp n k:=Int.mul_nonneg hg.1 r1.1;have e1:=IntWalk.i64_in (up (i+k)) (by omega);have e2:=IntWalk.u64_in (part vp n k) (by omega);have e3:=IntWalk.u64_in (g*part vp n k) (by omega);have e4:=IntWalk.i64_in (g*part vp n k) (by omega);have e5:=IntWalk.i64_in (up (i+k)-g*part vp n k) (by omega)
 have x1:(k:Int)<((n+1:Nat):Int):=by omega
 have x2:(k:Int)<(n:Int)+1:=by omega
 generalize part vp n k=u at *
 generalize up (i+k)=t at *
 clear hp m1 m2 hu r1;go_enter Tryz.func250,Tryz.ntmps250;go_wp2_with fail
 go_quiet (first | with_reducible exact quietOf (P.o _ ⟨_,rfl⟩));go_wp2;go_ret;exact⟨rfl,bdrewN zk _⟩
def lessF (up vp:Nat->Int) (j N:Nat) (g:Int) (k:Nat):Int:=up (j+k)-g*part vp N k
theorem lessF_sum (up vp:Nat->Int) (j N:Nat) (g:Int):sumB (lessF up vp j N g) (N+1)=headV up N j-sumB vp N*g:=by
 have e:lessF up vp j N g=fun k=>(fun k=>up (j+k)) k+part vp N k*(-g):=by
  funext k;unfold lessF;rw[Int.mul_neg,Int.mul_comm];show _=up (j+k)+_;omega
 rw[e,sumB_plus,sumB_times,sumB_part _ (by omega),Int.mul_neg];unfold headV;omega
theorem Rd.at_own {w:World} {base gu L L' j m:Nat} {up:Nat->Int} (h:Own 128 w base (some ⟨gu,0,none⟩) L L' up) (hj:j+m<=L):Rd w (some ⟨gu,j,none⟩) m (fun k=>up (j+k)) :=
 ⟨fun _=>⟨gu,j,rfl,fun i hi=>h.cell (by omega)⟩,fun i hi=>h.rng _ (by omega)⟩
end Limb
end Go.Proofs.YthacfgmdihcffaaGreatDoor
