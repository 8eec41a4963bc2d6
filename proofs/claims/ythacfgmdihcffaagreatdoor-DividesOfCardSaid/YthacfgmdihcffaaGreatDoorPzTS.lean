/-
  The walk of reckonerref04.Lead.
-/
import Derived.Test.YthacfgmdihcffaaGreatDoorPzTR
set_option linter.unusedSimpArgs false
set_option linter.unusedVariables false
set_option maxHeartbeats 16000000
set_option maxRecDepth 100000
open Go.Proofs.Tryz
namespace Go.Proofs.YthacfgmdihcffaaGreatDoor
namespace Pol
open Go.RowKit Go.Sort Limb
variable {W w:World} {P:List Tm} {o top:Int} {ds:List Dv} {ts:List TV} {E G base degree fuel g k k0 kd m nd terms:Nat} {v:Value} {p x:PV} {a b c:Mo}
structure InP (w:World) (x:PV) (ts:List TV) (m:Nat) (P:List Tm):Prop where
 k:KP w x P
 len:P.length<=m
 ls:∀ t∈P,LS t.2 4 1
 mo:P.map Prod.fst=ts.map TV.m
theorem InP.lq (h:InP w x ts m P):∀ f∈P,LQ f.2 4:=λf d=>(h.ls f d).lq zj Ze
theorem InP.cd (d:InP w x ts m P):CD P (5+m):=(CD.of d.len d.ls).up Zo
theorem raw_in {q:List TO} (D:RawQ w x q) (hg:Qi m (q.map Prod.fst)):(∃ P,InP w x (q.map Prod.fst) m P)\/BP w x:=by
 have n:=D.rawP hg;by_cases s:okP q
 ·obtain⟨P,y,B⟩:=s;have t:=n.kp y B;obtain⟨C,j,l⟩:=Vs y
  have i:∀ e∈C,(e.1,some e.2)∈q:=λe h=>by rw[j];exact List.mem_map_of_mem h
  refine Or.inl ⟨P,t,?_,λF u=>?_,?_⟩
  ·have d:=hg.1;rw[List.length_map,j,List.length_map] at d;rw[<- l,List.length_map];exact d
  ·rw[<- l] at u;obtain⟨e,h,rfl⟩:=List.mem_map.1 u;have d:KF w e.1.c e.2:=n.2.2.2.1 _ (i e h);obtain⟨z,r⟩:=hg.2 e.1 (List.mem_map_of_mem (f:=Prod.fst) (i e h));have A:=(d.lq (k:=4) ⟨z,zm r Ze⟩).t;exact⟨A,by rw[<- d.l.n];exact r⟩
  ·rw[<- l,j,List.map_map,List.map_map,List.map_map];rfl
 ·exact Or.inr ⟨q,n,s⟩
theorem InP.tall {h:Nat} (r:InP w x ts m P) (l:XP h ts=false):∀ q∈P,q.1.many<=h:=λq j=>by
 have i:q.1∈ts.map TV.m:=by rw[<- r.mo];exact List.mem_map_of_mem j
 obtain⟨s,n,e⟩:=List.mem_map.1 i
 refine Nat.le_of_not_lt λf=>?_
 have d:XP h ts=true:=List.any_eq_true.2 ⟨s,n,decide_eq_true (by rw[e];exact f)⟩;rw[l] at d
 cases d
theorem Yv (d:Mo):wt ⟨1,1,1,1⟩ d=d.many:=by
 show 1*d.x+1*d.y+1*d.z+1*d.t=d.x+d.y+d.z+d.t;omega
theorem U5 (d:Mo):Mono.JF (moF d)=(d.many:Int):=by
 show((d.x:Nat):Int)+((d.y:Nat):Int)+((d.z:Nat):Int)+((d.t:Nat):Int)=((d.x+d.y+d.z+d.t:Nat):Int);omega
theorem jev (i:o=1\/o=2) (d:a.Small) (f:b.Small) (h:JN o a<=JN o b):a.many<=b.many:=by
 have j:=Mono.V5 (Qd d);have l:=Mono.V5 (Qd f);have n:=Mono.Ym (Qd d);have q:=Mono.Ym (Qd f);unfold JN Mono.KO at h
 rcases i with rfl | rfl
 ·rw[if_pos rfl,if_pos rfl,U5,U5] at h;omega
 ·rw[if_neg Ze,if_pos rfl,if_neg Ze,if_pos rfl,U5,U5] at h;omega
theorem jee (d:Mo):Mono.key (moF d)=(d.x:Int)*281474976710656+(d.y:Int)*4294967296+(d.z:Int)*65536+(d.t:Int):=rfl
theorem lex_key0 (d:JN 0 a<=JN 0 b):(a.x:Int)*281474976710656+(a.y:Int)*4294967296+(a.z:Int)*65536+(a.t:Int)<=(b.x:Int)*281474976710656+(b.y:Int)*4294967296+(b.z:Int)*65536+(b.t:Int):=by
 unfold JN Mono.KO at d;rw[if_neg Ze,if_neg Ze,if_neg Ze,if_neg Ze,jee,jee] at d;exact d
theorem lex_wt (i:a.many<=2) (j:b.many<=2) (l:JN 0 a<=JN 0 b):wt ⟨8,4,2,1⟩ a<=wt ⟨8,4,2,1⟩ b:=by
 have l:=lex_key0 l;unfold Mo.many at i j;show 8*a.x+4*a.y+2*a.z+1*a.t<=8*b.x+4*b.y+2*b.z+1*b.t
 rcases Nat.lt_trichotomy a.x b.x with d | d | d
 ·omega
 ·rcases Nat.lt_trichotomy a.y b.y with f | f | f
  ·omega
  ·rcases Nat.lt_trichotomy a.z b.z with h | h | h <;> omega
  ·omega
 ·omega
theorem lex_head {h:Tm} {r:List Tm} (l:Canon (h :: r)) (f:∀ i∈h :: r,i.1.Small):Zr (JN 0) (h :: r) h:=by
 refine⟨List.mem_cons_self ..,λi d=>?_⟩
 rcases List.mem_cons.1 d with rfl | d
 ·exact Int.le_refl _
 ·have j:=l.head i d;obtain⟨u,y,z,A⟩:=f h (List.mem_cons_self ..);obtain⟨n,q,s,t⟩:=f i (List.mem_cons_of_mem _ d);unfold JN Mono.KO;rw[if_neg Ze,if_neg Ze,if_neg Ze,if_neg Ze,jee,jee];unfold Mo.lt at j;omega
theorem ds_ex (o:Int):∀ (j:List (PV × List Tm)),(∀ f∈j,f.2≠[])->∃ ds:List Dv,ds.map Prod.snd=j.map Prod.snd/\∀ i∈ds,Zr (JN o) i.2 i.1
 | [],_=>⟨[],rfl,λi d=>by cases d⟩
 | f :: r,h=>by
  obtain⟨ds,l,n⟩:=ds_ex o r λf q=>h f (List.mem_cons_of_mem _ q)
  obtain⟨t,s⟩:=jdp (JN o) (h f (List.mem_cons_self ..));refine⟨(t,f.2) :: ds,by rw[List.map_cons,List.map_cons,l],λi d=>?_⟩
  rcases List.mem_cons.1 d with rfl | d
  ·exact s
  ·exact n i d
structure Wts (o:Int) (ds:List Dv) (P:List Tm) (c:Mo) (W:Nat):Prop where
 pos:c.pos
 d:∀ d∈ds,∀ t∈d.2,wt c t.1<=wt c d.1.1
 p:∀ t∈P,wt c t.1<=W
structure InD (w:World) (terms:Nat) (Ls:List (List TV)) (qs:List (PV × List Tm)):Prop where
 len:qs.length=Ls.length
 i:∀ (i:Nat) (q:PV × List Tm) (us:List TV),qs[i]?=some q->Ls[i]?=some us->InP w q.1 us terms q.2
theorem InD.all {d:List (List TV)} {j:List (PV × List Tm)} (t:InD w terms d j) {n:PV × List Tm} (q:n∈j):∃ s∈d,InP w n.1 s terms n.2:=by
 obtain⟨r,h⟩:=List.mem_iff_getElem?.1 q;have i:=(List.getElem?_eq_some_iff.1 h).1;have f:=List.getElem?_eq_getElem (l:=d) (i:=r) (by rw[<- t.len];exact i);exact⟨_,List.mem_of_getElem? f,t.i r n _ h f⟩
theorem wts_ex (T:0<=o) (U:o<=2) {z:List (List TV)} {F:List (PV × List Tm)} {A:List Dv} (hg:DGr o terms degree ts z) (J:InP w p ts terms P) (S:InD w terms z F)
  (L:A.map Prod.snd=F.map Prod.snd) (C:∀ l∈A,Zr (JN o) l.2 l.1):Wts o A P ⟨1,1,1,1⟩ degree\/Wts o A P ⟨8,4,2,1⟩ 24:=by
 have B:∀ l∈A,∃ y∈z,∃ H∈F,H.2=l.2/\InP w H.1 y terms H.2:=λl i=>by
  have I:l.2∈F.map Prod.snd:=by rw[<- L];exact List.mem_map_of_mem i
  obtain⟨H,t,e⟩:=List.mem_map.1 I;obtain⟨y,u,s⟩:=S.all t;exact⟨y,u,H,t,e,s⟩
 by_cases K:o=1\/o=2
 ·refine Or.inl ⟨⟨Ze,Ze,Ze,Ze⟩,λl i j d=>?_,λj d=>by rw[Yv];exact J.tall hg.tp j d⟩;obtain⟨y,u,H,t,e,s⟩:=B l i;rw[Yv,Yv];have h:=s.k;rw[e] at h;exact jev K (h.small j d) (h.small l.1 (C l i).1) ((C l i).2 j d)
 ·obtain rfl:o=0:=Zo;by_cases q:Xq 0 z=true
  ·refine Or.inr ⟨⟨Ze,Ze,Ze,Ze⟩,λl i j d=>?_,λj d=>?_⟩
   ·obtain⟨y,u,H,t,e,s⟩:=B l i;have n:=s.tall ((hg.l y u).2.2 q);rw[e] at n;exact lex_wt (n j d) (n l.1 (C l i).1) ((C l i).2 j d)
   ·have n:=J.tall (hg.gp q).2 j d;unfold Mo.many at n;show 8*j.1.x+4*j.1.y+2*j.1.z+1*j.1.t<=24;omega
  ·have q:Xq 0 z=false:=by simpa using q
   refine Or.inl ⟨⟨Ze,Ze,Ze,Ze⟩,λl i j d=>?_,λj d=>by rw[Yv];exact J.tall hg.tp j d⟩;obtain⟨y,u,H,t,e,s⟩:=B l i;rw[Yv,Yv];have h:=s.k;have f:=s.mo;rw[e] at h f;have D:=C l i
   match hD:l.2,d,h,f,D with
   | [],d,_,_,_=>cases d
   | t0 :: r,d,h,f,D =>
    have R:=lex_head h.canon h.small;have O:l.1=t0:=XU (Kz 0) h.canon (λj d=>⟨(h.small j d).1,(h.small j d).2.1,(h.small j d).2.2.1,(h.small j d).2.2.2⟩) D R;rw[O]
    match y,u,f with
    | [],_,f=>simp at f
    | u0 :: ur,u,f =>
     rw[List.map_cons,List.map_cons,List.cons.injEq] at f
     rcases List.mem_cons.1 d with rfl | d
     ·exact zj
     ·have I:j.1∈ur.map TV.m:=by rw[<- f.2];exact List.mem_map_of_mem d
      obtain⟨V,N,Q⟩:=List.mem_map.1 I
      refine Nat.le_of_not_lt λM=>?_
      have n:Xq 0 z=true:=by
       unfold Xq;rw[Bool.and_eq_true];refine⟨rfl,List.any_eq_true.2 ⟨u0 :: ur,u,List.any_eq_true.2 ⟨V,N,decide_eq_true ?_⟩⟩⟩;rw[Q,<- f.1];exact M
      rw[q] at n
      cases n
theorem box_1_6:(Xt ⟨1,1,1,1⟩ 6).length<=656:=by decide +kernel
theorem box_8_24:(Xt ⟨8,4,2,1⟩ 24).length<=656:=by decide +kernel
theorem Mo.le.small {h:Mo} {e:Nat} (f:h.le e) (d:e<=65535):h.Small:=⟨zm f.1 d,zm f.2.1 d,zm f.2.2.1 d,zm f.2.2.2 d⟩
theorem gi_divP {P:List Tm} {s z:Nat} {top:Int} (f:Dvb (JN o) ds c s E nd kd g) (I:g+kd+1<=G) (q:(Xt c s).length<=z) (J:k0+G*z+kd<=k)
  (C:2*(k+2*kd+1)+8<=800000) (D:nd*(k+2*kd+5)<=900000) (F:z<=400000) (H:nd<=100000) :
  DivP o ds (GI (JN o) ds P c s k0 G kd top) (λy=>XD (JN o) (Xt c s) y.p) k kd nd z where
 lq:=λy h=>by
  have L:k0+G*((Xt c s).length-XD (JN o) (Xt c s) y.p)+kd<=k:=by
   have:=Nat.mul_le_mul_left G (zm (Nat.sub_le (Xt c s).length (XD (JN o) (Xt c s) y.p)) q);omega
  refine⟨λn d=>(h.cd.lq n d).up Zo,λn d=>(h.r n d).1.up Zo,λA r n d=>?_⟩;obtain⟨u,i⟩:=List.mem_iff_getElem?.1 r;have j:=(List.getElem?_eq_some_iff.1 i).1;exact(h.o u _ A (List.getElem?_eq_getElem (l:=ds) (i:=u) (by rw[<- h.al.len];exact j)) i n d).1.up Zo
 len:=λy h=>by
  refine⟨zm (Vt h.al.cp λn d=>h.box f.pos d) q,zm (Vt h.al.cr λn d=>jas f.pos (h.r n d).2.1) q,λA r=>zm (Vt (h.al.co A r) λn d=>?_) q⟩;obtain⟨u,i⟩:=List.mem_iff_getElem?.1 r;have j:=(List.getElem?_eq_some_iff.1 i).1;exact jas f.pos (h.o u _ A (List.getElem?_eq_getElem (l:=ds) (i:=u) (by rw[<- h.al.len];exact j)) i n d).2.1
 step:=λy M h _ _ _ _ K=>h.step f I K
 dl:=λB t=>⟨f.lq B t,f.len B t,f.d.lead B t⟩
 hk:=C
 hkk:=D
 hn:=F
 hnd:=H
theorem DivP.also {i:DS->Prop} {u:DS->Nat} {n:Nat} (j:DivP o ds i u k kd nd n) (y:DS->Prop) (z:∀ f h,i f->y f->Step (JN o) ds f h->y h):DivP o ds (λf=>i f/\y f) u k kd nd n where
 lq:=λf d=>j.lq f d.1
 len:=λf d=>j.len f d.1
 step:=λf h d q r s t l=>⟨⟨(j.step f h d.1 q r s t l).1,z f h d.1 d.2 l⟩,(j.step f h d.1 q r s t l).2⟩
 dl:=j.dl
 hk:=j.hk
 hkk:=j.hkk
 hn:=j.hn
 hnd:=j.hnd
structure U6 (w:World) (o:Int) (terms:Nat) (p:PV) (ts:List TV) (P:List Tm) (Ls:List (List TV)) (qs:List (PV × List Tm)) (ds:List Dv):Prop where
 o2:o<=2
 p:InP w p ts terms P
 q:InD w terms Ls qs
 ne:∀ q∈qs,q.2≠[]
 e:ds.map Prod.snd=qs.map Prod.snd
 lead:∀ d∈ds,Zr (JN o) d.2 d.1
theorem U6.of {i:List (List TV)} {f:List (PV × List Tm)} (t:U6 w o terms p ts P i f ds) {l:Dv} (q:l∈ds):∃ h∈i,∃ j∈f,j.2=l.2/\InP w j.1 h terms j.2:=by
 have n:l.2∈f.map Prod.snd:=by rw[<- t.e];exact List.mem_map_of_mem q
 obtain⟨j,d,e⟩:=List.mem_map.1 n;obtain⟨h,s,r⟩:=t.q.all d;exact⟨h,s,j,d,e,r⟩
theorem U6.len {f:List (List TV)} {d:List (PV × List Tm)} (h:U6 w o terms p ts P f d ds):ds.length=d.length:=by
 have:=congrArg List.length h.e;rw[List.length_map,List.length_map] at this;exact this
theorem U6.dvb {l:List (List TV)} {z:List (PV × List Tm)} (j:U6 w o terms p ts P l z ds) (hg:DGr o terms degree ts l) {s:Nat} (q:Wts o ds P c s) (u:degree+s<=65535) :
  Dvb (JN o) ds c s degree terms 4 (5+terms) where
 d:={
  key:=Kz o
  can:=λn d=>by
   obtain⟨h,_,r,_,e,f⟩:=j.of d;rw[<- e];exact f.k.canon
  lead:=j.lead
  ex:=λn d A i=>by
   obtain⟨h,y,r,_,e,f⟩:=j.of d;have t:=f.tall (hg.l h y).2.1 A (by rw[e];exact i);unfold Mo.many at t
   exact⟨Zo,Zo,Zo,Zo⟩ }
 wt:=q.d
 cd:=λn d=>by
  obtain⟨h,_,r,_,e,f⟩:=j.of d;rw[<- e];exact f.cd
 lq:=λn d A i=>by
  obtain⟨h,_,r,_,e,f⟩:=j.of d;exact f.lq A (by rw[e];exact i)
 len:=λn d=>by
  obtain⟨h,_,r,_,e,f⟩:=j.of d;rw[<- e];exact f.len
 pos:=q.pos
 small:=u
theorem dno_ovf {j:Nat} {u:DS} {f:Tm} {d:Dv} (h:Dvb (JN o) ds c j E nd kd g) (I:GI (JN o) ds P c j k0 G kd top u) (s:f∈u.p) (r:d∈ds):¬Ovf d.2 [byT f d.1]:=by
 rintro⟨a,q,K,t,i⟩;rw[List.mem_singleton.1 t] at i;have l:=h.d.ex d r a q;have n:(f.1.quo d.1.1).le j:=Mo.jeb (wt_le h.pos (I.w f s));have J:=h.small;refine i ?_;obtain⟨y,z,A,B⟩:=l;obtain⟨C,D,F,H⟩:=n;exact⟨by show a.1.x+(f.1.quo d.1.1).x<=65535;omega,by show a.1.y+(f.1.quo d.1.1).y<=65535;omega,by show a.1.z+(f.1.quo d.1.1).z<=65535;omega,by show a.1.t+(f.1.quo d.1.1).t<=65535;omega⟩
def DivD (w:World) (Inv:DS->Prop) (e:Ending) (w':World):Prop :=
 ∃ (v:Value) (zs:List PV) (r:PV) (s:DS),e=.returned (.tuple #[v,r.v,.int .i64 0])/\OQ w' w.heap.size v zs/\zs.length=s.os.length/\(∀ (i:Nat) (z:PV) (q:List Tm),zs[i]?=some z->s.os[i]?=some q->DP w' w.heap.size z q)/\DP w' w.heap.size r s.r/\Inv s/\s.p=[]/\Bl w w'
theorem jaw {A B:Nat->Prop}:∀ {n:Nat},(∀ d,d<n->A d\/B d)->(∀ d,d<n->A d)\/∃ k,k<n/\B k/\∀ d,d<k->A d
 | 0,_=>Or.inl λd j=>absurd j (Nat.not_lt_zero d)
 | n+1,h=>by
  rcases jaw (n:=n) λd j=>h d (Nat.lt_succ_of_lt j) with i | ⟨k,q,i,f⟩
  ·rcases h n (Nat.lt_succ_self n) with f | f
   ·refine Or.inl λd j=>?_
    rcases Nat.lt_or_ge d n with l | l
    ·exact i d l
    ·obtain rfl:d=n:=by omega
     exact f
   ·exact Or.inr ⟨n,Nat.lt_succ_self n,f,i⟩
  ·exact Or.inr ⟨k,Nat.lt_succ_of_lt q,i,f⟩
def leadF (K:Mo->Int) (P:List Tm):Option Tm:=P.find? λt=>P.all λs=>decide (K s.1<=K t.1)
def ZY:List Dv->Mo->Nat->Option (Nat × Dv)
 | [],_,_=>none
 | d :: r,m,i=>if d.1.1.stands m then some (i,d) else ZY r m (i+1)
def jef (K:Mo->Int) (ds:List Dv) (s:DS):DS:=match leadF K s.p with
 | none=>s
 | some t=>match ZY ds t.1 0 with
  | some (i,d)=>hitS s t i d
  | none=>VY s t
theorem Kq {z:Mo}:∀ {ds:List Dv} {k u:Nat} {l:Dv},ZY ds z k=some (u,l)->∃ i,u=k+i/\VX ds z i l
 | [],_,_,_,h=>by cases h
 | e :: r,k,u,l,h=>by
  unfold ZY at h;by_cases d:e.1.1.stands z
  ·rw[if_pos d] at h
   cases h
   exact⟨0,rfl,rfl,d,λi _ t=>absurd t (Nat.not_lt_zero i)⟩
  ·rw[if_neg d] at h;obtain⟨i,A,n,q,s⟩:=Kq h;refine⟨i+1,Zo,n,q,λy f B j=>?_⟩
   cases y with
   | zero=>cases j;exact d
   | succ y=>exact s y f Zo j
theorem VT {j:Mo}:∀ {ds:List Dv} {k:Nat},ZY ds j k=none->∀ i∈ds,¬i.1.1.stands j
 | [],_,_,i,d=>by cases d
 | e :: r,k,h,i,d=>by
  unfold ZY at h;by_cases f:e.1.1.stands j
  ·rw[if_pos f] at h;cases h
  ·rw[if_neg f] at h
   rcases List.mem_cons.1 d with rfl | d
   ·exact f
   ·exact VT h i d
theorem jgf {i:Mo->Int} (r:Key 65535 i) (s:Canon P) (d:∀ h∈P,h.1.le 65535) {h:Tm} (j:Zr i P h):leadF i P=some h:=by
 have l:(leadF i P).isSome:=List.find?_isSome.2 ⟨h,j.1,List.all_eq_true.2 λt d=>decide_eq_true (j.2 t d)⟩;obtain⟨u,f⟩:=Option.isSome_iff_exists.1 l;have n:=List.find?_some f;have q:=List.mem_of_find?_eq_some f;rw[f,XU r s d ⟨q,λt d=>of_decide_eq_true (List.all_eq_true.1 n t d)⟩ j]
theorem stepF_eq {t:Mo->Int} (n:Key 65535 t) {l s:DS} (q:Canon l.p) (r:∀ f∈l.p,f.1.le 65535) (y:Step t ds l s):s=jef t ds l:=by
 cases y with
 | @hit f i d hl ht =>
  unfold jef;rw[jgf n q r hl]
  show _=match ZY ds f.1 0 with
   | some (i,d)=>hitS l f i d
   | none=>VY l f
  match hf:ZY ds f.1 0 with
  | none=>exact absurd ht.2.1 (VT hf d (List.mem_of_getElem? ht.1))
  | some (j,e) =>
   obtain⟨k,u,h⟩:=Kq hf;obtain⟨rfl,rfl⟩:=h.uniq ht;obtain rfl:j=k:=Zo
   rfl
 | @rest f hl ht =>
  unfold jef;rw[jgf n q r hl]
  show _=match ZY ds f.1 0 with
   | some (i,d)=>hitS l f i d
   | none=>VY l f
  match hf:ZY ds f.1 0 with
  | none=>rfl
  | some (j,e) =>
   obtain⟨k,u,h⟩:=Kq hf;exact absurd h.2.1 (ht e (List.mem_of_getElem? h.1))
def Ya (K:Mo->Int) (ds:List Dv):Nat->DS->DS
 | 0,s=>s
 | n+1,s=>jef K ds (Ya K ds n s)
theorem OQ.row {t:Nat} {f:List PV} (C:OQ w t v f):∃ a c,v=.slice a f.length c/\RS w a f/\(∀ h z,f[h]?=some z->∃ g,a=some ⟨g,0,none⟩/\w.cell? ⟨g,h,none⟩=some z.v):=by
 rcases C.2 with ⟨j,r⟩ | ⟨g,l,u,j,B,_,hg,_,y,i⟩
 ·have s:f=[]:=List.length_eq_zero_iff.1 r;subst s;exact⟨none,0,j,RS.nil _ _,λh b d=>by simp at d⟩
 ·have q:∀ h z,f[h]?=some z->w.cell? ⟨g,h,none⟩=some z.v:=λh z d=>by
   have A:=(List.getElem?_eq_some_iff.1 d).1;rw[cell_of_row _ _ _ _ _ _ ‹_›]
   have n:(f.map PV.v)[h]?=some z.v:=by rw[List.getElem?_map,d];rfl
   rw[<- i,List.getElem?_take,if_pos Zo,Array.getElem?_toList] at n;exact n
  exact⟨some ⟨g,0,none⟩,l,j,⟨λ_=>⟨g,0,rfl,λh z d=>by rw[Nat.zero_add];exact q h z d⟩⟩,λh z d=>⟨g,rfl,q h z d⟩⟩
def One (w:World) (J:List Tm->List Tm->Prop) (e:Ending) (w':World):Prop :=
 ∃ (g c:Nat) (z:PV) (zq:List Tm) (r:PV) (R:List Tm),e=.returned (.tuple #[.slice (some ⟨g,0,none⟩) 1 c,r.v,.int .i64 0])/\w'.cell? ⟨g,0,none⟩=some z.v/\DP w' w.heap.size z zq/\DP w' w.heap.size r R/\J zq R/\Bl w w'
theorem DivD.one {n:World} {e:Ending} {d:DS->Prop} (F:DivD w d e n) (s:∀ f,d f->f.os.length=1):One w (λq D=>∃ f,d f/\f.p=[]/\f.os=[q]/\f.r=D) e n:=by
 obtain⟨v,H,r,f,rfl,t,h,u,y,i,A,B⟩:=F;have l:=s f i;rw[l] at h;obtain⟨z,rfl⟩:=List.length_eq_one_iff.1 h;obtain⟨q,j⟩:=List.length_eq_one_iff.1 l;obtain⟨a,c,rfl,_,C⟩:=t.row;obtain⟨g,rfl,hg⟩:=C 0 z rfl;exact⟨g,c,z,q,r,f.r,rfl,hg,u 0 z q rfl (by rw[j];rfl),y,⟨f,i,A,j,rfl⟩,B⟩
open Go.ChangeShapes Go.WideShapes Go.ChangeAt
def RawL (w:World) (x:PV) (L:List TO):Prop:=RawQ w x L/\x.n<=9223372036854775807
structure RawR (w:World) (a:Option Addr) (n:Nat) (Xs:List (PV × List TO)):Prop where
 len:Xs.length=n
 n:n<=9223372036854775807
 row:RS w a (Xs.map Prod.fst)
 e:∀ e∈Xs,RawL w e.1 e.2
theorem U7 {u:Type} {l:TypeId × Value->u} {y:World} {t:Nat->Bool} {s:Bool} {i:Nat} {v:Value} {D:DataW u × List MemPlace}
  (n:DataW.trod l prog y 0 t s i 23 [v]=some D):∃ (f:PV) (r:List TO),v=f.v/\RawL y f r:=by
 obtain⟨f,r,e,z⟩:=jhr n;refine⟨f,r,e,z,?_⟩
 rcases DataW.trod_slice underlying23 n with ⟨d,_⟩ | ⟨a,len,j,q,rest,m,_,d,_,_,B,C,_⟩
 ·rw[e] at d;have h:[Value.slice f.a f.n f.c]=[Value.slice none 0 0]:=d;simp only[List.cons.injEq,Value.slice.injEq,and_true] at h;omega
 ·rw[e] at d;have h:[Value.slice f.a f.n f.c]=[Value.slice (some a) len j]:=d;simp only[List.cons.injEq,Value.slice.injEq,and_true] at h;have A:maxLen=9223372036854775807:=Ze;omega
theorem jk9:prog.cellsOf 23=1:=by kernel_rfl
theorem jew {O:Type} {A:TypeId × Value->O} {D:World} {N:Nat->Bool} {K:Bool} {q:Nat} {v:Value} {Y:DataW O × List MemPlace}
  (L:DataW.trod A prog D 0 N K q 40 [v]=some Y):∃ (a:Option Addr) (n c:Nat) (H:List (PV × List TO)),v=.slice a n c/\RawR D a n H:=by
 rcases DataW.trod_slice underlying40 L with ⟨e,_⟩ | ⟨a,len,z,F,rest,m,_,e,_,_,U,V,R,C,_⟩
 ·simp only[List.cons.injEq,and_true] at e;exact⟨none,0,0,[],e,rfl,Nat.zero_le _,RS.nil _ _,λe i=>(by cases i)⟩
 ·simp only[List.cons.injEq,and_true] at e;have s:maxLen=9223372036854775807:=Ze
  obtain⟨Q,B,h⟩:=Vf (Φ:=λu (e:PV × List TO)=>D.cells? 0 (a.add (u*1)) 1=some [e.1.v]/\RawL D e.1 e.2) len λu f=>by
   have j:=C u f;rw[jk9,List.getElem?_eq_getElem Zo] at j;obtain⟨X,r,d⟩:=Option.bind_eq_some_iff.1 j
   obtain⟨v,rfl⟩:∃ v,X=[v]:=by
    rcases DataW.trod_slice underlying23 d with ⟨e,_⟩ | ⟨_,_,_,_,_,_,_,e,_⟩
    ·exact⟨_,e⟩
    ·exact⟨_,e⟩
   obtain⟨Z,S,I,J⟩:=U7 d;exact⟨(Z,S),by rw[r,I],J⟩
  refine⟨some a,len,z,Q,e,B,Zo,⟨λM=>?_⟩,λe i=>?_⟩
  ·have t:0<Q.length:=List.length_pos_iff.2 λT=>M (by rw[T];rfl)
   obtain⟨j,-⟩:=h 0 _ (List.getElem?_eq_getElem t);have r:=Y2 j 0 Zo;obtain⟨b,off,y⟩:=a
   have l:y=none:=by
    have d:=World.cell?_spot (r.trans rfl)
    simpa[Addr.add] using d
   subst l;refine⟨b,off,rfl,λu aa f=>?_⟩;rw[List.getElem?_map] at f;obtain⟨e,i,rfl⟩:=Option.map_eq_some_iff.1 f;obtain⟨d,-⟩:=h u e i;have s:=Y2 d 0 Zo;rw[Go.WideShapes.add_plain,Go.WideShapes.add_plain,Nat.mul_one,Nat.add_zero] at s;exact s
  ·obtain⟨u,f⟩:=List.mem_iff_getElem?.1 i;exact(h u e f).2
theorem jhx {q:Type} {d:TypeId × Value->q} {h:World} {base:Nat} {r:Reach} {l:Nat->Bool} {i:Bool} {v:Value} {u:DataW q} {z:List MemPlace}
  (f:Value.okWide prog h r base 23 v) (y:DataW.Trod d prog h 0 l i 23 v u z):∃ (s:PV) (t:List TO),v=s.v/\RawL h s t:=by
 obtain⟨fuel,j⟩:=y;obtain⟨a,n,c,rfl⟩:=Go.WideShapes.okWide_slice underlying23 f;exact U7 j
theorem jex {s:Type} {d:TypeId × Value->s} {h:World} {base:Nat} {r:Reach} {q:Nat->Bool} {j:Bool} {v:Value} {t:DataW s} {y:List MemPlace}
  (f:Value.okWide prog h r base 40 v) (u:DataW.Trod d prog h 0 q j 40 v t y):∃ (a:Option Addr) (n c:Nat) (i:List (PV × List TO)),v=.slice a n c/\RawR h a n i:=by
 obtain⟨fuel,l⟩:=u;obtain⟨a,n,c,rfl⟩:=Go.WideShapes.okWide_slice underlying40 f;exact jew l
end Pol
namespace Pol
open Go.RowKit Go.Sort Limb
variable {w w' w0:World} {b c i lo lo':Nat} {v:Value} {P:List Tm} {p q r:Rat} {ts:List TV} {L:List TE}
structure ER (w:World) (lo:Nat) (v:Value) (L:List TE):Prop where
 row:OT w lo v (L.map Prod.fst)
 num:∀ e∈L,EF w lo e.1.c e.2
theorem ER.nil:ER w lo (.slice none 0 0) []:=⟨World.ownsRow_nil _ _ _ _,λ_ d=>(by cases d)⟩
theorem ER.below (h:ER w lo v L) (d:Bl w w'):ER w' lo v L:=⟨OT.below h.row d,λe f=>(h.num e f).below d⟩
theorem ER.mono (h:ER w lo v L) (d:lo'<=lo):ER w lo' v L:=⟨OT.mono h.row d,λe f=>(h.num e f).mono d⟩
theorem ER.slice (d:ER w lo v L):∃ x:PV,v=x.v/\x.n=L.length:=by
 obtain⟨a,c,e,-,-⟩:=OT.slice d.row;exact⟨⟨a,L.length,c⟩,by rw[e,List.length_map],rfl⟩
theorem ER.alloc (d:ER w lo v L) (o:Obj):ER (w.alloc o) lo v L:=d.below (zk.alloc zj o)
theorem EF.alloc {d:FV} (f:EF w lo d q) (o:Obj):EF (w.alloc o) lo d q:=f.below (zk.alloc zj o)
theorem _root_.Go.RowKit.Below.ofAlloc {d:Nat} {o:Obj} (h:Below d (w.alloc o) w') (f:d<=w.heap.size):Below d w w':=(zk.alloc f o).trans h
def jcs (T:TypeId):Bool:=T==37 || T==128
theorem EF.rows {s:FV} (l:EF w lo s q) (j:∀ (b:Nat) (c:Array Value) (n:TypeId),w.heap[b]?=some (.cells c n (0,0))->jcs n=true->w'.heap[b]?=w.heap[b]?):EF w' lo s q:=l.kept λb d=>by
 rcases d with d | d
 ·obtain⟨h,f⟩:=Xu l.t.own d;exact j b _ _ f rfl
 ·obtain⟨h,f⟩:=Xu l.l.own d;exact j b _ _ f rfl
theorem ER.rows (n:ER w lo v L) (l:∀ (b:Nat) (c:Array Value) (y:TypeId),w.heap[b]?=some (.cells c y (0,0))->jcs y=true->w'.heap[b]?=w.heap[b]?):ER w' lo v L:=by
 refine⟨⟨n.row.1,n.row.2.imp id ?_⟩,λe t=>(n.num e t).rows l⟩;rintro⟨g,f,h,u,j,d,s⟩;exact⟨g,f,h,u,j,(l g _ _ d rfl).trans d,s⟩
structure Zb (w:World) (lo b:Nat) (m:Mo) (q:Rat):Prop where
 ex:∃ y:FV,Bxs w b 37 (TV.cells ⟨y,m⟩)/\EF w lo y q
theorem Zb.rows {l:Mo} (n:Zb w lo b l q) (f:∀ (b:Nat) (c:Array Value) (j:TypeId),w.heap[b]?=some (.cells c j (0,0))->jcs j=true->w'.heap[b]?=w.heap[b]?):Zb w' lo b l q:=by
 obtain⟨s,d,h⟩:=n.ex;exact⟨s,(f b _ _ d rfl).trans d,h.rows f⟩
structure EP (w:World) (lo:Nat) (x:PV) (P:List Tm):Prop where
 ex:∃ L:List TE,ER w lo x.v L/\L.map tm=P
 canon:Canon P
 small:∀ t∈P,t.1.Small
theorem EP.k {s:PV} (f:EP w lo s P):KP w s P:=by
 obtain⟨L,d,h⟩:=f.ex;obtain⟨a,c,e,j,n⟩:=OT.slice d.row;obtain⟨t,y,u⟩:=s;simp only[PV.v,Value.slice.injEq] at e;obtain⟨rfl,rfl,rfl⟩:=e;exact⟨⟨L,n,(List.length_map ..).symm,λe l=>(d.num e l).k,h⟩,j,f.canon,f.small⟩
theorem EP.below {l:PV} (d:EP w lo l P) (j:Bl w w'):EP w' lo l P:=by
 obtain⟨L,f,h⟩:=d.ex;exact⟨⟨L,f.below j,h⟩,d.canon,d.small⟩
theorem EP.mono {l:PV} (d:EP w lo l P) (j:lo'<=lo):EP w lo' l P:=by
 obtain⟨L,f,h⟩:=d.ex;exact⟨⟨L,f.mono j,h⟩,d.canon,d.small⟩
theorem EP.rows {n:PV} (d:EP w lo n P) (j:∀ (b:Nat) (c:Array Value) (l:TypeId),w.heap[b]?=some (.cells c l (0,0))->jcs l=true->w'.heap[b]?=w.heap[b]?):EP w' lo n P:=by
 obtain⟨L,f,h⟩:=d.ex;exact⟨⟨L,f.rows j,h⟩,d.canon,d.small⟩
theorem EP.nil:EP w lo ⟨none,0,0⟩ []:=⟨⟨[],ER.nil,rfl⟩,Canon.nil,λ_ d=>(by cases d)⟩
theorem jgg {C:NV} {z:Int} (l:DN w lo C z) (y:OT w lo' v ts) (hg:w.grownBy w' v.ownBlock):DN w' lo C z:=by
 refine⟨l.s,l.n,⟨l.own.le,l.own.place.imp id λ⟨g,j,u,n,f,A⟩=>⟨g,j,u,n,?_,A⟩,l.own.rng⟩⟩;refine(hg.block g (lt_of_block f) λe=>?_).trans f
 rcases y.2 with ⟨h,-⟩ | ⟨t,B,s,h,-,d,-⟩
 ·rw[h] at e;cases e
 ·rw[h] at e;have e:some g=some t:=e
  injection e with e
  subst e;rw[f] at d
  cases d
theorem EF.grown {h:FV} (f:EF w lo h q) (d:OT w lo' v ts) (hg:w.grownBy w' v.ownBlock):EF w' lo h q:=⟨jgg f.t d hg,jgg f.l d hg⟩
theorem jh9 (h:TV):∀ f∈TV.cells h,f.oneCell'=true:=by
 intro f d;simp only[TV.cells,List.mem_cons,List.mem_nil_iff,or_false] at d
 rcases d with rfl | rfl | rfl | rfl | rfl | rfl | rfl | rfl <;> rfl
theorem info8P:(prog.info? 37).map (λi=>(i.zero,i.size,i.bytes))=some (some (.agg #[.bool false,.slice none 0 0,.bool false,.slice none 0 0,.int .u16 0,.int .u16 0,.int .u16 0,.int .u16 0]),8,72):=by kernel_rfl
theorem QK {n:Array Oper} {rest:List Oper} {l:Oper} {j:Act} {ab:Exit->Act->World->Prop} (D:l.guard=none) (aa x:Operand)
  (U:l.op=.call { callee:=.builtin .append,args:=#[aa,x],argTypes:=#[23,23] })
  {y:World} {d:Nat} {v:Value} {h:List TE} (Y:j.eval aa=v) (A:ER y d v h) (hn:h.length<=1000000000) (C:d<=y.heap.size)
  {s:Nat} {t:TV} {J:Rat} {m c:Nat} (Z:j.eval x=.slice (some ⟨s,0,none⟩) m c) (Q:Bxs y s 37 t.cells) (V:EF y d t.c J) (T:m=1)
  (O:∀ (z:PV) w',ER w' d z.v (h++[(t,J)])->Below d y w'->wpList prog n ab rest (j.put l.dst z.v) w'):wpList prog n ab (l :: rest) j y:=by
 subst T;obtain⟨i0,R,F,H,I⟩:=info_parts info8P;refine wpList_append_own _ D aa x 23 U d 37 i0 _ 8 72 underlying23 R F H I rfl Ze v _ _ Y A.row ⟨s,0,none⟩ 1 c (TV.cells t) Z rfl (λad ae S=>?_) (jh9 t) ?_ ?_ C ?_
 ·rw[Addr.add_lit,Nat.zero_add];exact Q.cell S
 ·rw[List.length_map];unfold maxLen;omega
 ·rw[List.length_map];omega
 ·intro K w' u hg _
  have M:(h++[(t,J)]).map Prod.fst=h.map Prod.fst++[t]:=by rw[List.map_append];rfl
  have N:(h.map Prod.fst++[t]).flatMap TV.cells=(h.map Prod.fst).flatMap TV.cells++TV.cells t:=by rw[List.flatMap_append,List.flatMap_cons,List.flatMap_nil,List.append_nil]
  have X:OT w' d K ((h++[(t,J)]).map Prod.fst):=by
   rw[M];show w'.ownsRow _ _ _ _ _ _;rw[N,List.length_append];exact u
  have B:ER w' d K (h++[(t,J)]):=⟨X,λe f=>by
   rcases List.mem_append.1 f with f | f
   ·exact(A.num e f).grown A.row hg
   ·rw[List.mem_singleton.1 f]
    exact V.grown A.row hg⟩
  obtain⟨z,rfl,-⟩:=B.slice;exact O z w' B (zk.grown hg C (λg hg=>(World.ownsRow.lt A.row g hg).1))
theorem KP.get {a:Option Addr} {n:Nat} (B:KP w ⟨a,n,c⟩ P) (y:i<n):∃ (A:TV) (q:Rat) (b o:Nat),a=some ⟨b,o,none⟩/\RE w b o i A/\KF w A.c q/\P[i]?=some (A.m,q):=by
 obtain⟨L,h,j,l,s⟩:=B.ex;have z:L.length=n:=j;obtain⟨e,d⟩:∃ e,L[i]?=some e:=⟨_,List.getElem?_eq_getElem (by rw[z];exact y)⟩;obtain⟨b,o,t,u⟩:=(show RT w a (L.map Prod.fst) from h).one (λf=>by rw[List.map_eq_nil_iff.1 f] at d;simp at d);exact⟨e.1,e.2,b,o,t,u i e.1 (by rw[List.getElem?_map,d];rfl),l e (List.mem_of_getElem? d),by rw[<- s,List.getElem?_map,d];rfl⟩
structure Bt (W w:World):Prop where
 b:Bl W w
theorem Bt.below {f:World} (h:Bt f w) (d:Bl w w'):Bt f w':=⟨h.b.trans (d.mono h.b.size)⟩
theorem ja8 {j:PV} (f:AP w j P) (l:∀ s∈P,LQ s.2 900000) (h:j.n<=1000000000):∃ n:PV,KP w n P/\n.n<=j.n/\∀ W,Bl w W->Cl 36 #[j.v] W λe w'=>e=.returned n.v/\Bl W w':=by
 rcases f with f | ⟨f,rfl⟩
 ·exact⟨j,f,zj,λW d=>rfit_k (f.below d) l h⟩
 ·exact⟨⟨none,0,0⟩,KP.nil _ _ _,Nat.zero_le _,λW d=>rfit_b (f.below d) h⟩
theorem put4_ef {A:FV} {z:TypeId} {s t u y:Value} (B:EF w lo A q) (f:Bxs w b z [s,t,u,y]) (h:128≠z) (d j l n:Value):EF (put4 w b d j l n) lo A q :=
 (((B.Jt f h 0 d).Jt (f.put 0 d) h 1 j).Jt ((f.put 0 d).put 1 j) h 2 l).Jt (((f.put 0 d).put 1 j).put 2 l) h 3 n
theorem ja9 {c:FV} (K:AF w c p) (D:LF c 900000) (A:LQ p 900000):Cl 38 #[c.v] w (RKV w p):=by
 obtain⟨U,n⟩:=gn ((w.alloc (.cells (cFv c).toArray 32)).alloc (.cells zFv.toArray 32));have s:=bq n ((zk.alloc zj _).alloc (by go_size) _);have N:=qh<|bz n ((Bxs.new w 32 (cFv c)).alloc _)
 have d:=qh (show Bxs U (w.heap.size+1) 32 zFv by
  have ac:=Bxs.new (w.alloc (.cells (cFv c).toArray 32)) 32 zFv;rw[World.size_alloc] at ac;rw[n]
  exact ac)
 have h:=qh<|show Cl 108 #[.agg #[.bool c.t.s,.slice c.t.a c.t.n c.t.c,.bool c.l.s,.slice c.l.a c.l.n c.l.c]] U _ from rnegV (K.below s) D;have Q:=qh<|show LQ (-p) 900000 from⟨by rw[Rat.neg_num,Int.natAbs_neg];exact A.t,by rw[Rat.neg_den];exact A.l⟩;have j:=qh s;have R:=qh n;obtain⟨M,l⟩:=gn (w.heap.size+1);have y:=qh l;rw[<- l] at d;clear n s K D A l;change Cl 38 #[.agg #[.bool c.t.s,.slice c.t.a c.t.n c.t.c,.bool c.l.s,.slice c.l.a c.l.n c.l.c]] w _;go_enter func38,ntmps38;obtain⟨F,H,I,J⟩:=N.o.c4
 go_upto_region 1 with (fail)
 rw[<- R.o,<- y.o];go_wp2_with fail
 with_reducible refine h.o.mono ?_
 rintro e S ⟨z,rfl,t,f⟩;have u:=qh t;have d:=qh<|d.o.bl f;have j:=qk j f;have h:=qh<|show Cl 108 #[.agg #[.bool z.t.s,.slice z.t.a z.t.n z.t.c,.bool z.l.s,.slice z.l.a z.l.n z.l.c]] S _ from rnegV u.o.k.any (u.o.k.len Q.o zj);rw[Rat.neg_neg] at h;clear t f F H I J;go_wp2_with fail
 with_reducible refine h.o.mono ?_
 rintro e T ⟨d2,rfl,t,f⟩;have u:=qh t;have d:=qh<|d.o.bl f;have C:=qh<|j.o.trans (f.mono j.o.size);have B:=qh j.o.size;clear t f h;obtain⟨V,X,Y,Z,aa,ab⟩:=d.o.d4;have O:=qh<|show EF (put4 T M (.bool d2.t.s) (.slice d2.t.a d2.t.n d2.t.c) (.bool d2.l.s) (.slice d2.l.a d2.l.n d2.l.c)) w.heap.size d2 p from put4_ef (u.o.mono B.o) d.o Ze ..;go_wp2_with fail
 exact bodyPost_ret (Je rfl _ _ _ _ _ _ _ rfl (jga d.o ..) underlying32 rfl Zk) rfl ⟨d2,rfl,O.o,U0 C.o (by rw[y.o];omega) ..⟩
theorem jhy {k:Nat} {d:Mo} (f:P[k]?=some (d,q)):(JZ r P)[k]?=some (d,q*r):=by
 unfold JZ;rw[List.getElem?_map,f];rfl
theorem jey (j:Canon P) (n:∀ h∈P,h.1.Small):∀ h∈Qt r P,h.1.Small:=by
 intro h d;by_cases f:r=0
 ·rw[f,Zj] at d;cases d
 ·rw[Ka j f] at d;obtain⟨s,l,rfl⟩:=List.mem_map.1 d;exact n s l
theorem U8 (x:PV) (P:List Tm) (u:FV) (r:Rat) (w:World) (hx:AP w x P) (hq:∀ B∈P,LQ B.2 900000) (ay:x.n<=1000000) (ac:AF w u r) (lc:LF u 900000) (lr:LQ r 900000) :
  Cl 92 #[x.v,u.v] w λe w'=>∃ y:PV,e=.returned y.v/\EP w' w.heap.size y (Qt r P)/\Bl w w':=by
 obtain⟨⟨za,z,zc⟩,hz,az,am⟩:=ja8 hx hq Zo;obtain⟨aZ,hV⟩:=gn (w.alloc (.cells (cFv u).toArray 32));have N:=bq hV (zk.alloc zj _);have h:=qh<|al hV;have Z:=qh<|am aZ N;have AC:=qh<|ac.below N;have LC:=qh lc;have LR:=qh lr;have FZ:=qh hz;have HQ:=qh hq;have f:=qh N;have HV:=qh hV;have aj:=qh<|show z<=1000000 from zm az ay;have ai:=qh<|show z=P.length from hz.len;obtain⟨xa,xn,xc⟩:=x;clear hV N hx ac lc lr ay az am hz hq;change Cl 92 #[.slice xa xn xc,.agg #[.bool u.t.s,.slice u.t.a u.t.n u.t.c,.bool u.l.s,.slice u.l.a u.l.n u.l.c]] w _;go_enter func92,ntmps92;go_wp2_with fail
 rw[<- HV.o];with_reducible refine Z.o.mono ?_
 rintro e w1 ⟨he,d⟩;obtain rfl:e=.returned (.slice za z zc):=he;have h:=qh<|h.o.bl d;have f:=qk f d;have CF:=qh<|show Cl 151 #[.agg #[.bool u.t.s,.slice u.t.a u.t.n u.t.c,.bool u.l.s,.slice u.l.a u.l.n u.l.c]] w1 _ from rfitQ (x:=u) (AC.o.below d) LC.o;clear d Z AC LC;obtain⟨D,F,H,I⟩:=h.o.c4;go_wp2_with fail
 with_reducible refine CF.o.mono ?_
 rintro e w2 ⟨l,rfl,hd,d⟩;have C:=qh hd;have h:=qh<|h.o.bl d;have f:=qk f d;have ag:=qh<|show LF l 900000 from hd.len LR.o zj;clear hd d CF D F H I;obtain⟨D,F,H,I,aI,aJ⟩:=h.o.d4
 go_upto_region 3 with (fail)
 obtain⟨W,R⟩:=gn (put4 w2 w.heap.size (.bool l.t.s) (.slice l.t.a l.t.n l.t.c) (.bool l.l.s) (.slice l.l.a l.l.n l.l.c));have C:=qh (show KF W l r by rw[R];exact put4_kf C.o h.o rfl rfl rfl rfl rfl rfl rfl);have f:=qh<|bq R (U0 f.o zj ..);have h:=qh<|bz R (jga h.o ..);unfold put4 at R;rw[<- R];clear R D F H I aI aJ;obtain⟨Y,V⟩:=gn (Js r.num 0);have aG:=qh V.symm;have ah:=qh f.o.size;have ad:=qh (show(Y != 0)=decide (r≠0) by rw[V];exact sg_ne);clear V;go_wp2;go_loopw [5,6] (λo i wr=>∃ (k:Nat) (y:PV) (L:List TE),o=y.v/\i=.int .i64 k/\k<=z/\ER wr W.heap.size y.v L/\L.map tm=(JZ r P).take k/\(0<k->r≠0)/\Bl W wr) (λ_ i _=>z-(intOf i).toNat)
 case atStart=>exact⟨0,⟨none,0,0⟩,[],rfl,rfl,Nat.zero_le _,ER.nil,rfl,λn=>absurd n (Nat.lt_irrefl _),zk⟩
 case round =>
  obtain⟨k,⟨oa,on,oc⟩,L,ho,rfl,aq,an,hL,ao,J⟩:=hrel;obtain rfl:_=Value.slice oa on oc:=ho;have aC:=qh aq;have s:=qh an;have HL:=qh hL;have ae:=qh ao;have K:=qh<|show Bt W wr from⟨J⟩;have h:=qh<|h.o.bl J;have C:=qh<|C.o.below J;have f:=qk f J;have aF:=qh (show L.length<=z by have n:=congrArg List.length hL;rw[List.length_map,List.length_take] at n;omega);clear aq an hL ao J;by_cases T:k<z
  ·have A:=qh T;have aR:(k:Int)<(z:Int):=Zo;have CS:=qh<|show Cl 150 #[.agg #[.bool l.t.s,.slice l.t.a l.t.n l.t.c,.bool l.l.s,.slice l.l.a l.l.n l.l.c]] wr _ from V8 (x:=l) C.o.any ag.o;rw[aG.o] at CS;clear T;obtain⟨D,F,H,I⟩:=h.o.c4;go_wp2_with fail
   with_reducible refine CS.o.mono ?_
   rintro e M ⟨rfl,d⟩;have s:=qh<|s.o.below d;have C:=qh<|C.o.below d;have K:=qh<|K.o.below d;have h:=qh<|h.o.bl d;have f:=qk f d;clear d CS D F H I;by_cases t:r=0
   ·have g0:(Y != 0)=false:=by rw[ad.o];exact zo λn=>n t
    have g1:Y=0:=by simpa using g0
    have HK:=qh (show k=0 from Nat.eq_zero_of_not_pos λn=>ae.o n t);have HR:=qh t;clear t;go_wp2;go_ret;refine⟨⟨oa,on,oc⟩,rfl,⟨⟨L,s.o.mono ah.o,?_⟩,QY _ _,?_⟩,f.o⟩
    ·rw[HL.o,HK.o,HR.o,Zj];rfl
    ·rw[HR.o,Zj]
     intro B ht;cases ht
   ·have g0:(Y != 0)=true:=by rw[ad.o];exact decide_eq_true t
    have g1:¬(Y=0):=by simpa using g0
    have HR:=qh t;obtain⟨B,q,pb,po,rfl,ar,U,X⟩:=FZ.o.get A.o;have E1:=qh<|ar.below f.o;have NF:=qh<|U.below f.o;have aH:=qh X;have aD:=qh<|show LF B.c 900000 from U.len (HQ.o _ (List.mem_of_getElem? X)) zj;have aE:=qh K.o.b.size;clear t ar U X
    go_upto_region 7 with (fail)
    refine FS.Jd 15 [] (FS.JI [(7,FS.Sp.made (λx:FV=>x.v) (λx w'=>EF w' M.heap.size x (q*r)) FV.blk),(14,FS.Sp.made (λb:Nat=>Value.slice (some ⟨b,0,none⟩) 1 1) (λb w'=>Zb w' M.heap.size b B.m (q*r)) (λ_ _=>False))])
     (λw'=>Bl M w') Zk Zk Zk
     (FS.Jb (FS.Sp.Jf _ (λ_ _ _ n _ hk=>n.kept hk) (FS.JG Zk)) (FS.Jb (FS.Sp.Qf _ jcs (λ_ _ _ n hs=>n.rows hs) Zk (FS.JG Zk)) (FS.Jh))) (λ_ _ n d=>n.trans (d.mono n.size)) (zk.drew) ?_
    simp only[zu,zi,ze,zx,zy,zv,zw]
    iterate 7
     refine FS.rdw (λw' j=>by have hn:=A.o;obtain⟨au,av,aw,ax,aK,aL,aM,aN⟩:=(E1.o.below j).eight;obtain⟨au,av,aw,ax,aV,aW⟩:=(h.o.bl j).d4;go_simp;try rfl) ?_
    refine FS.Jc rfl rfl rfl (λw' O=>?_) ?_
    ·have j:=O.world;refine FS.Jm (FS.PM (λx:FV=>x.v) (λx w'=>EF w' M.heap.size x (q*r)) FV.blk w'.heap.size) ?_ (λ_ _ n=>n.post (λ_ _=>FV.inj));go_simp;have Z:=(show Cl 152 #[.agg #[.bool B.c.t.s,.slice B.c.t.a B.c.t.n B.c.t.c,.bool B.c.l.s,.slice B.c.l.a B.c.l.n B.c.l.c],.agg #[.bool l.t.s,.slice l.t.a l.t.n l.t.c,.bool l.l.s,.slice l.l.a l.l.n l.l.c]] w' _ from rmulV (x:=B.c) (y:=l) (NF.o.below j).any aD.o (C.o.below j).any ag.o);refine Z.mono ?_;rintro e aX ⟨za,rfl,ho,d⟩;exact⟨_,rfl,⟨za,rfl,ho.mono j.size,ho.QV⟩,d⟩
    rintro _ ⟨y7,rfl⟩
    conv=>arg 10;simp only[Act.put,zq0,zq1,zq2]
    iterate 6
     refine FS.rdw (λw' j=>by have hn:=A.o;obtain⟨au,av,aw,ax,aK,aL,aM,aN⟩:=(E1.o.below j).eight;go_simp;try rfl) ?_
    refine FS.Jc rfl rfl rfl (λw' O=>?_) ?_
    ·have j:=O.world;refine FS.Jm (FS.PM (λb:Nat=>Value.slice (some ⟨b,0,none⟩) 1 1) (λb w'=>Zb w' M.heap.size b B.m (q*r)) (λ_ _=>False) w'.heap.size) ?_ (λ_ _ n=>n.post (λ_ _ n=>by cases n;rfl));go_simp;have f7:=FS.JQ (val:=(λx:FV=>x.v)) (Φ:=λx w'=>EF w' M.heap.size x (q*r)) (λ_ _=>FV.inj) (O.jdz 13 7 Zk Zk);exact⟨⟨w'.heap.size,rfl,⟨⟨y7,Bxs.new w' _ (TV.cells ⟨y7,B.m⟩),f7.alloc _⟩⟩,λ_ n=>False.elim n⟩,zk.alloc zj _⟩
    rintro _ ⟨aY,rfl⟩
    conv=>arg 10;simp only[Act.put,zq0,zq1,zq2]
    refine FS.Jn (λaS d hF=>?_);obtain⟨⟨Q,hB,hE⟩⟩:=FS.JQ (val:=(λb:Nat=>Value.slice (some ⟨b,0,none⟩) 1 1)) (Φ:=λb w'=>Zb w' M.heap.size b B.m (q*r)) (λ_ _ n=>by cases n;rfl) (hF.all 14);have aa:=qh hB;have ab:=qh hE;clear hB hE hF;have s:=qh<|s.o.below d;have K:=qh<|K.o.below d;have f:=qk f d;clear d;go_wp2_with (first | (at_builtin;refine QK (t:=⟨Q,B.m⟩) rfl _ _ rfl rfl s.o (Zi aF aj) K.o.b.size rfl aa.o (ab.o.mono aE.o) rfl ?_))
    intro z9 w9 S ak;obtain⟨aO,aQ,aP⟩:=z9;have aA:=qh S;have aB:=qh ak;clear S ak;have aT:IntKind.i64.wrap ((k:Int)+1)=(k:Int)+1:=IntWalk.i64_in _ (Zi A aj);go_wp2;go_roundw
    case rel =>
     refine⟨k+1,⟨aO,aQ,aP⟩,L++[(⟨Q,B.m⟩,q*r)],rfl,rfl,A.o,aA.o,?_,λ_=>HR.o,K.o.b.trans aB.o⟩;rw[List.map_append,HL.o,List.take_add_one,jhy aH.o];rfl
    case measure=>simp[intOf];have:=A.o;omega
  ·have af:=qh (show k=z by have:=aC.o;omega);have aU:¬((k:Int)<(z:Int)):=Zo;clear T;go_wp2;go_ret;refine⟨⟨oa,on,oc⟩,rfl,⟨⟨L,s.o.mono ah.o,?_⟩,QY _ _,jey FZ.o.canon FZ.o.small⟩,f.o⟩;rw[HL.o,af.o,ai.o];by_cases t:r=0
   ·have h0:P.length=0:=Nat.eq_zero_of_not_pos λn=>ae.o (by rw[af.o,ai.o];exact n) t
    rw[t,Zj,h0];rfl
   ·rw[Ka FZ.o.canon t,List.take_of_length_le (by unfold JZ;rw[List.length_map];exact zj)]
theorem jla (a b:Mo) (y:World) (D:(a.mul b).Small):Cl 157 #[Mo.v a,Mo.v b] y λe w'=>e=.returned (.tuple #[Mo.v (a.mul b),.int .i64 0])/\Bl y w':=by
 obtain⟨f,h,j,l⟩:=D;change a.x+b.x<=65535 at f;change a.y+b.y<=65535 at h;change a.z+b.z<=65535 at j;change a.t+b.t<=65535 at l
 have d:∀ m:Mo,m.Small->Mono.Small (λi=>((m.at i:Nat):Int)):=λm u i t=>by
  obtain⟨z,A,B,C⟩:=u
  match i,t with
  | 0,_=>exact⟨Int.natCast_nonneg _,by show(m.x:Int)<=_;omega⟩
  | 1,_=>exact⟨Int.natCast_nonneg _,by show(m.y:Int)<=_;omega⟩
  | 2,_=>exact⟨Int.natCast_nonneg _,by show(m.z:Int)<=_;omega⟩
  | 3,_=>exact⟨Int.natCast_nonneg _,by show(m.t:Int)<=_;omega⟩
 have n:Mono.Yg (λi=>((a.at i:Nat):Int)) (λi=>((b.at i:Nat):Int))=true:=decide_eq_true (by
  show(a.x:Int)+b.x<=65535/\(a.y:Int)+b.y<=65535/\(a.z:Int)+b.z<=65535/\(a.t:Int)+b.t<=65535
  omega)
 refine(Mono.Q9 (λi=>((a.at i:Nat):Int)) (λi=>((b.at i:Nat):Int)) y (d a ⟨Zo,Zo,Zo,Zo⟩) (d b ⟨Zo,Zo,Zo,Zo⟩)).mono ?_;rintro e w' ⟨rfl,s⟩;refine⟨?_,s⟩;unfold Mono.Ui Mono.mulM;simp only[n,if_true];rfl
theorem jhz (a b:Mo) (s:World) (j:a.Small) (d:b.Small) (A:¬(a.mul b).Small):Cl 157 #[Mo.v a,Mo.v b] s λe w'=>e=.returned (.tuple #[.agg #[.int .u16 0,.int .u16 0,.int .u16 0,.int .u16 0],.int .i64 3])/\Bl s w':=by
 have f:∀ m:Mo,m.Small->Mono.Small (λi=>((m.at i:Nat):Int)):=λm n i l=>by
  obtain⟨t,u,y,z⟩:=n
  match i,l with
  | 0,_=>exact⟨Int.natCast_nonneg _,by show(m.x:Int)<=_;omega⟩
  | 1,_=>exact⟨Int.natCast_nonneg _,by show(m.y:Int)<=_;omega⟩
  | 2,_=>exact⟨Int.natCast_nonneg _,by show(m.z:Int)<=_;omega⟩
  | 3,_=>exact⟨Int.natCast_nonneg _,by show(m.t:Int)<=_;omega⟩
 have h:Mono.Yg (λi=>((a.at i:Nat):Int)) (λi=>((b.at i:Nat):Int))=false:=zo (by
  show ¬((a.x:Int)+b.x<=65535/\(a.y:Int)+b.y<=65535/\(a.z:Int)+b.z<=65535/\(a.t:Int)+b.t<=65535);intro B;refine A ⟨?_,?_,?_,?_⟩
  ·show a.x+b.x<=65535;omega
  ·show a.y+b.y<=65535;omega
  ·show a.z+b.z<=65535;omega
  ·show a.t+b.t<=65535
   omega)
 refine(Mono.Q9 (λi=>((a.at i:Nat):Int)) (λi=>((b.at i:Nat):Int)) s (f a j) (f b d)).mono ?_;rintro e w' ⟨rfl,d⟩;refine⟨?_,d⟩;unfold Mono.Ui Mono.mulM;simp only[h];rfl
theorem jlb (a b:Mo) (t:World) (s:a.Small) (f:b.Small) (u:b.stands a):Cl 154 #[Mo.v a,Mo.v b] t λe w'=>e=.returned (.tuple #[Mo.v (a.quo b),.bool true])/\Bl t w':=by
 obtain⟨y,z,A,B⟩:=u
 have d:Mono.Yh (λi=>((a.at i:Nat):Int)) (λi=>((b.at i:Nat):Int))=true:=decide_eq_true (by
  show(b.x:Int)<=a.x/\(b.y:Int)<=a.y/\(b.z:Int)<=a.z/\(b.t:Int)<=a.t
  omega)
 refine(Mono.je7 (λi=>((a.at i:Nat):Int)) (λi=>((b.at i:Nat):Int)) t (moS s) (moS f)).mono ?_;rintro e w' ⟨rfl,f⟩;refine⟨?_,f⟩;have h:(a.x:Int)-b.x=((a.x-b.x:Nat):Int):=Zo;have j:(a.y:Int)-b.y=((a.y-b.y:Nat):Int):=Zo;have l:(a.z:Int)-b.z=((a.z-b.z:Nat):Int):=Zo;have n:(a.t:Int)-b.t=((a.t-b.t:Nat):Int):=Zo;show Ending.returned (.tuple #[.agg #[.int .u16 (Mono.Z6 _ _ 0),.int .u16 (Mono.Z6 _ _ 1),.int .u16 (Mono.Z6 _ _ 2),.int .u16 (Mono.Z6 _ _ 3)],.bool (Mono.Yh _ _)])=.returned (.tuple #[.agg #[.int .u16 ((a.x-b.x:Nat):Int),.int .u16 ((a.y-b.y:Nat):Int),.int .u16 ((a.z-b.z:Nat):Int),.int .u16 ((a.t-b.t:Nat):Int)],.bool true]);rw[d,Mono.XJ d,Mono.XJ d,Mono.XJ d,Mono.XJ d,<- h,<- j,<- l,<- n];rfl
theorem jh0 (a b:Mo) (j:World) (h:a.Small) (d:b.Small) (l:¬b.stands a):Cl 154 #[Mo.v a,Mo.v b] j λe w'=>e=.returned (.tuple #[.agg #[.int .u16 0,.int .u16 0,.int .u16 0,.int .u16 0],.bool false])/\Bl j w':=by
 have f:Mono.Yh (λi=>((a.at i:Nat):Int)) (λi=>((b.at i:Nat):Int))=false:=zo (by
  show ¬((b.x:Int)<=a.x/\(b.y:Int)<=a.y/\(b.z:Int)<=a.z/\(b.t:Int)<=a.t);intro n
  exact l ⟨Zo,Zo,Zo,Zo⟩)
 refine(Mono.je7 (λi=>((a.at i:Nat):Int)) (λi=>((b.at i:Nat):Int)) j (moS h) (moS d)).mono ?_;rintro e w' ⟨rfl,d⟩;refine⟨?_,d⟩;rw[f,Mono.Uy f];rfl
theorem rdivV {x y:FV} (N:KF w x p) (d:LF x 900000) (O:KF w y q) (f:LF y 900000) (R:q≠0):Cl 155 #[x.v,y.v] w λe w'=>∃ z:FV,e=.returned (.tuple #[z.v,.int .i64 0])/\EF w' w.heap.size z (p/q)/\Bl w w':=by
 obtain⟨x1,x2⟩:=x;obtain⟨y1,y2⟩:=y;obtain⟨s1,B,n1,c1⟩:=x1;obtain⟨s2,C,n2,c2⟩:=x2;obtain⟨s3,D,n3,c3⟩:=y1;obtain⟨s4,F,n4,c4⟩:=y2;obtain⟨⟨h,j,Y,S⟩,⟨l,n,Z,T⟩⟩:=N;obtain⟨⟨s,t,r3,U⟩,⟨u,A,r4,l4⟩⟩:=O;simp only at h j l n s t u A;subst h j l n s t u A;obtain⟨I,J⟩:=d;obtain⟨K,M⟩:=f;refine(rfdiv_ok _ B _ c1 _ _ C _ c2 _ _ D _ c3 _ _ F _ c4 _ w p q (XC p).symm (XC q).symm Y I S Z J T r3 K U r4 M l4 (XT p) (XT q) R).mono ?_;rintro e w' ⟨d,H,f,d2,rfl,V,X,Q⟩;exact⟨⟨⟨_,d,_,H⟩,⟨_,f,_,d2⟩⟩,rfl,⟨⟨rfl,rfl,V⟩,⟨rfl,rfl,X⟩⟩,Q⟩
theorem TwN.grown {A B:NV} {o:Nat->Int} (z:TwN w lo A B o) (s:OT w lo' v ts) (hg:w.grownBy w' v.ownBlock):TwN w' lo A B o:=z.kept λb ⟨p,t,e⟩=>by
 obtain⟨y,j⟩:=Xu z.own ⟨p,t,e⟩
 refine hg.block b (lt_of_block j) λd=>?_
 rcases s.2 with ⟨h,-⟩ | ⟨n,u,l,h,-,f,-⟩
 ·rw[h] at d;cases d
 ·rw[h] at d;have d:some b=some n:=d
  injection d with d
  subst d;rw[j] at f
  cases f
theorem TwF.grown {l n:FV} {f h:Nat->Int} (j:TwF w lo l n f h) (d:OT w lo' v ts) (hg:w.grownBy w' v.ownBlock):TwF w' lo l n f h:=⟨j.top.grown d hg,j.low.grown d hg,j.ap⟩
def TwE (w0 w:World) (lo:Nat) (t u:TV):Prop:=t.m=u.m/\∃ o1 o2,Rd w0 u.c.t.a u.c.t.n o1/\Rd w0 u.c.l.a u.c.l.n o2/\TwF w lo t.c u.c o1 o2
theorem TwE.grown {s t:TV} (u:TwE w0 w lo s t) (j:OT w lo' v ts) (hg:w.grownBy w' v.ownBlock):TwE w0 w' lo s t:=by
 obtain⟨e,l,n,d,f,h⟩:=u;exact⟨e,l,n,d,f,h.grown j hg⟩
theorem TwE.below {s t:TV} (u:TwE w0 w lo s t) (j:Bl w w'):TwE w0 w' lo s t:=by
 obtain⟨e,l,n,d,f,h⟩:=u;exact⟨e,l,n,d,f,h.below j⟩
theorem TwE.QV {f t:TV} (h:TwE w0 w lo f t):∀ b,FV.blk f.c b->lo<=b/\b<w.heap.size:=by
 obtain⟨e,n,s,j,l,d⟩:=h;exact d.QV
structure jeg (w0 w:World) (lo:Nat) (v:Value) (ts us:List TV):Prop where
 row:OT w lo v ts
 len:ts.length=us.length
 each:∀ (i:Nat) (t u:TV),ts[i]?=some t->us[i]?=some u->TwE w0 w lo t u
 ap:ts.Pairwise λt s=>FV.apart t.c s.c
theorem jeg.below {f:List TV} (h:jeg w0 w lo v ts f) (d:Bl w w'):jeg w0 w' lo v ts f:=⟨OT.below h.row d,h.len,λi n s j l=>(h.each i n s j l).below d,h.ap⟩
def Ua:TV:=⟨⟨⟨false,none,0,0⟩,⟨false,none,0,0⟩⟩,⟨77,77,77,0⟩⟩
structure TwP (w0 w:World) (lo:Nat) (x:PV) (ts us:List TV):Prop where
 row:OT w lo (.slice x.a (x.n+1) x.c) (ts++[Ua])
 n:x.n=us.length
 len:ts.length=us.length
 each:∀ (i:Nat) (t u:TV),ts[i]?=some t->us[i]?=some u->TwE w0 w lo t u
 ap:ts.Pairwise λt s=>FV.apart t.c s.c
theorem info8L:(prog.info? 37).map (λi=>(i.zero,i.size,i.bytes))=some (some (.agg #[.bool false,.slice none 0 0,.bool false,.slice none 0 0,.int .u16 0,.int .u16 0,.int .u16 0,.int .u16 0]),8,72):=by kernel_rfl
theorem YL {s:Array Oper} {rest:List Oper} {l:Oper} {j:Act} {Z:Exit->Act->World->Prop} (C:l.guard=none) (V Y:Operand)
  (R:l.op=.call { callee:=.builtin .append,args:=#[V,Y],argTypes:=#[22,22] })
  {A:World} {f:Nat} {v:Value} {d:List TV} (S:j.eval V=v) (aa:OT A f v d) (hn:d.length<=1000000000) (B:f<=A.heap.size)
  {u:Nat} {t:TV} {m c:Nat} (T:j.eval Y=.slice (some ⟨u,0,none⟩) m c) (K:Bxs A u 37 t.cells) (Q:m=1)
  (J:∀ (a:Option Addr) (h:Nat) w',OT w' f (.slice a (d.length+1) h) (d++[t])->d.length+1<=h->A.grownBy w' v.ownBlock->Below f A w'->wpList prog s Z rest (j.put l.dst (.slice a (d.length+1) h)) w'):wpList prog s Z (l :: rest) j A:=by
 subst Q;obtain⟨U,M,D,F,H⟩:=info_parts info8L;refine wpList_append_own _ C V Y 22 R f 37 U _ 8 72 underlying22 M D F H rfl Ze v _ _ S aa ⟨u,0,none⟩ 1 c (TV.cells t) T rfl (λab ad N=>?_) (jh9 t) ?_ ?_ B ?_
 ·rw[Addr.add_lit,Nat.zero_add];exact K.cell N
 ·unfold maxLen;omega
 ·omega
 ·intro X w' y hg _
  have I:(d++[t]).flatMap TV.cells=d.flatMap TV.cells++TV.cells t:=by rw[List.flatMap_append,List.flatMap_cons,List.flatMap_nil,List.append_nil]
  have z:OT w' f X (d++[t]):=by
   show w'.ownsRow _ _ _ _ _ _;rw[I,List.length_append];exact y
  obtain⟨a,h,rfl,n,-⟩:=OT.slice z
  have O:(d++[t]).length=d.length+1:=by rw[List.length_append];rfl
  rw[O] at z n ⊢;exact J a h w' z n hg (zk.grown hg B (λg hg=>(World.ownsRow.lt aa g hg).1))
theorem YM (x:PV) (t:List TV) (n:World) (hr:RT n x.a t) (hn:t.length=x.n) (hx:x.n<=1000000) (ab:∀ l∈t,∃ V X,Rd n l.c.t.a l.c.t.n V/\Rd n l.c.l.a l.c.l.n X/\l.c.t.n<=100000000/\l.c.l.n<=100000000) :
  Cl 7 #[x.v] n λe w'=>∃ (ah:PV) (ts:List TV),e=.returned ah.v/\ah.n=x.n/\TwP n w' n.heap.size ah ts t/\Bl n w':=by
 obtain⟨xa,d,xc⟩:=x;have HR:=qh<|show RT n xa t from hr;have O:=qh<|show t.length=d from hn;have F:=qh<|show d<=1000000 from hx;have ao:=qh ab;clear hr hn hx ab;change Cl 7 #[.slice xa d xc] n _;obtain⟨i0,D,ae,af,ag⟩:=info_parts info8L;have e1:=IntWalk.i64_in ((d:Int)+1) (Zh F);obtain⟨T,S⟩:=gn (madeCells (Value.agg #[.bool false,.slice none 0 0,.bool false,.slice none 0 0,.int .u16 0,.int .u16 0,.int .u16 0,.int .u16 0]).cells ((d+1)*8))
 have av:∀ n:World,(Instr.makeSlice 22 (.int .i64 0) (.int .i64 ((d:Int)+1))).run prog n=.ok (.slice (some ⟨n.heap.size,0,none⟩) 0 (d+1)) (n.alloc (.cells T 37)):=by
  intro n;have ai:=run_make (P:=prog) n 22 37 i0 _ underlying22 D ae .i64 .i64 0 ((d:Int)+1) Zo Zo (by rw[ag];have:=F.o;omega) (Zh F);rw[af,show((d:Int)+1).toNat=d+1 by omega,<- S] at ai;exact ai
 have aa:T.size=(d+1)*8:=by rw[S];simp[madeCells]
 have an:=qh aa;clear S aa ae af ag D;go_enter func7,ntmps7
 go_upto_region 2 with (fail)
 obtain⟨aB,U⟩:=gn (n.alloc (.cells T 37));have Z:=bq U (zk.alloc zj _)
 have HO:=qh (show OT aB n.heap.size (.slice (some ⟨n.heap.size,0,none⟩) 0 (d+1)) [] by
  rw[U];show World.ownsRow _ _ _ _ _ _ _
  exact⟨rfl,.inr ⟨n.heap.size,d+1,T,rfl,zj,heap_alloc_new n _,Nat.zero_le _,by have:=F.o;unfold maxLen;omega,an.o,rfl⟩⟩)
 have j:=qh Z;rw[<- U];clear U Z av;go_wp2;go_loopw [3,4] (λv i wr=>∃ (k:Nat) (ts:List TV) (a:Option Addr) (c:Nat),k<=d/\i=.int .i64 k/\v=.slice a k c/\jeg n wr n.heap.size v ts (t.take k)/\Bl n wr) (λ_ i _=>d-(intOf i).toNat)
 case atStart=>exact⟨0,[],_,_,Nat.zero_le _,rfl,rfl,⟨HO.o,rfl,λi N l ai=>by simp at ai,List.Pairwise.nil⟩,j.o⟩
 case round =>
  obtain⟨k,ts,a,c,hk,rfl,rfl,hR,Y⟩:=hrel;have ak:=qh hk;have h:=qh hR;have j:=qh Y
  have ad:ts.length=k:=by rw[hR.len,List.length_take,O.o];omega
  have f:=qh ad;clear hk hR Y ad HO;by_cases J:k<d
  ·have A:=qh J;have aA:(k:Int)<(d:Int):=Zo;obtain⟨l,M⟩:∃ l,t[k]?=some l:=⟨_,List.getElem?_eq_getElem (by rw[O.o];exact J)⟩;have HU:=qh M;obtain⟨pb,po,rfl,ac⟩:=HR.o.one (λe=>by rw[e] at M;simp at M);obtain⟨V,X,r1,r2,g1,g2⟩:=ao.o l (List.mem_of_getElem? M);have E1:=qh<|(ac k l M).below j.o;have CT:=qh<|show Cl 29 #[.agg #[.bool l.c.t.s,.slice l.c.t.a l.c.t.n l.c.t.c,.bool l.c.l.s,.slice l.c.l.a l.c.l.n l.c.l.c,.int .u16 l.m.x,.int .u16 l.m.y,.int .u16 l.m.z,.int .u16 l.m.t]] wr _ from jc4 l V X wr (r1.below j.o) g1 (r2.below j.o) g2;have R1:=qh r1;have R2:=qh r2;have ek:IntKind.i64.wrap ((k:Int)+1)=(k:Int)+1:=IntWalk.i64_in _ (Zi A F);obtain⟨c0,c1,c2,c3,c4,c5,c6,c7⟩:=E1.o.eight;clear J M ac r1 r2 g1 g2;go_wp2_with fail
   with_reducible refine CT.o.mono ?_
   rintro e w1 ⟨ah,rfl,hy,hb⟩;have aq:=qh j.o.size;have HY:=qh hy
   have aj:=qh (show ∀ N∈ts,∀ b,FV.blk N.c b->b<wr.heap.size from λN ht b au=>by
    obtain⟨i,D⟩:=List.mem_iff_getElem?.1 ht;have I:=(List.getElem?_eq_some_iff.1 D).1;obtain⟨u2,aw⟩:∃ u2,(t.take k)[i]?=some u2:=⟨_,List.getElem?_eq_getElem (by rw[<- h.o.len];exact I)⟩
    exact((h.o.each i N u2 D aw).QV b au).2)
   have h:=qh<|h.o.below hb;have j:=qk j hb;clear hy hb CT c0 c1 c2 c3 c4 c5 c6 c7;go_wp2_with (first | (at_builtin;refine YL (t:=⟨ah,l.m⟩) rfl _ _ rfl rfl (OT.below h.o.row (zk.alloc zj _)) (by rw[f.o];have:=A.o;have:=F.o;omega) (by have h9:=j.o.size;rw[World.size_alloc];omega) rfl (Bxs.new _ _ _) rfl ?_))
   intro R H w9 u K hg C;have s:Bl w1 (w1.alloc (.cells (cTv ah l.m).toArray 37)):=zk.alloc zj _;have y:=OT.below h.o.row s
   have ar:=qh (show jeg n w9 n.heap.size (.slice R (k+1) H) (ts++[⟨ah,l.m⟩]) (t.take (k+1)) by
    refine⟨by rw[f.o] at u;exact u,?_,λi N v z B=>?_,?_⟩
    ·rw[List.length_append,f.o,List.length_take,O.o];have:=A.o;simp;omega
    ·by_cases D:i<k
     ·rw[List.getElem?_append_left (by rw[f.o];exact D)] at z;rw[List.getElem?_take,if_pos Zo] at B;exact((h.o.each i N v z (by rw[List.getElem?_take,if_pos D];exact B)).below s).grown y hg
     ·have I:=(List.getElem?_eq_some_iff.1 z).1;rw[List.length_append,f.o] at I
      obtain rfl:i=k:=by simp at I;omega
      rw[List.getElem?_append_right (by rw[f.o];exact zj),f.o,Nat.sub_self] at z;obtain rfl:(⟨ah,l.m⟩:TV)=N:=Option.some.inj z;rw[List.getElem?_take,if_pos Zo,HU.o] at B;obtain rfl:=Option.some.inj B;exact TwE.grown (TwE.below ⟨rfl,V,X,R1.o,R2.o,HY.o.mono aq.o⟩ s) y hg
    ·refine List.pairwise_append.2 ⟨h.o.ap,List.pairwise_singleton _ _,λN ht aC hs=>?_⟩;rw[List.mem_singleton.1 hs];intro b z B;have:=aj.o N ht b z;have:=(HY.o.QV b B).1
     omega)
   have Q:=qh<|j.o.trans (C.ofAlloc j.o.size);have am:=qh f.o;rw[am.o];clear u K hg C s y;go_wp2;go_roundw
   case rel=>exact⟨k+1,_,R,H,A.o,rfl,rfl,ar.o,Q.o⟩
   case measure=>simp[intOf];have:=A.o;omega
  ·have ax:¬((k:Int)<(d:Int)):=Zo;obtain rfl:k=d:=Zh ak;clear J
   have h:=qh (show jeg n wr n.heap.size (.slice a k c) ts t by
    have ai:=h.o
    rwa [List.take_of_length_le (by rw[O.o];exact zj)] at ai)
   go_wp2_with (first | (at_builtin;refine YL (t:=Ua) rfl _ _ rfl rfl (OT.below h.o.row (zk.alloc zj _)) (by rw[f.o];have:=F.o;omega) (by have h9:=j.o.size;rw[World.size_alloc];omega) rfl (Bxs.new _ _ _) rfl ?_))
   intro R H w9 u K hg C;have s:Bl wr (wr.alloc (.cells (TV.cells Ua).toArray 37)):=zk.alloc zj _;have y:=OT.below h.o.row s;rw[f.o] at u K ⊢;have TP:=qh<|show TwP n w9 n.heap.size ⟨R,k,H⟩ ts t from⟨u,O.o.symm,h.o.len,λi N v z B=>((h.o.each i N v z B).below s).grown y hg,h.o.ap⟩;have Q:=qh<|j.o.trans (C.ofAlloc j.o.size);have ay:(k:Int)<=(H:Int):=Zo;have az:k<=H:=Zo;clear u K hg C s y;go_wp2;go_ret;exact⟨⟨R,k,H⟩,ts,rfl,rfl,TP.o,Q.o⟩
abbrev tsOf (L:List TO):List TV:=L.map Prod.fst
abbrev LsOf (Xs:List (PV × List TO)):List (List TV):=Xs.map λe=>e.2.map Prod.fst
theorem jh1 {o:Int} (d f:Nat) {D:PV} {z:List TO} {a:Option Addr} {n c:Nat} {s:List (PV × List TO)} (l:RawL w D z) (h:RawR w a n s) (j:d<=1000) :
  Cl 21 #[.int .u8 o,.int .i64 (d:Int),.int .i64 (f:Int),D.v,.slice a n c] w (BR w (DGr o d f (tsOf z) (LsOf s))):=by
 have F:=dgreat o d f D (tsOf z) a c (s.map λe=>(e.1,tsOf e.2)) w l.1.1 (by rw[List.length_map];exact l.1.2.1) l.2 (λH j=>by
   obtain⟨e,u,rfl⟩:=List.mem_map.1 j
   exact l.1.2.2.2.2 e u) (by rw[List.map_map];exact h.row) (λe u=>by
   obtain⟨A,y,rfl⟩:=List.mem_map.1 u;obtain⟨t,B⟩:=h.e A y
   exact⟨t.1,by rw[List.length_map];exact t.2.1,B,λH j=>by
    obtain⟨I,C,rfl⟩:=List.mem_map.1 j
    exact t.2.2.2.2 I C⟩) (by rw[List.length_map,h.len];exact h.n) j
 rw[List.length_map,h.len,List.map_map] at F;exact F
theorem DGr.n {o:Int} {f d n:Nat} {h:List (PV × List TO)} {a:Option Addr} (l:DGr o f d ts (LsOf h)) (j:RawR w a n h):n<=4:=by
 have:=l.n4;rw[List.length_map,j.len] at this;exact this
theorem KP.at_ {o n:Nat} (u:KP w ⟨some ⟨b,o,none⟩,n,c⟩ P) (s:i<n):∃ (d:TV) (q:Rat),RE w b o i d/\KF w d.c q/\P[i]?=some (d.m,q):=by
 obtain⟨d,q,f,t,e,h,l,j⟩:=u.get s
 obtain⟨rfl,rfl⟩:b=f/\o=t:=by injection e with e;injection e with e1 e2;exact⟨e1,e2⟩
 exact⟨d,q,h,l,j⟩
theorem jdx {A:FV} {z:TypeId} {C:List Value} (B:EF w lo A q) (f:Bxs w b z C) (h:128≠z) (d j l n s t u y:Value):EF (Xr w b d j l n s t u y) lo A q :=
 (((((((B.Jt f h 0 d).Jt (f.put 0 d) h 1 j).Jt ((f.put 0 d).put 1 j) h 2 l).Jt (((f.put 0 d).put 1 j).put 2 l) h 3 n).Jt ((((f.put 0 d).put 1 j).put 2 l).put 3 n) h 4 s).Jt (((((f.put 0 d).put 1 j).put 2 l).put 3 n).put 4 s) h 5 t).Jt ((((((f.put 0 d).put 1 j).put 2 l).put 3 n).put 4 s).put 5 t) h 6 u).Jt (((((((f.put 0 d).put 1 j).put 2 l).put 3 n).put 4 s).put 5 t).put 6 u) h 7 y
theorem Vw (o:Int) (F:PV) (P:List Tm) (K:World) (hx:AP K F P) (hq:∀ d∈P,LQ d.2 900000) (hn:F.n<=1000000) (az:P≠[]) :
  Cl 9 #[.int .u8 o,F.v] K λe w'=>∃ (bh:FV) (d:Tm),e=.returned (.tuple #[TV.v ⟨bh,d.1⟩,.bool true])/\EF w' K.heap.size bh d.2/\Zr (JN o) P d/\Bl K w':=by
 obtain⟨⟨za,t,zc⟩,hz,aF,ar⟩:=ja8 hx hq Zo;obtain⟨bi,hV⟩:=gn (K.alloc (.cells zTv.toArray 37));have X:=bq hV (zk.alloc zj _);have B4:=qh<|al hV;have H:=qh<|ar bi X;have FZ:=qh hz;have HQ:=qh hq;have HN:=qh<|show t<=1000000 from zm aF hn;have HL:=qh<|show t=P.length from hz.len;have aN:=qh az;have h:=qh X;have HV:=qh hV;obtain⟨xa,xn,xc⟩:=F;clear hx hq hn az hz aF ar X hV;change Cl 9 #[.int .u8 o,.slice xa xn xc] K _;go_enter func9,ntmps9
 go_upto_region 1 with (fail)
 rw[<- HV.o];go_wp2_with fail
 with_reducible refine H.o.mono ?_
 rintro e w1 ⟨he,f⟩;obtain rfl:e=.returned (.slice za t zc):=he;have B4:=qh<|B4.o.bl f;have h:=qk h f;have u:=qh (show 0<t by rw[HL.o];exact List.length_pos_iff.2 aN.o);obtain⟨t0,q0,pb,po,rfl,A,aA,aE⟩:=FZ.o.get u.o;have E0:=qh<|A.below h.o;have am:=qh aE;have aI:=qh aA;have h0:¬((t:Int)=0):=Zh u;have aO:(0:Int)<(t:Int):=Zh u;clear f H A aA aE;obtain⟨c0,c1,c2,c3,c4,c5,c6,c7⟩:=E0.o.eight;simp only[Nat.zero_mul,Nat.add_zero] at c0 c1 c2 c3 c4 c5 c6 c7
 go_upto_region 5 with (fail)
 obtain⟨bj,hU⟩:=gn (w1.alloc (.cells (cTv t0.c t0.m).toArray 37));have V:=bq hU (zk.alloc zj _);have n:=qh<|al hU;obtain⟨A2,M⟩:=gn w1.heap.size;have aH:=qh (show K.heap.size<=A2 by rw[M];exact h.o.size);have s:=qh (show K.heap.size≠A2 by have:=B4.o.lt;omega);have B4:=qh<|B4.o.bl V;have h:=qk h V;rw[<- hU,<- M];rw[<- M] at n;clear hU V M c0 c1 c2 c3 c4 c5 c6 c7 h0 aO E0;go_wp2;go_loopw [7] (λi wr=>∃ (C:Nat) (d:TV) (k:Nat) (q:Rat),1<=C/\C<=t/\i=.int .i64 C/\k<t/\KF K d.c q/\P[k]?=some (d.m,q)/\(∀ (i:Nat) (J:Tm),P[i]?=some J->i<C->JN o J.1<=JN o d.m)/\Bxs wr A2 37 (cTv d.c d.m)/\Bxs wr K.heap.size 37 zTv/\Bl K wr) (λi _=>t-(intOf i).toNat)
 case atStart =>
  refine⟨1,t0,0,q0,zj,u.o,rfl,u.o,aI.o,am.o,λi J y h2=>?_,n.o,B4.o,h.o⟩;obtain rfl:i=0:=Zo;rw[am.o] at y;obtain rfl:=Option.some.inj y;exact Int.le_refl _
 case round =>
  obtain⟨C,d,k,q,av,hj,rfl,ax,aw,aB,Y,ao,an,aq⟩:=hrel;have aW:=qh av;have HJ:=qh hj;have aJ:=qh ax;have aj:=qh aw;have T:=qh aB;have S:=qh Y;have n:=qh ao;have B4:=qh an;have h:=qh aq;clear av hj ax aw aB Y ao an aq;have aQ:=qh<|show d.m.Small from FZ.o.small _ (List.mem_of_getElem? T.o);by_cases O:C<t
  ·have z:=qh O;have aV:(C:Int)<(t:Int):=Zo;obtain⟨J,uq,A,ay,ah⟩:=FZ.o.at_ O;have aK:=qh ay;have HU:=qh ah;have aP:=qh A;have E1:=qh<|A.below h.o;have aR:=qh<|show J.m.Small from FZ.o.small _ (List.mem_of_getElem? ah);obtain⟨U,au⟩:=gn (Mono.Js (JN o J.m) (JN o d.m));have R:=qh au;have ek:IntKind.i64.wrap ((C:Int)+1)=(C:Int)+1:=IntWalk.i64_in _ (Zi z HN);clear ah au A ay O
   go_upto_region 8 with (fail)
   refine FS.Jd 9 [] (FS.JI [(8,FS.Sp.know (.int .i64 U))])
    (λw'=>Bl wr w') Zk Zk Zk
    (FS.Jb (FS.Sp.Jk _ _) (FS.Jh)) (λ_ _ D f=>D.trans (f.mono D.size)) (zk.drew) ?_
   simp only[zu,zi,ze,zx,zy,zv,zw]
   iterate 8
    refine FS.rdw (λw' l=>by obtain⟨Z,aa,ab,ac,ad,ae,af,ag⟩:=(E1.o.below l).eight;obtain⟨Z,aa,ab,ac,ad,ae,af,ag,aC,aD⟩:=(n.o.bl l).d8;go_simp;try rfl) ?_
   refine FS.Jc rfl rfl rfl (λw' ai=>?_) ?_
   ·have l:=ai.world;refine FS.Jm (FS.PK (.int .i64 U)) ?_ (λ_ _ D=>D.post);go_simp;have H:=(show Cl 37 #[.int .u8 o,.agg #[.int .u16 J.m.x,.int .u16 J.m.y,.int .u16 J.m.z,.int .u16 J.m.t],.agg #[.int .u16 d.m.x,.int .u16 d.m.y,.int .u16 d.m.z,.int .u16 d.m.t]] w' _ from jed o J.m d.m w' aR.o aQ.o);rw[<- R.o] at H;refine H.mono ?_;rintro e aU ⟨rfl,f⟩;exact⟨_,rfl,rfl,f⟩
   rintro _ rfl
   conv=>arg 10;simp only[Act.put,zq0,zq1,zq2]
   refine FS.Jn (λB f hF=>?_);clear hF;have n:=qh<|n.o.bl f;have B4:=qh<|B4.o.bl f;have h:=qk h f;clear f;by_cases N:U>0
   ·have aT:0<U:=N;have Q:=qh N;have E1:=qh<|aP.o.below h.o;obtain⟨c0,c1,c2,c3,c4,c5,c6,c7⟩:=E1.o.eight;have cf:=n.o.fz;have cl:=n.o.lt;obtain⟨a7,a8,a9,ba,bb,bc,be,bf⟩:=n.o.c8;go_wp2;go_roundw
    case rel =>
     refine⟨C+1,J,C,uq,Zo,Zh z,rfl,z.o,aK.o,HU.o,λi v y h2=>?_,J9 n.o ..,?_,J5 h.o aH.o ..⟩
     ·have h3:JN o d.m<JN o J.m:=ZX.1 (by rw[<- R.o];exact Q.o);by_cases h4:i<C
      ·have:=S.o i v y h4;omega
      ·obtain rfl:i=C:=Zo;rw[HU.o] at y;obtain rfl:=Option.some.inj y;exact Int.le_refl _
     ·exact((((((((B4.o.other s.o _).other s.o _).other s.o _).other s.o _).other s.o _).other s.o _).other s.o _).other s.o _)
    case measure=>simp[intOf];have:=z.o;omega
   ·have aT:¬(0<U):=N;have Q:=qh N;go_wp2;go_roundw
    case rel =>
     refine⟨C+1,d,k,q,Zo,Zh z,rfl,aJ.o,aj.o,T.o,λi v y h2=>?_,n.o,B4.o,h.o⟩;by_cases h4:i<C
     ·exact S.o i v y h4
     ·obtain rfl:i=C:=Zo;rw[HU.o] at y;obtain rfl:=Option.some.inj y
      have h3:¬(JN o d.m<JN o J.m):=λD=>Q.o (by rw[R.o];exact ZX.2 D)
      show JN o J.m<=_;omega
    case measure=>simp[intOf];have:=z.o;omega
  ·have bg:¬((C:Int)<(t:Int)):=Zo;have I:=List.mem_of_getElem? T.o
   have aL:=qh (show Zr (JN o) P (d.m,q) from⟨I,λv hv=>by
    obtain⟨i,D⟩:=List.mem_iff_getElem?.1 hv
    exact S.o i v D (by have h8:=(List.getElem?_eq_some_iff.1 D).1;have h5:=HL.o;have h9:=HJ.o;omega)⟩)
   have NT:=qh<|aj.o.below h.o;have ak:=qh<|show LQ q 900000 from HQ.o _ I;have aM:=qh<|show LF d.c 900000 from NT.o.len ak.o zj;have aS:=qh h.o.size;clear O I
   go_upto_region 10 with (fail)
   go_upto_region 10 with (fail)
   refine FS.Jd 6 [] (FS.JI [(2,FS.Sp.made (λF:FV=>F.v) (λF w'=>EF w' wr.heap.size F q) FV.blk)])
    (λw'=>Bl wr w') Zk Zk Zk
    (FS.Jb (FS.Sp.Jf _ (λ_ _ _ D _ hk=>D.kept hk) (FS.JG Zk)) (FS.Jh)) (λ_ _ D f=>D.trans (f.mono D.size)) (zk.drew) ?_
   simp only[zu,zi,ze,zx,zy,zv,zw]
   iterate 2
    refine FS.rdw (λw' l=>by obtain⟨Z,aa,ab,ac,ad,ae,af,ag,aC,aD⟩:=(n.o.bl l).d8;go_simp;try rfl) ?_
   refine FS.Jc rfl rfl rfl (λw' ai=>?_) ?_
   ·have l:=ai.world;refine FS.Jm (FS.PM (λF:FV=>F.v) (λF w'=>EF w' wr.heap.size F q) FV.blk w'.heap.size) ?_ (λ_ _ D=>D.post (λ_ _=>FV.inj));go_simp;have H:=(show Cl 38 #[.agg #[.bool d.c.t.s,.slice d.c.t.a d.c.t.n d.c.t.c,.bool d.c.l.s,.slice d.c.l.a d.c.l.n d.c.l.c]] w' _ from ja9 (c:=d.c) (NT.o.below l).any aM.o ak.o);refine H.mono ?_;rintro e aU ⟨za,rfl,ho,f⟩;exact⟨_,rfl,⟨za,rfl,ho.mono l.size,ho.QV⟩,f⟩
   rintro _ ⟨j,rfl⟩
   conv=>arg 10;simp only[Act.put,zq0,zq1,zq2]
   iterate 3
    refine FS.rdw (λw' l=>by obtain⟨Z,aa,ab,ac,ad,ae,af,ag,aC,aD⟩:=(n.o.bl l).d8;go_simp;try rfl) ?_
   refine FS.Jn (λB f hF=>?_);have aG:=qh<|show EF B wr.heap.size j q from(FS.JQ (val:=(λF:FV=>F.v)) (Φ:=λF w'=>EF w' wr.heap.size F q) (λ_ _=>FV.inj) (hF.all 2));clear hF;have B4:=qh<|B4.o.bl f;have h:=qk h f;clear f;have HD:=qh<|show EF (Xr B K.heap.size (.bool j.t.s) (.slice j.t.a j.t.n j.t.c) (.bool j.l.s) (.slice j.l.a j.l.n j.l.c) (.int .u16 d.m.x) (.int .u16 d.m.y) (.int .u16 d.m.z) (.int .u16 d.m.t)) K.heap.size j q from jdx (aG.o.mono aS.o) B4.o Ze ..;have HB:=qh<|show Bl K (Xr B K.heap.size (.bool j.t.s) (.slice j.t.a j.t.n j.t.c) (.bool j.l.s) (.slice j.l.a j.l.n j.l.c) (.int .u16 d.m.x) (.int .u16 d.m.y) (.int .u16 d.m.z) (.int .u16 d.m.t)) from J5 h.o zj ..;obtain⟨aX,aY,aZ,a0,a1,a2,a3,a4,a5,a6⟩:=B4.o.d8;go_wp2_with fail
   exact bodyPost_ret (Qo rfl _ _ _ _ _ _ _ rfl (J9 B4.o ..) underlying37 rfl Zk) rfl ⟨j,d.m,rfl,q,HD.o,aL.o,HB.o⟩
end Pol
end Go.Proofs.YthacfgmdihcffaaGreatDoor
