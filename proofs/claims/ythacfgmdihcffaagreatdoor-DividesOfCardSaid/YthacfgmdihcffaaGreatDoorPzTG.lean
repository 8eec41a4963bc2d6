/-
  The walk of goes of the document's answer for limbs: how often an amount goes into another one, from the uppermost part on.
-/
import Derived.Test.YthacfgmdihcffaaGreatDoorPzTF
import Derived.RegionTactic
import Derived.Deep.CutBlock
set_option linter.unusedSimpArgs false
set_option linter.unusedVariables false
set_option maxHeartbeats 16000000
set_option maxRecDepth 100000
open Go.Proofs.Tryz
namespace Go.Proofs.YthacfgmdihcffaaGreatDoor
namespace Limb
open Go.RowKit Go.Sort Go.FreshH
variable {w:World} {K N c lo:Nat} {a:Option Addr} {o:Nat->Int}
theorem Bx.new4 (d:World) (i j r:Obj) (b:TypeId) (f g:Value):Bx ((((d.alloc i).alloc j).alloc r).alloc (.cells #[f,g] b)) (d.heap.size+1+1+1) b f g:=by
 have h:=Bx.new (((d.alloc i).alloc j).alloc r) b f g;simp only[World.size_alloc] at h;exact h
theorem Zg {v:Program} {k:Func} {C D E:Tmp} {d:TypeId} (F:k.results=#[.cell C d,.cell D d,.tmp E]) (b:Array Value) (j:World) (y h:Nat) (t u:TypeId) (g f:Array Value) (l i:Nat × Nat) (x:TypeDesc)
  (A:b.getD C undef=.pointer (some ⟨y,0,none⟩)) (hg:j.heap[y]?=some (.cells g t l)) (B:b.getD D undef=.pointer (some ⟨h,0,none⟩)) (n:j.heap[h]?=some (.cells f u i))
  (s:v.underlying d=some x) (m:(match x with | .struct _ | .array _ _=>true | _=>false)=true) (z:(v.info? d).map (·.size)=some g.size) (p:(v.info? d).map (·.size)=some f.size) :
  (results k b).run v j=.ok (.tuple #[.agg g,.agg f,b.getD E undef]) j:=by
 have q:b[C]?.getD undef=.pointer (some ⟨y,0,none⟩):=by simpa using A
 have r:b[D]?.getD undef=.pointer (some ⟨h,0,none⟩):=by simpa using B
 simp[results,F,q,r,asAddr,run_loadVar_row j y t d g l x hg s m z,run_loadVar_row j h u d f i x n s m p]
def XA (a b:Option Addr):Prop:=∀ p q,a=some p->b=some q->p.block≠q.block
def DivR (w:World) (x y:Int) (e:Ending) (w':World):Prop :=
 ∃ aq ar,e=.returned (.tuple #[Jv (decide (x/y<0)) aq (Ja (x/y).natAbs) (Ja (x/y).natAbs),Jv (decide (x%y<0)) ar (Ja (x%y).natAbs) (Ja (x%y).natAbs),.int .i64 0]) /\
  Own 128 w' w.heap.size aq (Ja (x/y).natAbs) (Ja (x/y).natAbs) (dgi (x/y).natAbs)/\Own 128 w' w.heap.size ar (Ja (x%y).natAbs) (Ja (x%y).natAbs) (dgi (x%y).natAbs) /\
  XA aq ar/\(aq=none->Ja (x/y).natAbs=0)/\(ar=none->Ja (x%y).natAbs=0)/\Bl w w'
structure ZN (w:World) (lo:Nat) (a:Option Addr) (K c N:Nat) (o:Nat->Int):Prop where
 own:Own 128 w lo a K c o
 dig:Dig o K
 sum:Jj o K=(N:Int)
 le:K<=100000001
 nil:a=none->c=0
theorem ZN.below {w':World} (b:ZN w lo a K c N o) (d:Bl w w'):ZN w' lo a K c N o:=⟨b.own.below d,b.dig,b.sum,b.le,b.nil⟩
theorem ZN.other (b:ZN w lo a K c N o) {p:Addr} (d:p.block<lo) (v:Value):ZN (w.setCell p v) lo a K c N o:=⟨b.own.other d v,b.dig,b.sum,b.le,b.nil⟩
theorem ZN.oz (f:ZN w lo a K c N o) {d:Addr} {v:Value} (b:d.block<lo:=by dsimp only;omega):ZN (w.setCell d v) lo a K c N o:=f.other b v
theorem ZN.num (f:ZN w lo a K c N o):Own 128 w lo a (Ja N) (Ja N) (dgi N):=by
 have d:(Jj o K).toNat=N:=by rw[f.sum];omega
 have b:=JW f.dig;rw[d] at b
 refine f.own.cut b λh g=>?_
 have:=Zt f.dig h Zo;rw[d] at this;exact this.symm
theorem ZN.none (b:ZN w lo a K c N o) (d:a=none):Ja N=0:=by
 have g:(Jj o K).toNat=N:=by rw[b.sum];omega
 have f:=JW b.dig;rw[g] at f;have h:=b.nil d;have i:=b.own.le;omega
theorem Y9 (q k:Bool) (a:Option Addr) (l n f j:Nat) (o:Nat->Int) (m:World) (b:ZN m j a l n f o) (p:(q&&decide (0<Ja f))=k) :
  Cl 166 #[.bool q,.slice a l n] m λe g=>e=.returned (Jv k a (Ja f) (Ja f))/\Own 128 g j a (Ja f) (Ja f) (dgi f)/\Bl m g:=by
 have h:=Zw q a l n o m b.own.rd b.dig (by have:=b.le;omega) b.own.le b.nil
 have d:(Jj o l).toNat=f:=by rw[b.sum];omega
 rw[d,p] at h;refine h.mono ?_;rintro e g ⟨rfl,i⟩;refine⟨rfl,(b.own.below i).cut ?_ ?_,i⟩
 ·rw[<- d];exact JW b.dig
 ·intro s r;have:=Zt b.dig s (by have:=JW b.dig;rw[d] at this;omega);rw[d] at this;exact this.symm
theorem short_of {j n b:Nat} {h i:Int} (f:∃ g:Nat,Value.tuple #[.slice (some ⟨j,0,none⟩) n n,.int .u32 i]=.tuple #[.slice (some ⟨g,0,none⟩) n n,.int .u32 i]/\∃ d,Dig d n/\Jj d n=h/\Own 128 w b (some ⟨g,0,none⟩) n n d) :
  ∃ d,Dig d n/\Jj d n=h/\Own 128 w b (some ⟨j,0,none⟩) n n d:=by
 obtain⟨g,e,f⟩:=f;simp only[Value.tuple.injEq,Array.mk.injEq,List.cons.injEq,Value.slice.injEq,Option.some.injEq,Addr.mk.injEq,and_true] at e;rw[e];exact f
open Classical in
theorem V7 (f d:Int) (F D:Option Addr) (c1 c2:Nat) (B:World) (Z:Rd B F (Ja f.natAbs) (dgi f.natAbs)) (ci:Ja f.natAbs<=10000000) (b9:Ja f.natAbs<=c1) (h2:Rd B D (Ja d.natAbs) (dgi d.natAbs)) (cj:Ja d.natAbs<=10000000) (bu:Ja d.natAbs<=c2) (hz:d≠0) :
  Cl 203 #[Jv (decide (f<0)) F (Ja f.natAbs) c1,Jv (decide (d<0)) D (Ja d.natAbs) c2] B (DivR B f d):=by
 obtain⟨k,av⟩:=gn (Ja f.natAbs);obtain⟨l,aj⟩:=gn (Ja d.natAbs);obtain⟨s1,aA⟩:=gn (decide (f<0));obtain⟨G,aB⟩:=gn (decide (d<0))
 have co:0<l:=by rw[aj];exact XX.2 Zo
 have a8:=JY f;have a9:=JY d;have HZ:=qh hz;rw[<- av,<- aA] at a8;rw[<- aj,<- aB] at a9;rw[<- av] at Z ci b9 ⊢;rw[<- aj] at h2 cj bu ⊢;rw[<- aA,<- aB];have aI:=qh (λ(h:World) (g:Bl B h)=>Qw s1 F k c1 (dgi f.natAbs) h (Z.below g) Zo);have aJ:=qh (λ(h:World) (g:Bl B h)=>Qw G D l c2 (dgi d.natAbs) h (h2.below g) Zo);rw[decide_eq_true a8] at aI;rw[decide_eq_true a9] at aJ;have HR:=qh<|And.intro Z h2;have t:=qh<|And.intro (And.intro av aj) (And.intro aA aB);have B1:=((((Bx.new B 30 (.bool s1) (.slice F k c1)).alloc (.cells #[.bool G,.slice D l c2] 30)).alloc (.cells #[.bool false,.slice none 0 0] 30)).alloc (.cells #[.bool false,.slice none 0 0] 30));have B2:=(((Bx.Zu B (.cells #[.bool s1,.slice F k c1] 30) 30 (.bool G) (.slice D l c2)).alloc (.cells #[.bool false,.slice none 0 0] 30)).alloc (.cells #[.bool false,.slice none 0 0] 30));have B3:=((Bx.new3 B (.cells #[.bool s1,.slice F k c1] 30) (.cells #[.bool G,.slice D l c2] 30) 30 (.bool false) (.slice none 0 0)).alloc (.cells #[.bool false,.slice none 0 0] 30));have B4:=(Bx.new4 B (.cells #[.bool s1,.slice F k c1] 30) (.cells #[.bool G,.slice D l c2] 30) (.cells #[.bool false,.slice none 0 0] 30) 30 (.bool false) (.slice none 0 0));clear a8 a9 Z h2 av aj aA aB hz;go_enter func203,ntmps203
 go_upto_region 1 with (fail)
 obtain⟨aF,hW⟩:=gn ((((B.alloc (.cells #[.bool s1,.slice F k c1] 30)).alloc (.cells #[.bool G,.slice D l c2] 30)).alloc (.cells #[.bool false,.slice none 0 0] 30)).alloc (.cells #[.bool false,.slice none 0 0] 30));have C:=qh ((zk.alloc (by go_size) _ |>.alloc (by go_size) _ |>.alloc (by go_size) _ |>.alloc (by go_size) _):Bl B ((((B.alloc (.cells #[.bool s1,.slice F k c1] 30)).alloc (.cells #[.bool G,.slice D l c2] 30)).alloc (.cells #[.bool false,.slice none 0 0] 30)).alloc (.cells #[.bool false,.slice none 0 0] 30)))
 have bs:B.heap.size+1+1+1+1=aF.heap.size:=by rw[hW];simp
 rw[<- hW] at B1 B2 B3 B4 C;rw[<- hW];clear hW;have aK:=qh B1;have aL:=qh B2;have bf:=qh B3;have bg:=qh B4;have aQ:=qh bs;clear B1 B2 B3 B4 bs
 have fb:=λ(h:World) (g:Bl aF h)=>And.intro (aK.o.bl g) (And.intro (aL.o.bl g) (And.intro (bf.o.bl g) (bg.o.bl g)))
 have FB:=qh fb;clear fb;obtain⟨x,y,z,A⟩:=aK.o.all;obtain⟨m,p,q,r⟩:=aL.o.all;go_wp2_with fail
 refine(aI.o _ C.o).mono ?_;rintro e w1 ⟨rfl,aX⟩;have K:=FB.o _ aX;have i:=qh aX;clear x y z A m p q r aX;obtain⟨m,p,q,r⟩:=K.2.1.all;clear K;go_wp2_with fail
 refine(aJ.o _ (C.o.trans (i.o.mono C.o.size))).mono ?_;rintro e w2 ⟨rfl,bt⟩;have i:=qk i bt;have K:=FB.o _ i.o;clear m p q r bt aI aJ;obtain⟨x,y,z,A⟩:=K.1.all;obtain⟨m,p,q,r⟩:=K.2.1.all;clear K;have cm:decide ((l:Int)=0)=false:=zo Zo
 have cn:((l:Int)==0)=false:=by simp;omega
 have AM:=qh<|XE f.natAbs d.natAbs F D c1 c2 w2 (by rw[<- t.o.1.1];exact HR.o.1.below (C.o.trans (i.o.mono C.o.size))) (by rw[<- t.o.1.2];exact HR.o.2.below (C.o.trans (i.o.mono C.o.size))) (by have:=t.o.1.1;omega) (by have:=t.o.1.2;omega);rw[<- t.o.1.1,<- t.o.1.2] at AM;obtain⟨cz,a4⟩:=gn (Js (f.natAbs:Int) (d.natAbs:Int));rw[<- a4] at AM;have aO:=qh a4;clear a4
 go_upto_block 1 with (fail)
 go_cut [7,8] (λv7 v8 wx=>∃ V K1 E p1 o2 K2 d2 p2,v7=.slice V K1 E/\v8=.slice o2 K2 d2/\ZN wx aF.heap.size V K1 E (f.natAbs/d.natAbs) p1/\ZN wx aF.heap.size o2 K2 d2 (f.natAbs%d.natAbs) p2/\XA V o2/\Bl aF wx)
 case first =>
  go_wp2_with fail
  refine AM.o.mono ?_;rintro e w3 ⟨rfl,bR,rfl⟩;obtain⟨w3,a7⟩:=gn (w2.drewN bR);rw[<- a7];have i:=qh<|bq a7 (QC i.o bR);clear a7 AM x y z A m p q r;have K:=FB.o _ i.o;obtain⟨x,y,z,A⟩:=K.1.all;obtain⟨m,p,q,r⟩:=K.2.1.all;clear K;have ai:=qh<|And.intro (HR.o.1.below (C.o.trans (i.o.mono C.o.size))) (HR.o.2.below (C.o.trans (i.o.mono C.o.size)));by_cases ch:cz<0
  ·have CL:=qh<|XR F k c1 (dgi f.natAbs) w3 ai.o.1 Zo;go_wp2_with fail
   refine CL.o.mono ?_;rintro e w4 ⟨aC,cE,rfl,hO,hn,g⟩;have H:=qh<|And.intro (hO.mono i.o.size) hn;have i:=qk i g;clear hO hn g CL x y z A m p q r;go_wp2_with fail
   go_meet
   case rel =>
    have bn:f.natAbs<d.natAbs:=by
     have v:=aO.o
     rcases Nat.lt_or_ge f.natAbs d.natAbs with Z | Z
     ·exact Z
     ·exfalso
      rcases Nat.lt_or_ge d.natAbs f.natAbs with h2 | h2
      ·rw[JS Zo] at v;omega
      ·rw[J7 Zo] at v;omega
    refine⟨none,0,0,λ_=>0,aC,k,cE,dgi f.natAbs,rfl,rfl,⟨⟨zj,Or.inl ⟨rfl,rfl,rfl⟩,λcp hi=>Zo⟩,λcp hi=>Zo,by rw[Nat.div_eq_of_lt bn];rfl,Zo,λ_=>rfl⟩,
     ⟨H.o.1,Jr _ _,by rw[Nat.mod_eq_of_lt bn,t.o.1.1];exact Jz _,Zo,H.o.2⟩,(λaf cq v=>by cases v),i.o⟩
  ·have cu:decide (cz<0)=false:=zo ch
   have br:d.natAbs<=f.natAbs:=by
    have v:=aO.o
    rcases Nat.lt_or_ge f.natAbs d.natAbs with Z | Z
    ·rw[JK Zo] at v;omega
    ·exact Z
   have bi:=qh br;clear br;by_cases bQ:l=1
   ·subst bQ;obtain⟨bb,bo,rfl,hcell⟩:=ai.o.2.cells Zo
    have e0:d.natAbs<1000000000:=by have:=JE d.natAbs;rw[<- t.o.1.2] at this;exact this
    have U:dgi d.natAbs 0=(d.natAbs:Int):=by show((dg d.natAbs 0:Nat):Int)=_;rw[Yf];omega
    have cc:w3.cell? ⟨bb,bo,none⟩=some (.int .u32 (d.natAbs:Int)):=by have:=hcell 0 Zo;rw[Nat.add_zero] at this;rw[this];show some (Value.int .u32 (dgi d.natAbs 0))=_;rw[U]
    have aS:=qh (λ(h:World) (g:Bl w3 h)=>jb1 F k c1 (dgi f.natAbs) (d.natAbs:Int) h (ai.o.1.below g) (Jr _ _) Zo (Zh HZ) Zo);have HQ:=qh (show Jj (dgi f.natAbs) k=(f.natAbs:Int) by rw[t.o.1.1];exact Jz _);rw[HQ.o] at aS;clear hcell U;have ct:bb<w3.heap.size:=block_lt_of_cell cc;have HN:=qh e0;clear e0;go_wp2_with fail
    have bT:=i
    refine Ji 11 (JI [(6,Sp.made (λbS:Nat=>.tuple #[.slice (some ⟨bS,0,none⟩) k k,.int .u32 ((f.natAbs:Int)%(d.natAbs:Int))]) (λbS h=>∃ af,Dig af k/\Jj af k=(f.natAbs:Int)/(d.natAbs:Int)/\Own 128 h w3.heap.size (some ⟨bS,0,none⟩) k k af))]) (λh=>Bl w3 h) Zk Zk
     (Jb (Sp.Jf λaC B h v g=>by obtain⟨af,E,d2,d3⟩:=v;exact⟨af,E,d2,d3.below g⟩) Jh) (λ_ _ v g=>v.trans (g.mono v.size)) (zk.drew) ?_
    simp only[zx,zy,zv,zw]
    iterate 6
     refine rdw (λh j=>by have hs:=(VU j).1 B.heap.size 1 Zo;have hs:=(VU j).1 (B.heap.size+1) 1 Zo;have hs:=(VU j).1 bb bo Zo;go_simp;try rfl) ?_
    (refine Jc rfl rfl (λh am=>?_) ?_;· (have j:=Has.world am;go_simp;((refine(aS.o h j).mono ?_;rintro e bO ⟨af,rfl,E,d2,d3,g⟩;exact⟨_,rfl,⟨⟨_,rfl⟩,⟨_,rfl,af,E,d2,d3.mono j.size⟩⟩,g⟩))))
    rintro _ ⟨bS,rfl⟩
    conv=>arg 10;simp only[Act.put,zq0,zq1,zq2]
    iterate 4
     refine rd0 ?_
    refine Jn (λw4 aY hF=>?_);obtain⟨af,E,d2,d3⟩:=short_of (hF 6);have H:=qh<|And.intro E (And.intro d2 d3);have bv:=(d3.blk rfl).2.2;have bW:=qh<|show bS<w4.heap.size from bv;have i:=qk i aY;have cs:=qh aY.size;clear hF E d2 d3 aY bv aS x y z A m p q r cc;go_wp2_with fail
    go_meet
    case rel =>
     have cv:=bW.o;have az:=i.o.size;have ck:0<=(f.natAbs:Int)%(d.natAbs:Int)/\(f.natAbs:Int)%(d.natAbs:Int)<1000000000:=⟨Int.emod_nonneg _ (Zh HZ),by have:=Int.emod_lt_of_pos (f.natAbs:Int) (b:=(d.natAbs:Int)) (Zh HZ);have:=HN.o;omega⟩
     refine⟨some ⟨bS,0,none⟩,k,k,af,some ⟨w4.heap.size,0,none⟩,1,1,λ_=>(f.natAbs:Int)%(d.natAbs:Int),rfl,rfl,⟨(H.o.2.2.mono bT.o.size).JD _,H.o.1,by rw[H.o.2.1];exact(Int.natCast_ediv _ _).symm,Zo,λv=>by cases v⟩,
      ⟨Own.Xa (row_one w4 _ _) az (λcp hi=>Zo),λcp hi=>ck,?_,Zo,λv=>by cases v⟩,(λaf cq hp hq=>by cases hp;cases hq;dsimp only;omega),i.o.alloc az _⟩
     show 0+(f.natAbs:Int)%(d.natAbs:Int)*((pw 0:Nat):Int)=_;rw[Qj,Int.natCast_emod];omega
   ·obtain⟨n,hn⟩:∃ n,l=n+1:=⟨l-1,Zo⟩;obtain⟨bR,hm⟩:∃ bR,n=bR+1:=⟨n-1,Zo⟩;obtain⟨ba,hM⟩:∃ ba,ba+l=k+1:=⟨k+1-l,by have:=JP bi.o;rw[<- t.o.1.1,<- t.o.1.2] at this;omega⟩
    have DV:=qh (jg7 F D k c1 l n bR c2 (k+1) ba (dgi f.natAbs) (dgi d.natAbs) w3 ai.o.1 ai.o.2 (Jr _ _) (Jr _ _) Zo hn hm rfl hM (by have:=JP bi.o;rw[<- t.o.1.1,<- t.o.1.2] at this;exact this)
     (by have v:=Uh (m:=d.natAbs) (Zh HZ);rw[<- t.o.1.2,hn,Nat.add_sub_cancel] at v;show((dg d.natAbs n:Nat):Int)≠0;omega))
    have cl:((l:Int)==1)=false:=by simp;omega
    have HM:=qh hM;have cr:=qh hn;clear hn hm hM;go_wp2_with fail
    refine DV.o.mono ?_;rintro e w4 ⟨gq,gr,qp,rp,rfl,bA,E,d2,d3,d4,d5,d6,g⟩;have H:=qh<|And.intro (And.intro E (And.intro d2 d5)) (And.intro d3 (And.intro d4 d6));have b1:=qh bA;have az:=i.o.size;have bU:=qh<|i.o.trans (g.mono i.o.size);clear bA E d2 d3 d4 d5 d6 g DV az x y z A m p q r;go_wp2_with fail
    go_meet
    case rel =>
     have U:Jj (dgi f.natAbs) k=(f.natAbs:Int):=by rw[t.o.1.1];exact Jz _
     have e2:Jj (dgi d.natAbs) l=(d.natAbs:Int):=by rw[t.o.1.2];exact Jz _
     exact⟨some ⟨gq,0,none⟩,ba,ba,qp,some ⟨gr,0,none⟩,l,l,rp,rfl,rfl,⟨H.o.1.2.2.mono i.o.size,H.o.1.1,by rw[H.o.1.2.1,U,e2];exact(Int.natCast_ediv _ _).symm,Zh HM,λv=>by cases v⟩,
      ⟨H.o.2.2.2.mono i.o.size,H.o.2.1,by rw[H.o.2.2.1,U,e2];exact(Int.natCast_emod _ _).symm,Zo,λv=>by cases v⟩,(λaf cq hp hq=>by cases hp;cases hq;exact b1.o),bU.o⟩
 case rest =>
  obtain⟨V,K1,E,p1,o2,K2,d2,p2,rfl,rfl,A1,A2,ak,g⟩:=hcut;obtain⟨w4,rfl⟩:=gn wc;have i:=qh g;have ag:=qh A1;have ah:=qh A2;have bV:=qh ak;clear A1 A2 ak g AM aO;obtain⟨sq,a5⟩:=gn (decide (q0 f d<0));obtain⟨sr,a6⟩:=gn (decide (r0 f d<0));obtain⟨Y,aV⟩:=gn (Ja (f.natAbs/d.natAbs));obtain⟨Lr,aW⟩:=gn (Ja (f.natAbs%d.natAbs));have CQ:=qh (λ(h:World) (g:Bl w4 h)=>Y9 (!(s1==G)) sq V K1 E _ aF.heap.size p1 h (ag.o.below g) (by rw[t.o.2.1,t.o.2.2,a5];exact jil f d));have CR:=qh (λ(h:World) (g:Bl w4 h)=>Y9 s1 sr o2 K2 d2 _ aF.heap.size p2 h (ah.o.below g) (by rw[t.o.2.1,a6];exact jim f d));rw[<- aV] at CQ;rw[<- aW] at CR;have u:=qh<|And.intro (And.intro a5 a6) (And.intro aV aW);clear a5 a6 aV aW;have HS:=qh (λ(h:World) (g:Bl w4 h)=>And.intro (FB.o h (i.o.trans (g.mono i.o.size))).1.all.1 (FB.o h (i.o.trans (g.mono i.o.size))).2.1.all.1)
  go_upto_region 12 with (fail)
  refine Ji 10 (JI [(6,Sp.know (Jv sq V Y Y))]) (λh=>Bl w4 h) Zk Zk
   (Jb (Sp.Jk _) Jh) (λ_ _ v g=>v.trans (g.mono v.size)) (zk.drew) ?_
  simp only[zx,zy,zv,zw]
  iterate 6
   refine rdw (λh j=>by have hs:=(HS.o _ j).1;have hs:=(HS.o _ j).2;go_simp;try rfl) ?_
  (refine Jc rfl rfl (λh am=>?_) ?_;· (have j:=Has.world am;go_simp;((refine(CQ.o h j).mono ?_;rintro e bO ⟨rfl,ho,g⟩;exact⟨_,rfl,rfl,g⟩))))
  rintro _ rfl
  conv=>arg 10;simp only[Act.put,zq0,zq1,zq2]
  iterate 3
   refine rdw (λh j=>by have hs:=(HS.o _ j).1;go_simp;try rfl) ?_
  refine Jn (λw5 aw hF=>?_);have aU:=i.o.trans (aw.mono i.o.size);have be:=qh<|CR.o w5 aw;have aM:=qh aw;clear hF aw CR CQ HS;go_wp2_with fail
  refine be.o.mono ?_;rintro e w6 ⟨rfl,-,aZ⟩;have i:=qh<|aU.trans (aZ.mono aU.size);have HX:=qh<|aM.o.trans (aZ.mono aM.o.size);have ag:=qh<|ag.o.below HX.o;have ah:=qh<|ah.o.below HX.o;clear aM HX aZ aU be;have K:=FB.o _ i.o;obtain⟨x,y,z,A⟩:=K.1.all;obtain⟨m,p,q,r⟩:=K.2.1.all;obtain⟨I,J,M,O⟩:=K.2.2.1.all;obtain⟨P,Q,R,S⟩:=K.2.2.2.all;have HK:=qh K;clear K
  go_upto_if 79 with (fail)
  obtain⟨aD,hV⟩:=gn ((((w6.setCell ⟨B.heap.size+1+1,0,none⟩ (.bool sq)).setCell ⟨B.heap.size+1+1,1,none⟩ (.slice V Y Y)).setCell ⟨B.heap.size+1+1+1,0,none⟩ (.bool sr)).setCell ⟨B.heap.size+1+1+1,1,none⟩ (.slice o2 Lr Lr));rw[<- hV];have bJ:=aQ.o;have bk:=qh (show Bx aD B.heap.size 30 (.bool s1) (.slice F k c1) by rw[hV];exact(((HK.o.1.oz).oz).oz).oz);have bm:=qh (show Bx aD (B.heap.size+1) 30 (.bool G) (.slice D l c2) by rw[hV];exact(((HK.o.2.1.oz).oz).oz).oz);have ao:=qh (show Bx aD (B.heap.size+1+1) 30 (.bool sq) (.slice V Y Y) by rw[hV];exact((HK.o.2.2.1.set _ _).oz).oz);have au:=qh (show Bx aD (B.heap.size+1+1+1) 30 (.bool sr) (.slice o2 Lr Lr) by rw[hV];exact((HK.o.2.2.2.oz).oz).set _ _);have HQ:=qh (show ZN aD aF.heap.size V K1 E (f.natAbs/d.natAbs) p1 by rw[hV];exact(((ag.o.oz).oz).oz).oz);have aP:=qh (show ZN aD aF.heap.size o2 K2 d2 (f.natAbs%d.natAbs) p2 by rw[hV];exact(((ah.o.oz).oz).oz).oz)
  have X:=qh (show Bl B aD by
   rw[hV];have v:=C.o.trans (i.o.mono C.o.size)
   exact(((v.sc).sc).sc).sc)
  have b4:=qh (show aF.heap.size<=aD.heap.size by rw[hV];simp only[World.size_setCell];exact i.o.size);clear hV ag ah HK i FB x y z A m p q r I J M O P Q R S aK aL bf bg C bJ;obtain⟨x,y,z,A⟩:=bk.o.all;obtain⟨m,p,q,r⟩:=bm.o.all;obtain⟨I,J,M,O⟩:=ao.o.all;obtain⟨P,Q,R,S⟩:=au.o.all
  go_cut [] (λwx=>∃ aq ar,Bx wx (B.heap.size+1+1) 30 (.bool (decide (f/d<0))) (.slice aq (Ja (f/d).natAbs) (Ja (f/d).natAbs))/\Bx wx (B.heap.size+1+1+1) 30 (.bool (decide (f%d<0))) (.slice ar (Ja (f%d).natAbs) (Ja (f%d).natAbs)) /\
   Own 128 wx aF.heap.size aq (Ja (f/d).natAbs) (Ja (f/d).natAbs) (dgi (f/d).natAbs)/\Own 128 wx aF.heap.size ar (Ja (f%d).natAbs) (Ja (f%d).natAbs) (dgi (f%d).natAbs)/\XA aq ar/\(aq=none->Ja (f/d).natAbs=0)/\(ar=none->Ja (f%d).natAbs=0)/\Bl B wx)
  case first =>
   by_cases ad:r0 f d<0
   ·have aT:sr=true:=u.o.1.2.trans (decide_eq_true ad);have b2:=qh ad;obtain⟨cB,hy⟩:=gn (if d<0 then 1 else -1:Int)
    have bM:cB.natAbs=1:=by rw[hy];split <;> rfl
    have bN:(!G)=decide (cB<0):=by
     rw[t.o.2.2,hy];by_cases v:d<0
     ·rw[if_pos v,decide_eq_true v];rfl
     ·rw[if_neg v,zo v];rfl
    have HY:=qh<|And.intro hy (And.intro bM bN);have OF:=qh<|X7 1 aD Zo Zo;clear ad hy bM bN;subst aT;go_wp2_with fail
    refine OF.o.mono ?_;rintro e w7 ⟨ay,rfl,ae,-,ac⟩;rw[show(1:Int).natAbs=1 from rfl] at ae;have ab:=qh ae;have an:=qh ac;have M1:=bk.o.bl ac;have M2:=bm.o.bl ac;have M3:=ao.o.bl ac;have M4:=au.o.bl ac;have bY:=qh M2;have bZ:=qh M3;have b0:=qh M4;clear ae ac OF x y z A m p q r I J M O P Q R S;obtain⟨m,p,q,r⟩:=M2.all;obtain⟨I,J,M,O⟩:=M3.all;obtain⟨P,Q,R,S⟩:=M4.all;clear M1 M2 M3 M4
    go_upto_region 18 with (fail)
    obtain⟨bc,hU⟩:=gn ((w7.alloc (.cells #[.bool (!G),.slice ay (Ja 1) (Ja 1)] 30)).alloc (.cells #[.bool false,.slice D l c2] 30))
    have ax:Bl aD bc:=by rw[hU];exact(an.o.alloc an.o.size _).alloc (by simp;have:=an.o.size;omega) _
    have bK:Bx bc w7.heap.size 30 (.bool (!G)) (.slice ay (Ja 1) (Ja 1)):=by rw[hU];exact(Bx.new w7 _ _ _).alloc _
    have bL:Bx bc (w7.heap.size+1) 30 (.bool false) (.slice D l c2):=by rw[hU];exact Bx.Zu w7 _ _ _ _
    have bG:Own 128 bc aD.heap.size ay (Ja 1) (Ja 1) (dgi 1):=by rw[hU];exact(ab.o.JD _).JD _
    rw[<- hU];have W:=qh ax;have b7:=qh bK;have b8:=qh bL;have b3:=qh bG;have b5:=qh<|ao.o.bl ax;have b6:=qh<|au.o.bl ax;clear hU ax bK bL bG ab an bY bZ b0 m p q r I J M O P Q R S;have DS:=qh<|jfl HZ.o b2.o;obtain⟨aE,hQ⟩:=gn (f/d);obtain⟨cC,hR⟩:=gn (f%d)
    have U:Jp sq Y (dgi (f.natAbs/d.natAbs))+Jp (!G) (Ja 1) (dgi 1)=aE:=by
     rw[hQ,DS.o.1,u.o.1.1,u.o.2.1,<- jd1,Jl,HY.o.2.2,<- HY.o.2.1,Jl,HY.o.1]
    have e2:Jp true Lr (dgi (f.natAbs%d.natAbs))+Jp false l (dgi d.natAbs)=cC:=by
     have v:=Jl ((d.natAbs:Nat):Int);rw[show decide (((d.natAbs:Nat):Int)<0)=false from zo Zo,Int.natAbs_natCast] at v;rw[hR,DS.o.2,u.o.1.2,u.o.2.2,<- jd2,Jl,t.o.1.2,v]
    have ca:Y<=10000000:=by have:=JP (Nat.div_le_self f.natAbs d.natAbs);rw[<- u.o.2.1,<- t.o.1.1] at this;omega
    have cb:Lr<=10000000:=by have:=JP (Nat.le_of_lt (Nat.mod_lt f.natAbs (show 0<d.natAbs by have:=HZ.o;omega)));rw[<- u.o.2.2,<- t.o.1.2] at this;omega
    have cg:Ja 1<=1:=Xg Ze
    have bE:Rd aD V Y (dgi (f.natAbs/d.natAbs)):=by rw[u.o.2.1];exact HQ.o.num.rd
    have bF:Rd aD o2 Lr (dgi (f.natAbs%d.natAbs)):=by rw[u.o.2.2];exact aP.o.num.rd
    have aG:=qh (λ(h:World) (g:Bl bc h)=>jdj sq V Y Y (dgi (f.natAbs/d.natAbs)) (!G) ay (Ja 1) (Ja 1) (dgi 1) h ((bE.below W.o).below g) Zo zj (b3.o.rd.below g) Zo zj);have aH:=qh (λ(h:World) (g:Bl bc h)=>jdj true o2 Lr Lr (dgi (f.natAbs%d.natAbs)) false D l c2 (dgi d.natAbs) h ((bF.below W.o).below g) Zo zj (HR.o.2.below ((X.o.trans (W.o.mono X.o.size)).trans (g.mono (zm X.o.size W.o.size)))) Zo bu);rw[U] at aG;rw[e2] at aH;have bj:=qh<|And.intro hQ hR;clear hQ hR U e2 ca cb cg bE bF;have HS:=qh (λ(h:World) (g:Bl bc h)=>And.intro (And.intro (b5.o.bl g) (b6.o.bl g)) (And.intro (b7.o.bl g) (b8.o.bl g)))
    refine Ji 5 (JI [(2,Sp.made (λaC:Option Addr=>Jv (decide (aE<0)) aC (Ja aE.natAbs) (Ja aE.natAbs)) (λaC h=>Own 128 h bc.heap.size aC (Ja aE.natAbs) (Ja aE.natAbs) (dgi aE.natAbs)/\(aC=none->Ja aE.natAbs=0)))]) (λh=>Bl bc h) Zk Zk
     (Jb (Sp.Jf λaC B h v g=>⟨v.1.below g,v.2⟩) Jh) (λ_ _ v g=>v.trans (g.mono v.size)) (zk.drew) ?_
    simp only[zx,zy,zv,zw]
    iterate 2
     refine rdw (λh j=>by obtain⟨x0,x1,x2,x3⟩:=(HS.o _ j).1.1.all;obtain⟨x0,x1,x2,x3⟩:=(HS.o _ j).2.1.all;go_simp;try rfl) ?_
    (refine Jc rfl rfl (λh am=>?_) ?_;· (have j:=Has.world am;go_simp;((refine(aG.o h j).mono ?_;rintro e bO ⟨a,rfl,ho,hn,g⟩;exact⟨_,rfl,⟨⟨a,rfl⟩,⟨a,rfl,ho.mono j.size,hn⟩⟩,g⟩))))
    rintro _ ⟨aC,rfl⟩
    conv=>arg 10;simp only[Act.put,zq0,zq1,zq2]
    iterate 2
     refine rdw (λh j=>by obtain⟨x0,x1,x2,x3⟩:=(HS.o _ j).1.2.all;obtain⟨x0,x1,x2,x3⟩:=(HS.o _ j).2.2.all;go_simp;try rfl) ?_
    refine Jn (λw8 a0 hF=>?_);have hX:=jdi (T:=128) (b:=bc.heap.size) (s:=decide (aE<0)) (L:=Ja aE.natAbs) (o:=dgi aE.natAbs) (a:=aC) (p:=λaC=>aC=none->Ja aE.natAbs=0) (hF 2);have aR:=qh hX;have A2:=qh<|aH.o w8 a0;have aN:=qh a0;clear hF hX a0 aG aH;go_wp2_with fail
    refine A2.o.mono ?_;rintro e w9 ⟨y9,rfl,ae,bD,a3⟩;have bh:=qh<|aN.o.trans (a3.mono aN.o.size);have bP:=qh<|aR.o.1.below a3;have bX:=qh (show ∀ af,aC=some af->af.block<w8.heap.size from λaf hp=>(aR.o.1.blk hp).2.2);have ab:=qh<|And.intro ae bD;have ba:=HS.o _ bh.o;have HM:=qh ba;clear ae bD a3 A2;obtain⟨I,J,M,O⟩:=ba.1.1.all;obtain⟨P,Q,R,S⟩:=ba.1.2.all;clear ba;go_wp2_with fail
    go_meet
    case rel =>
     have cw:=aN.o.size;have cx:=W.o.size;have cy:=b4.o;have cA:=aQ.o;rw[<- bj.o.1,<- bj.o.2];refine⟨aC,y9,((HM.o.1.1.set _ _).oz).oz,((HM.o.1.2.oz).oz).set _ _,?_,?_,?_,aR.o.2,ab.o.2,?_⟩
     ·exact((((bP.o.oz).oz).oz).oz).mono Zo
     ·exact((((ab.o.1.oz).oz).oz).oz).mono Zo
     ·intro af cq hp hq e;have Z:=bX.o af hp;have h2:=(ab.o.1.blk hq).2.1;omega
     ·have v:=(X.o.trans (W.o.mono X.o.size)).trans (bh.o.mono (zm X.o.size W.o.size));exact(((v.sc).sc).sc).sc
   ·have aT:sr=false:=u.o.1.2.trans (zo ad);have DP:=qh<|jbw HZ.o ad;subst aT;clear ad;go_wp2_with fail
    go_meet
    case rel =>
     have U:(f/d).natAbs=f.natAbs/d.natAbs:=by rw[DP.o.1,jd1]
     have e2:(f%d).natAbs=f.natAbs%d.natAbs:=by rw[DP.o.2,jd2]
     refine⟨V,o2,?_,?_,?_,?_,bV.o,?_,?_,X.o⟩
     ·rw[U,<- u.o.2.1,DP.o.1,<- u.o.1.1];exact ao.o
     ·rw[e2,<- u.o.2.2,DP.o.2,<- u.o.1.2];exact au.o
     ·rw[U];exact HQ.o.num
     ·rw[e2];exact aP.o.num
     ·rw[U];exact HQ.o.none
     ·rw[e2];exact aP.o.none
  case rest =>
   obtain⟨aq,ar,B3,B4,bH,bI,ak,bB,bC,g⟩:=hcut;obtain⟨w8,rfl⟩:=gn wc;have K3:=qh B3;have K4:=qh B4;have aa:=qh<|And.intro bH (And.intro bI (And.intro ak (And.intro bB (And.intro bC g))));clear bH bI ak bB bC g x y z A m p q r I J M O P Q R S;obtain⟨I,J,M,O⟩:=B3.all;obtain⟨P,Q,R,S⟩:=B4.all;clear B3 B4
   go_upto_region 19 with (fail)
   go_region;go_wp2_with fail
   have bJ:=aQ.o;have k3:=((K3.o.set (.bool (decide (f/d<0))) (.slice aq (Ja (f/d).natAbs) (Ja (f/d).natAbs))).other (a:=⟨B.heap.size+1+1+1,0,none⟩) Zd (.bool (decide (f%d<0)))).other (a:=⟨B.heap.size+1+1+1,1,none⟩) Zd (.slice ar (Ja (f%d).natAbs) (Ja (f%d).natAbs));have k4:=((K4.o.other (a:=⟨B.heap.size+1+1,0,none⟩) Zd (.bool (decide (f/d<0)))).other (a:=⟨B.heap.size+1+1,1,none⟩) Zd (.slice aq (Ja (f/d).natAbs) (Ja (f/d).natAbs))).set (.bool (decide (f%d<0))) (.slice ar (Ja (f%d).natAbs) (Ja (f%d).natAbs));refine bodyPost_ret (Zg rfl _ _ _ _ _ _ _ _ _ _ _ rfl k3 rfl k4 underlying30 rfl Zk Zk) rfl ⟨aq,ar,rfl,?_,?_,aa.o.2.2.1,aa.o.2.2.2.1,aa.o.2.2.2.2.1,?_⟩
   ·exact((((((aa.o.1.oz).oz).oz).oz)).below zk.drew).mono Zo
   ·exact((((((aa.o.2.1.oz).oz).oz).oz)).below zk.drew).mono Zo
   ·have v:=aa.o.2.2.2.2.2;exact((((v.sc).sc).sc).sc).drew
end Limb
namespace Book
open Go.RowKit Go.Sort Go.FreshH Limb
variable {base c k n q:Nat} {v:Value} {xs:List Value} {w w':World} {a:Option Addr}
theorem jcb:(prog.info? 127).map (λb=>(b.zero,b.size,b.bytes))=some (some (.agg #[.slice none 0 0,.slice none 0 0,.int .i64 0]),3,56):=by kernel_rfl
def jg9 (w:World) (base k q:Nat) (xs:List Value) (a:Option Addr) (n c:Nat) (x:Value):Prop:=w.ownsRow base 127 3 x (k+1) (xs++held a n c q)
def GrL (base k q:Nat) (v:Value) (xs:List Value) (a:Option Addr) (n c:Nat) (w w':World):Prop :=
 Touch (λg=>v.ownBlock=some g) w w'/\(w.ownsRow base 127 3 v k xs->w'.ownsRow base 127 3 v k xs)/\∀ x,jg9 w base k q xs a n c x->jg9 w' base k q xs a n c x
theorem GrL.refl (base k h:Nat) (v:Value) (d:List Value) (a:Option Addr) (n g:Nat) (f:World):GrL base k h v d a n g f f:=⟨Touch.refl _ _,λb=>b,λ_ b=>b⟩
theorem GrL.grown (d:w.grownBy w' none):GrL base k q v xs a n c w w':=by
 refine⟨(Touch.refl _ _).grown d (λ_ d=>by cases d),λb=>b.kept d ?_,λf b=>World.ownsRow.kept b d ?_⟩
 ·cases hv:v.ownBlock
  ·exact .inl rfl
  ·exact .inr (by simp)
 ·cases hv:f.ownBlock
  ·exact .inl rfl
  ·exact .inr (by simp)
theorem GrL.alloc (b:World) (o:Obj):GrL base k q v xs a n c b (b.alloc o):=GrL.grown (World.grownBy_alloc b o none)
theorem jcz {h:Nat} (af:w.ownsRow base 127 3 v k xs) (hb:base<=w.heap.size) (hk:k<=30000) (z:Nat) (a:Option Addr) (n r:Nat)
  (hs:w.heap[z]?=some (.cells #[.slice a n r,.slice none 0 0,.int .i64 ((h:Int)+1)] 127 (0,0))) (Q:Nat) :
  ∃ ae w',(Builtin.append_ #[47,47] Q #[v,.slice (some ⟨z,0,none⟩) 1 1]).run prog w=.ok ae w'/\jg9 w' base k h xs a n r ae/\GrL base k h v xs a n r w w' /\
   (v.ownBlock=ae.ownBlock\/∃ u,ae.ownBlock=some u/\w.heap.size<=u):=by
 obtain⟨i0,Y,U,j,V⟩:=info_parts jcb
 have p:∀ W R,(held a n r h)[W]?=some R->w.cell? ((⟨z,0,none⟩:Addr).add W)=some R:=by
  intro W R l;rw[Addr.add_lit,Nat.zero_add,cell_of_row _ _ _ _ _ _ hs]
  match W,l with
  | 0,l=>exact l
  | 1,l=>exact l
  | 2,l=>exact l
  | W+3,l=>simp[held] at l
 have h1:∀ R∈held a n r h,R.oneCell'=true:=by intro R hu;simp[held] at hu;rcases hu with rfl | rfl | rfl <;> rfl
 have G:(held a n r h).length=1*3:=rfl;have f:=af.1
 have m:(xs++held a n r h).length=(k+1)*3:=by rw[List.length_append,f];show _+3=_;omega
 have t:∀ g,g<k+1->jg9 (w.drew.alloc (.cells (xs.toArray++(held a n r h).toArray++Builtin.zeroCells (Value.agg #[.slice none 0 0,.slice none 0 0,.int .i64 0]).cells (grownCap w (k+1) g 127-(k+1))) 127)) base k h xs a n r (.slice (some ⟨w.heap.size,0,none⟩) (k+1) (grownCap w (k+1) g 127)) /\
   w.grownBy (w.drew.alloc (.cells (xs.toArray++(held a n r h).toArray++Builtin.zeroCells (Value.agg #[.slice none 0 0,.slice none 0 0,.int .i64 0]).cells (grownCap w (k+1) g 127-(k+1))) 127)) none:=by
  intro g ho;have ab:=grownCap_ge w (k+1) g 127;have x:=grownCap_le_maxLen w (k+1) g 127 (by unfold maxLen;omega);refine⟨⟨m,.inr ⟨w.heap.size,_,_,rfl,hb,heap_alloc_new w.drew _,ab,x,?_,?_⟩⟩,⟨rfl,rfl,rfl,by simp,λh Z _=>heap_alloc_old w.drew _ Z⟩⟩
  ·simp only[Array.size_append,List.size_toArray,size_zeroCells,f,G];show _+_+_*3=_;omega
  ·simp only[Array.toList_append];rw[<- m];exact List.take_left
 rcases af.2 with ⟨rfl,rfl⟩ | ⟨u,d,b,rfl,S,hg,ac,x,F,O⟩
 ·have hx:xs=[]:=List.eq_nil_of_length_eq_zero (by simpa using f);subst hx;have A:=run_append_nil (P:=prog) w 47 Q 127 i0 _ underlying47 Y U ⟨z,0,none⟩ 1 1 (held a n r h) (by rw[j];rfl) p Zo Zo (by rw[V];omega);have i:=t 0 Zo;simp only[Nat.zero_add,ze,Array.empty_append] at i;exact⟨_,_,A,i.1,GrL.grown i.2,.inr ⟨_,rfl,zj⟩⟩
 ·by_cases y:k+1<=d
  ·have A:=run_append_room (P:=prog) w 47 Q 127 i0 underlying47 Y u k d b hg ⟨z,0,none⟩ 1 1 (held a n r h) (by rw[j];rfl) p h1 y (by rw[j,G,F];omega);rw[j,G] at A
   have aa:k*3<=b.toList.length:=by rw[Array.length_toList,F];omega
   have s:=setRow_heap w u b (b.toList.take (k*3)++held a n r h++b.toList.drop (k*3+1*3)).toArray 127 _ hg
   have I:(b.toList.take (k*3)++held a n r h++b.toList.drop (k*3+1*3)).toArray.size=d*3:=by
    simp only[List.size_toArray,List.length_append,List.length_take,List.length_drop,Array.length_toList,G,F];omega
   have J:(b.toList.take (k*3)++held a n r h++b.toList.drop (k*3+1*3)).take ((k+1)*3)=xs++held a n r h:=by
    rw[show(k+1)*3=k*3+1*3 by omega,jfv aa G,O]
   have ad:(b.toList.take (k*3)++held a n r h++b.toList.drop (k*3+1*3)).take (k*3)=xs:=by
    have h3:=congrArg (List.take (k*3)) J;rw[List.take_take,Nat.min_eq_left Zo,<- f,List.take_left] at h3;rw[<- f];exact h3
   refine⟨_,_,A,⟨m,.inr ⟨u,d,_,rfl,S,s,y,x,I,J⟩⟩,⟨?_,?_,?_⟩,.inl rfl⟩
   ·exact⟨rfl,rfl,rfl,by simp,λh _ Z=>setRow_other w u h _ (λe=>Z (by simp[Value.ownBlock,e]))⟩
   ·exact λ_=>⟨f,.inr ⟨u,d,_,rfl,S,s,ac,x,I,ad⟩⟩
   ·intro ae hx
    rcases hx.2 with ⟨_,h0⟩ | ⟨M,B,C,rfl,D,T,H,E,X,L⟩
    ·omega
    ·refine⟨m,.inr ?_⟩;by_cases e:M=u
     ·subst e
      have e2:C=b:=by have:=T.symm.trans hg;simpa using this
      subst e2;exact⟨M,B,_,rfl,D,s,H,E,by rw[I];omega,J⟩
     ·exact⟨M,B,C,rfl,D,(setRow_other w u M _ e).trans T,H,E,X,L⟩
  ·have holds:∀ W R,xs[W]?=some R->w.cell? ((⟨u,0,none⟩:Addr).add W)=some R:=af.cells (g:=u) rfl;have A:=run_append_grow (P:=prog) w 47 Q 127 i0 _ underlying47 Y U ⟨u,0,none⟩ k d xs (by rw[j];exact f) holds ⟨z,0,none⟩ 1 1 (held a n r h) (by rw[j];rfl) p Zo Zo (growslice_fits Zo (by rw[V];omega));have i:=t d Zo;exact⟨_,_,A,i.1,GrL.grown i.2,.inr ⟨_,rfl,zj⟩⟩
theorem jcc:(prog.info? 120).map (λb=>(b.zero,b.size,b.bytes))=some (some (.agg #[.slice none 0 0,.slice none 0 0,.int .i64 0]),3,56):=by kernel_rfl
def jha (w:World) (base k q:Nat) (xs:List Value) (a:Option Addr) (n c:Nat) (x:Value):Prop:=w.ownsRow base 120 3 x (k+1) (xs++held a n c q)
def GrT (base k q:Nat) (v:Value) (xs:List Value) (a:Option Addr) (n c:Nat) (w w':World):Prop :=
 Touch (λg=>v.ownBlock=some g) w w'/\(w.ownsRow base 120 3 v k xs->w'.ownsRow base 120 3 v k xs)/\∀ x,jha w base k q xs a n c x->jha w' base k q xs a n c x
theorem GrT.refl (base k h:Nat) (v:Value) (d:List Value) (a:Option Addr) (n g:Nat) (f:World):GrT base k h v d a n g f f:=⟨Touch.refl _ _,λb=>b,λ_ b=>b⟩
theorem GrT.grown (d:w.grownBy w' none):GrT base k q v xs a n c w w':=by
 refine⟨(Touch.refl _ _).grown d (λ_ d=>by cases d),λb=>b.kept d ?_,λf b=>World.ownsRow.kept b d ?_⟩
 ·cases hv:v.ownBlock
  ·exact .inl rfl
  ·exact .inr (by simp)
 ·cases hv:f.ownBlock
  ·exact .inl rfl
  ·exact .inr (by simp)
theorem GrT.alloc (b:World) (o:Obj):GrT base k q v xs a n c b (b.alloc o):=GrT.grown (World.grownBy_alloc b o none)
theorem jc0 {h:Nat} (af:w.ownsRow base 120 3 v k xs) (hb:base<=w.heap.size) (hk:k<=30000) (z:Nat) (a:Option Addr) (n r:Nat)
  (hs:w.heap[z]?=some (.cells #[.slice a n r,.slice none 0 0,.int .i64 ((h:Int)+1)] 120 (0,0))) (Q:Nat) :
  ∃ ae w',(Builtin.append_ #[51,51] Q #[v,.slice (some ⟨z,0,none⟩) 1 1]).run prog w=.ok ae w'/\jha w' base k h xs a n r ae/\GrT base k h v xs a n r w w' /\
   (v.ownBlock=ae.ownBlock\/∃ u,ae.ownBlock=some u/\w.heap.size<=u):=by
 obtain⟨i0,Y,U,j,V⟩:=info_parts jcc
 have p:∀ W R,(held a n r h)[W]?=some R->w.cell? ((⟨z,0,none⟩:Addr).add W)=some R:=by
  intro W R l;rw[Addr.add_lit,Nat.zero_add,cell_of_row _ _ _ _ _ _ hs]
  match W,l with
  | 0,l=>exact l
  | 1,l=>exact l
  | 2,l=>exact l
  | W+3,l=>simp[held] at l
 have h1:∀ R∈held a n r h,R.oneCell'=true:=by intro R hu;simp[held] at hu;rcases hu with rfl | rfl | rfl <;> rfl
 have G:(held a n r h).length=1*3:=rfl;have f:=af.1
 have m:(xs++held a n r h).length=(k+1)*3:=by rw[List.length_append,f];show _+3=_;omega
 have t:∀ g,g<k+1->jha (w.drew.alloc (.cells (xs.toArray++(held a n r h).toArray++Builtin.zeroCells (Value.agg #[.slice none 0 0,.slice none 0 0,.int .i64 0]).cells (grownCap w (k+1) g 120-(k+1))) 120)) base k h xs a n r (.slice (some ⟨w.heap.size,0,none⟩) (k+1) (grownCap w (k+1) g 120)) /\
   w.grownBy (w.drew.alloc (.cells (xs.toArray++(held a n r h).toArray++Builtin.zeroCells (Value.agg #[.slice none 0 0,.slice none 0 0,.int .i64 0]).cells (grownCap w (k+1) g 120-(k+1))) 120)) none:=by
  intro g ho;have ab:=grownCap_ge w (k+1) g 120;have x:=grownCap_le_maxLen w (k+1) g 120 (by unfold maxLen;omega);refine⟨⟨m,.inr ⟨w.heap.size,_,_,rfl,hb,heap_alloc_new w.drew _,ab,x,?_,?_⟩⟩,⟨rfl,rfl,rfl,by simp,λh Z _=>heap_alloc_old w.drew _ Z⟩⟩
  ·simp only[Array.size_append,List.size_toArray,size_zeroCells,f,G];show _+_+_*3=_;omega
  ·simp only[Array.toList_append];rw[<- m];exact List.take_left
 rcases af.2 with ⟨rfl,rfl⟩ | ⟨u,d,b,rfl,S,hg,ac,x,F,O⟩
 ·have hx:xs=[]:=List.eq_nil_of_length_eq_zero (by simpa using f);subst hx;have A:=run_append_nil (P:=prog) w 51 Q 120 i0 _ underlying51 Y U ⟨z,0,none⟩ 1 1 (held a n r h) (by rw[j];rfl) p Zo Zo (by rw[V];omega);have i:=t 0 Zo;simp only[Nat.zero_add,ze,Array.empty_append] at i;exact⟨_,_,A,i.1,GrT.grown i.2,.inr ⟨_,rfl,zj⟩⟩
 ·by_cases y:k+1<=d
  ·have A:=run_append_room (P:=prog) w 51 Q 120 i0 underlying51 Y u k d b hg ⟨z,0,none⟩ 1 1 (held a n r h) (by rw[j];rfl) p h1 y (by rw[j,G,F];omega);rw[j,G] at A
   have aa:k*3<=b.toList.length:=by rw[Array.length_toList,F];omega
   have s:=setRow_heap w u b (b.toList.take (k*3)++held a n r h++b.toList.drop (k*3+1*3)).toArray 120 _ hg
   have I:(b.toList.take (k*3)++held a n r h++b.toList.drop (k*3+1*3)).toArray.size=d*3:=by
    simp only[List.size_toArray,List.length_append,List.length_take,List.length_drop,Array.length_toList,G,F];omega
   have J:(b.toList.take (k*3)++held a n r h++b.toList.drop (k*3+1*3)).take ((k+1)*3)=xs++held a n r h:=by
    rw[show(k+1)*3=k*3+1*3 by omega,jfv aa G,O]
   have ad:(b.toList.take (k*3)++held a n r h++b.toList.drop (k*3+1*3)).take (k*3)=xs:=by
    have h3:=congrArg (List.take (k*3)) J;rw[List.take_take,Nat.min_eq_left Zo,<- f,List.take_left] at h3;rw[<- f];exact h3
   refine⟨_,_,A,⟨m,.inr ⟨u,d,_,rfl,S,s,y,x,I,J⟩⟩,⟨?_,?_,?_⟩,.inl rfl⟩
   ·exact⟨rfl,rfl,rfl,by simp,λh _ Z=>setRow_other w u h _ (λe=>Z (by simp[Value.ownBlock,e]))⟩
   ·exact λ_=>⟨f,.inr ⟨u,d,_,rfl,S,s,ac,x,I,ad⟩⟩
   ·intro ae hx
    rcases hx.2 with ⟨_,h0⟩ | ⟨M,B,C,rfl,D,T,H,E,X,L⟩
    ·omega
    ·refine⟨m,.inr ?_⟩;by_cases e:M=u
     ·subst e
      have e2:C=b:=by have:=T.symm.trans hg;simpa using this
      subst e2;exact⟨M,B,_,rfl,D,s,H,E,by rw[I];omega,J⟩
     ·exact⟨M,B,C,rfl,D,(setRow_other w u M _ e).trans T,H,E,X,L⟩
  ·have holds:∀ W R,xs[W]?=some R->w.cell? ((⟨u,0,none⟩:Addr).add W)=some R:=af.cells (g:=u) rfl;have A:=run_append_grow (P:=prog) w 51 Q 120 i0 _ underlying51 Y U ⟨u,0,none⟩ k d xs (by rw[j];exact f) holds ⟨z,0,none⟩ 1 1 (held a n r h) (by rw[j];rfl) p Zo Zo (growslice_fits Zo (by rw[V];omega));have i:=t d Zo;exact⟨_,_,A,i.1,GrT.grown i.2,.inr ⟨_,rfl,zj⟩⟩
def jdn (q:Nat) (v u:Value) (i:Nat):Value:=if i=0 then .int .i64 q else if i=2 then v else if i=6 then u else .slice none 0 0
structure Bk2 (w:World) (b base q k kt:Nat) (v u:Value) (xs ys:List Value):Prop where
 box:w.rowIs b 59 13 (jdn q v u)
 Kw:w.ownsRow base 127 3 v k xs
 Zx:w.ownsRow base 120 3 u kt ys
 neL:v.ownBlock≠some b
 neT:u.ownBlock≠some b
 vu:∀ g,v.ownBlock=some g->u.ownBlock≠some g
theorem Bk2.alloc {b f:Nat} {h:Value} {g:List Value} (d:Bk2 w b base q k f v h xs g) (o:Obj):Bk2 (w.alloc o) b base q k f v h xs g:=⟨d.box.alloc o,d.Kw.alloc o,d.Zx.alloc o,d.neL,d.neT,d.vu⟩
theorem Yr {m:TypeId} {sz:Nat} {p:Nat->Prop} (r:w.ownsRow base m sz v k xs) (j:Touch p w w') (l:∀ b,v.ownBlock=some b->¬p b):w'.ownsRow base m sz v k xs:=by
 refine⟨r.1,r.2.imp id ?_⟩;rintro⟨b,d,f,h,g,hg,i⟩;exact⟨b,d,f,h,g,(j.block b (lt_of_block hg) (l b (by rw[h];rfl))).trans hg,i⟩
theorem jj7 (b base s k kt:Nat) (v ad:Value) (J ys:List Value) (a:Option Addr) (n c:Nat) (y:World) (hk:k<=30000) (R:s<=60000) (Q:Bk2 y b base s k kt v ad J ys) (j:base<=y.heap.size) :
  Cl 222 #[.pointer (some ⟨b,0,none⟩),.slice a n c] y λe w'=>(∃ r,e=.returned r)/\∃ Z,Bk2 w' b base (s+1) (k+1) kt Z ad (J++held a n c s) ys/\(v.ownBlock=Z.ownBlock\/∃ d,Z.ownBlock=some d/\y.heap.size<=d) /\
   Touch (λd=>d=b\/v.ownBlock=some d) y w':=by
 obtain⟨i0,hi,ah,ai,aj⟩:=info_parts jcb;have i:=qh Q;have b0:y.cell? ⟨b,0,none⟩=some (.int .i64 s):=Q.box.cell (i:=0) Zo;have E:=Q.box.frozen;have e1:=IntWalk.i64_in ((s:Int)+1) Zo;clear Q;go_enter func222,ntmps222
 go_upto_region 1 with (fail)
 obtain⟨C,x⟩:=gn (y.setCell ⟨b,0,none⟩ (.int .i64 ((s:Int)+1)))
 have X:=(i.o.box.set 0 (.int .i64 ((s:Int)+1))).congr (g:=jdn (s+1) v ad) (λU _=>by
  unfold jdn;by_cases e:U=0
  ·rw[if_pos e,if_pos e];rfl
  ·rw[if_neg e,if_neg e,if_neg e])
 have af:=i.o.Kw.kept (w':=C) (row:=some b) (by
  rw[x]
  exact⟨rfl,rfl,rfl,by simp,λs _ R=>Below.heap_setCell _ _ _ _ (λe=>R (by simp[e]))⟩) (Or.inr i.o.neL)
 have T:C.heap.size=y.heap.size:=by rw[x];simp
 have am:=qh (show Touch (λd=>d=b\/v.ownBlock=some d) y C by rw[x];exact(Touch.refl _ _).setCell (p:=⟨b,0,none⟩) (Or.inl (Or.inl rfl)) _);rw[<- x] at X;rw[<- x];have HX:=qh X;have HR:=qh af;have c0:C.cell? ⟨b,0,none⟩=some (.int .i64 ((s:Int)+1)):=X.cell (i:=0) Zo;have c2:C.cell? ⟨b,2,none⟩=some v:=X.cell (i:=2) Zo;have E:=X.frozen;have l:=X.lt;have j:base<=C.heap.size:=Zo;have m:=i.o.neL;have HZ:=qh T;have f2:C.frozen? ⟨b,2,none⟩=false:=E 2;clear X af x b0 T E;have HV:=qh (λd (hg:v.ownBlock=some d)=>(HR.o.lt d hg).2);have W:=qh (λ(w':World) (g:Touch (λd=>v.ownBlock=some d) C w')=>And.intro ((World.cell?_of_block (a:=⟨b,0,none⟩) (g.block b l m)).trans c0) (And.intro ((World.cell?_of_block (a:=⟨b,2,none⟩) (g.block b l m)).trans c2) ((World.frozen?_of_block (a:=⟨b,2,none⟩) (g.block b l m)).trans f2)));have HB:=qh j;have V:=qh m;have A:=qh l;clear c0 c2 f2 j m l
 refine Jd 15 (JI [(11,Sp.made (λd:Nat=>.slice (some ⟨d,0,none⟩) 1 1) (λd w'=>w'.heap[d]?=some (.cells #[.slice a n c,.slice none 0 0,.int .i64 ((s:Int)+1)] 127 (0,0))/\C.heap.size<=d)),
   (12,Sp.made (λL:Value=>L) (λL w'=>jg9 w' base k s J a n c L/\(v.ownBlock=L.ownBlock\/∃ d,L.ownBlock=some d/\C.heap.size<=d)))])
  (G:=GrL base k s v J a n c) (λw'=>Touch (λd=>v.ownBlock=some d) C w'/\w'.ownsRow base 127 3 v k J) Zk Zk
  (Jb (Sp.Jf λd y w' g u=>⟨(u.1.block d (lt_of_block g.1) (λe=>by have:=HV.o d e;omega)).trans g.1,g.2⟩) (Jb (Sp.Jf λL y w' g u=>⟨u.2.2 L g.1,g.2⟩) Jh))
  ⟨λy=>GrL.refl _ _ _ _ _ _ _ _ y,λ_ _ g u=>⟨g.1.trans u.1,u.2.1 g.2⟩⟩ ⟨(Touch.refl _ _).drew,HR.o.kept (row:=none) ⟨rfl,rfl,rfl,zj,λ_ _ _=>rfl⟩ (by cases v.ownBlock;exact .inl rfl;exact .inr (by simp))⟩ ?_
 simp only[zx,zy,zv,zw]
 iterate 11
  (refine Jy rfl rfl ?_ (λw' f=>?_) ?_;rotate_left;· (have h:=Has.world f;(have hs:=W.o _ h.1);clear f;go_simp;try rfl))
 refine Jc rfl rfl (λw' f=>?_) ?_
 ·have h:=f.world;clear f;go_simp;refine⟨⟨?_,h.1.size⟩,GrL.alloc _ _⟩;show(w'.heap.push _)[w'.heap.size]=_;simp
 rintro _ ⟨gs,rfl⟩;refine Jc rfl rfl (λw' f=>?_) ?_
 ·have h:=f.world;have ab:=f.fact 11 Zk;obtain⟨g',eg,ac,F⟩:=ab
  cases eg
  obtain⟨L,ak,Y,h1,h2,h3⟩:=jcz h.2 (zm HB.o h.1.size) hk gs a n c ac 47;clear f;refine Yq (v:=v) (u:=.slice (some ⟨gs,0,none⟩) 1 1) _ _ 47 (by rfl) (by(go_simp;try rfl)) (by(go_simp;try rfl)) Y ?_;exact⟨⟨⟨L,rfl⟩,⟨L,rfl,h1,h3.imp id λ⟨d,e,H⟩=>⟨d,e,zm h.1.size H⟩⟩⟩,h2⟩
 rintro ae ⟨z,hz⟩;obtain rfl:ae=z:=hz
 iterate 2
  (refine Jy rfl rfl ?_ (λw' f=>?_) ?_;rotate_left;· (have h:=Has.world f;(skip);clear f;go_simp;try rfl))
 refine Jn (λw1 t hF=>?_);obtain⟨y',ey,D,S⟩:=hF 12;obtain rfl:ae=y':=ey
 obtain⟨P,M,rfl⟩:∃ P M,ae=Value.slice (some ⟨P,0,none⟩) (k+1) M:=by
  rcases D.2 with ⟨_,h0⟩ | ⟨d,aa,ag,e,_⟩
  ·omega
  ·exact⟨d,aa,e⟩
 have B:=qh<|And.intro D S;have KT:=qh<|am.o.trans (t.1.mono (λd hg=>Or.inr hg));have KX:=qh<|HX.o.of_block (t.1.block b A.o V.o);obtain⟨d0,d2,df⟩:=W.o _ t.1;clear hF t W D S;go_wp2_with fail
 (try simp only[Exit.inBlock,Exit.then])
 refine bodyPost_end (results_none rfl _ _ _) rfl ?_;refine⟨⟨_,rfl⟩,Value.slice (some ⟨P,0,none⟩) (k+1) M,⟨?_,?_,?_,?_,?_,?_⟩,?_,KT.o.setCell (p:=⟨b,2,none⟩) (Or.inl (Or.inl rfl)) _⟩
 ·refine(KX.o.set 2 (Value.slice (some ⟨P,0,none⟩) (k+1) M)).congr λU _=>?_
  unfold jdn;by_cases e:U=2
  ·subst e;rfl
  ·rw[if_neg e];by_cases O:U=0
   ·rw[if_pos O,if_pos O]
   ·rw[if_neg O,if_neg O];by_cases e2:U=6
    ·subst e2;rfl
    ·rw[if_neg e,if_neg e]
 ·refine World.ownsRow.kept (row:=some b) B.o.1 ⟨rfl,rfl,rfl,by simp,λs _ R=>Below.heap_setCell _ _ _ _ (λe=>R (by simp[e]))⟩ (Or.inr ?_)
  rcases B.o.2 with g | ⟨d,g,H⟩
  ·rw[<- g];exact V.o
  ·rw[g]
   intro e;cases e;have:=A.o;omega
 ·refine Yr i.o.Zx (KT.o.setCell (p:=⟨b,2,none⟩) (Or.inl (Or.inl rfl)) _) λd hg I=>?_
  rcases I with I | I
  ·exact i.o.neT (by rw[hg,I])
  ·exact i.o.vu d I hg
 ·rcases B.o.2 with g | ⟨d,g,H⟩
  ·rw[<- g];exact V.o
  ·rw[g]
   intro e;cases e;have:=A.o;omega
 ·exact i.o.neT
 ·intro d hg F
  rcases B.o.2 with g | ⟨g',g,H⟩
  ·exact i.o.vu d (g.trans hg) F
  ·have h9:=(i.o.Zx.lt d F).2;rw[hg] at g
   injection g with g
   have:=HZ.o;omega
 ·rcases B.o.2 with g | ⟨d,g,H⟩
  ·exact .inl g
  ·exact .inr ⟨d,g,Zh HZ⟩
theorem jj8 (b base t k l:Nat) (v u:Value) (xs M:List Value) (a:Option Addr) (n c:Nat) (B:World) (hk:l<=30000) (U:t<=60000) (T:Bk2 B b base t k l v u xs M) (j:base<=B.heap.size) :
  Cl 43 #[.pointer (some ⟨b,0,none⟩),.slice a n c] B λe w'=>(∃ r,e=.returned r)/\∃ v',Bk2 w' b base (t+1) k (l+1) v v' xs (M++held a n c t)/\(u.ownBlock=v'.ownBlock\/∃ d,v'.ownBlock=some d/\B.heap.size<=d) /\
   Touch (λd=>d=b\/u.ownBlock=some d) B w':=by
 obtain⟨i0,hi,ai,aj,ak⟩:=info_parts jcc;have i:=qh T;have b0:B.cell? ⟨b,0,none⟩=some (.int .i64 t):=T.box.cell (i:=0) Zo;have H:=T.box.frozen;have e1:=IntWalk.i64_in ((t:Int)+1) Zo;clear T;go_enter func43,ntmps43
 go_upto_region 1 with (fail)
 obtain⟨E,A⟩:=gn (B.setCell ⟨b,0,none⟩ (.int .i64 ((t:Int)+1)))
 have aa:=(i.o.box.set 0 (.int .i64 ((t:Int)+1))).congr (g:=jdn (t+1) v u) (λX _=>by
  unfold jdn;by_cases e:X=0
  ·rw[if_pos e,if_pos e];rfl
  ·rw[if_neg e,if_neg e,if_neg e])
 have ag:=i.o.Zx.kept (w':=E) (row:=some b) (by
  rw[A]
  exact⟨rfl,rfl,rfl,by simp,λt _ U=>Below.heap_setCell _ _ _ _ (λe=>U (by simp[e]))⟩) (Or.inr i.o.neT)
 have W:E.heap.size=B.heap.size:=by rw[A];simp
 have an:=qh (show Touch (λd=>d=b\/u.ownBlock=some d) B E by rw[A];exact(Touch.refl _ _).setCell (p:=⟨b,0,none⟩) (Or.inl (Or.inl rfl)) _);rw[<- A] at aa;rw[<- A];have HX:=qh aa;have HR:=qh ag;have c0:E.cell? ⟨b,0,none⟩=some (.int .i64 ((t:Int)+1)):=aa.cell (i:=0) Zo;have c2:E.cell? ⟨b,6,none⟩=some u:=aa.cell (i:=6) Zo;have H:=aa.frozen;have m:=aa.lt;have j:base<=E.heap.size:=Zo;have s:=i.o.neT;have HZ:=qh W;have f2:E.frozen? ⟨b,6,none⟩=false:=H 6;clear aa ag A b0 W H;have HV:=qh (λd (hg:u.ownBlock=some d)=>(HR.o.lt d hg).2);have Z:=qh (λ(w':World) (g:Touch (λd=>u.ownBlock=some d) E w')=>And.intro ((World.cell?_of_block (a:=⟨b,0,none⟩) (g.block b m s)).trans c0) (And.intro ((World.cell?_of_block (a:=⟨b,6,none⟩) (g.block b m s)).trans c2) ((World.frozen?_of_block (a:=⟨b,6,none⟩) (g.block b m s)).trans f2)));have HB:=qh j;have Y:=qh s;have C:=qh m;clear c0 c2 f2 j s m
 refine Jd 15 (JI [(11,Sp.made (λd:Nat=>.slice (some ⟨d,0,none⟩) 1 1) (λd w'=>w'.heap[d]?=some (.cells #[.slice a n c,.slice none 0 0,.int .i64 ((t:Int)+1)] 120 (0,0))/\E.heap.size<=d)),
   (12,Sp.made (λO:Value=>O) (λO w'=>jha w' base l t M a n c O/\(u.ownBlock=O.ownBlock\/∃ d,O.ownBlock=some d/\E.heap.size<=d)))])
  (G:=GrT base l t u M a n c) (λw'=>Touch (λd=>u.ownBlock=some d) E w'/\w'.ownsRow base 120 3 u l M) Zk Zk
  (Jb (Sp.Jf λd B w' g y=>⟨(y.1.block d (lt_of_block g.1) (λe=>by have:=HV.o d e;omega)).trans g.1,g.2⟩) (Jb (Sp.Jf λO B w' g y=>⟨y.2.2 O g.1,g.2⟩) Jh))
  ⟨λB=>GrT.refl _ _ _ _ _ _ _ _ B,λ_ _ g y=>⟨g.1.trans y.1,y.2.1 g.2⟩⟩ ⟨(Touch.refl _ _).drew,HR.o.kept (row:=none) ⟨rfl,rfl,rfl,zj,λ_ _ _=>rfl⟩ (by cases u.ownBlock;exact .inl rfl;exact .inr (by simp))⟩ ?_
 simp only[zx,zy,zv,zw]
 iterate 11
  (refine Jy rfl rfl ?_ (λw' f=>?_) ?_;rotate_left;· (have h:=Has.world f;(have hs:=Z.o _ h.1);clear f;go_simp;try rfl))
 refine Jc rfl rfl (λw' f=>?_) ?_
 ·have h:=f.world;clear f;go_simp;refine⟨⟨?_,h.1.size⟩,GrT.alloc _ _⟩;show(w'.heap.push _)[w'.heap.size]=_;simp
 rintro _ ⟨gs,rfl⟩;refine Jc rfl rfl (λw' f=>?_) ?_
 ·have h:=f.world;have ad:=f.fact 11 Zk;obtain⟨g',eg,ae,I⟩:=ad
  cases eg
  obtain⟨O,am,ab,h1,h2,h3⟩:=jc0 h.2 (zm HB.o h.1.size) hk gs a n c ae 51;clear f;refine Yq (v:=u) (u:=.slice (some ⟨gs,0,none⟩) 1 1) _ _ 51 (by rfl) (by(go_simp;try rfl)) (by(go_simp;try rfl)) ab ?_;exact⟨⟨⟨O,rfl⟩,⟨O,rfl,h1,h3.imp id λ⟨d,e,J⟩=>⟨d,e,zm h.1.size J⟩⟩⟩,h2⟩
 rintro af ⟨z,hz⟩;obtain rfl:af=z:=hz
 iterate 2
  (refine Jy rfl rfl ?_ (λw' f=>?_) ?_;rotate_left;· (have h:=Has.world f;(skip);clear f;go_simp;try rfl))
 refine Jn (λw1 x hF=>?_);obtain⟨y',ey,F,V⟩:=hF 12;obtain rfl:af=y':=ey
 obtain⟨S,P,rfl⟩:∃ S P,af=Value.slice (some ⟨S,0,none⟩) (l+1) P:=by
  rcases F.2 with ⟨_,h0⟩ | ⟨d,ac,ah,e,_⟩
  ·omega
  ·exact⟨d,ac,e⟩
 have D:=qh<|And.intro F V;have KT:=qh<|an.o.trans (x.1.mono (λd hg=>Or.inr hg));have KX:=qh<|HX.o.of_block (x.1.block b C.o Y.o);obtain⟨d0,d2,df⟩:=Z.o _ x.1;clear hF x Z F V;go_wp2_with fail
 (try simp only[Exit.inBlock,Exit.then])
 refine bodyPost_end (results_none rfl _ _ _) rfl ?_;refine⟨⟨_,rfl⟩,Value.slice (some ⟨S,0,none⟩) (l+1) P,⟨?_,?_,?_,?_,?_,?_⟩,?_,KT.o.setCell (p:=⟨b,6,none⟩) (Or.inl (Or.inl rfl)) _⟩
 ·refine(KX.o.set 6 (Value.slice (some ⟨S,0,none⟩) (l+1) P)).congr λX _=>?_
  unfold jdn;by_cases e:X=6
  ·subst e;rfl
  ·rw[if_neg e];by_cases Q:X=0
   ·rw[if_pos Q,if_pos Q]
   ·rw[if_neg Q,if_neg Q];by_cases R:X=2
    ·rw[if_pos R,if_pos R]
    ·rw[if_neg R,if_neg R,if_neg e,if_neg e]
 ·refine Yr i.o.Kw (KT.o.setCell (p:=⟨b,6,none⟩) (Or.inl (Or.inl rfl)) _) λd hg L=>?_
  rcases L with L | L
  ·exact i.o.neL (by rw[hg,L])
  ·exact i.o.vu d hg L
 ·refine World.ownsRow.kept (row:=some b) D.o.1 ⟨rfl,rfl,rfl,by simp,λt _ U=>Below.heap_setCell _ _ _ _ (λe=>U (by simp[e]))⟩ (Or.inr ?_)
  rcases D.o.2 with g | ⟨d,g,J⟩
  ·rw[<- g];exact Y.o
  ·rw[g]
   intro e;cases e;have:=C.o;omega
 ·exact i.o.neL
 ·rcases D.o.2 with g | ⟨d,g,J⟩
  ·rw[<- g];exact Y.o
  ·rw[g]
   intro e;cases e;have:=C.o;omega
 ·intro d hg I
  rcases D.o.2 with g | ⟨g',g,J⟩
  ·exact i.o.vu d hg (g.trans I)
  ·have h9:=(i.o.Kw.lt d hg).2;rw[I] at g
   injection g with g
   have:=HZ.o;omega
 ·rcases D.o.2 with g | ⟨d,g,J⟩
  ·exact .inl g
  ·exact .inr ⟨d,g,Zh HZ⟩
end Book
namespace Limb
open Go.RowKit Go.Sort Go.FreshH
variable {w w':World} {o:Nat->Int} {T b base cap g j n:Nat}
def cellN (w:World) (b i:Nat):Nat:=match w.cell? ⟨b,i,none⟩ with | some (.int _ g)=>g.toNat | _=>0
theorem K7 {i:Nat} (f:Own 128 w base (some ⟨g,0,none⟩) n cap o) (d:i<n):cellN w g i=(o i).toNat:=by
 unfold cellN;rw[f.cell d]
theorem Own.only {a:Option Addr} (i:Own T w base a n cap o) (f:Only g w w') (hg:∀ d,a=some d->d.block≠g):Own T w' base a n cap o :=
 i.keep λd h=>f.1 _ (hg d h)
theorem VV (z k:Nat) (a:Option Addr) (n l:Nat) (o:Nat->Int) (i:World) (base y:Nat) (E:Own 128 i base (some ⟨z,0,none⟩) k k (λ_=>0)) (G:Rd i a n o) (J:n<=100000000) (I:k<=100000000) (A:0<n) :
  ∃ t f w',(Builtin.append_ #[28,28] y #[.slice (some ⟨z,0,none⟩) k k,.slice a n l]).run prog i=.ok (.slice (some ⟨t,0,none⟩) (k+n) f) w'/\Own 128 w' i.heap.size (some ⟨t,0,none⟩) (k+n) f (QX o k)/\Bl i w':=by
 obtain⟨F,C,u,p,x⟩:=info_parts QQ;obtain⟨b,off,rfl,B⟩:=G.cells A
 have D:=run_append_grow (P:=prog) i 28 y 128 F (.int .u32 0) underlying28 C u ⟨z,0,none⟩ k k (ucs (λ_=>0) k) (by rw[Qm,p];omega)
  (λj L s=>by
   obtain⟨h,rfl⟩:=ZT s;rw[Addr.add_lit,Nat.zero_add]
   exact E.cell h) ⟨b,off,none⟩ n l (ucs o n) (by rw[Qm,p];omega)
  (λj L s=>by
   obtain⟨h,rfl⟩:=ZT s;rw[Addr.add_lit]
   exact B j h) Zo Zo (growslice_fits Zo (by rw[x];omega))
 have H:=grownCap_ge i (k+n) k 128;refine⟨_,_,_,D,⟨Zo,Or.inr ⟨i.heap.size,_,rfl,zj,heap_alloc_new i.drew _,?_,?_⟩,?_⟩,(Below.refl _ i).drew.alloc zj _⟩
 ·simp only[Array.size_append,List.size_toArray,size_zeroCells,Qm];show _<=k+n+(grownCap i (k+n) k 128-(k+n))*1;omega
 ·intro r m;rw[Array.getElem?_append_left (by simp only[Array.size_append,List.size_toArray,Qm];exact m)];show _=some (Value.int .u32 (QX o k r));by_cases d:r<k
  ·have e:QX o k r=0:=by unfold QX;rw[if_pos d]
   rw[Array.getElem?_append_left (by simp only[List.size_toArray,Qm];exact d),e]
   simpa using Yl (λ_=>0) k r d
  ·have e:QX o k r=o (r-k):=by unfold QX;rw[if_neg d]
   rw[Array.getElem?_append_right (by simp only[List.size_toArray,Qm];omega),e];simp only[List.size_toArray,Qm,List.getElem?_toArray];exact Yl o n (r-k) Zo
 ·intro r m;unfold QX;split
  ·omega
  ·exact G.rng _ Zo
theorem wpList_append_run {l:Program} {A:World} {d:Array Oper} {rest:List Oper} {o:Oper} {a:Act} {x:Exit->Act->World->Prop} (f:o.guard=none) (y B:Operand) (i:TypeId)
  (p:o.op=.call { callee:=.builtin .append,args:=#[y,B],argTypes:=#[i,i] }) (v z:Value) (t:a.eval y=v) (u:a.eval B=z) (r:Value) (h:World)
  (s:(Builtin.append_ #[i,i] o.type #[v,z]).run l A=.ok r h) (C:wpList l d x rest (a.put o.dst r) h):wpList l d x (o :: rest) a A :=
 wpList_plain f λK m=>by
  unfold Oper.wp execOp;simp only[p,resolve,invoke,builtin,Sem.run_bind,Sem.run_pure,Result.andThen_ok,List.map_toArray,List.map_cons,List.map_nil,t,u,s];exact m _ _ C
def GoesR (w:World) (A B:Nat) (e:Ending) (w':World):Prop :=
 ∃ a1 K1 c1 o1 a2 K2 c2 o2,e=.returned (.tuple #[.slice a1 K1 c1,.slice a2 K2 c2])/\ZN w' w.heap.size a1 K1 c1 (A/B) o1/\ZN w' w.heap.size a2 K2 c2 (A%B) o2/\XA a1 a2/\Bl w w'
structure jhb (w wr:World) (gl gq la cl:Nat) (lp qp:Nat->Int):Prop where
 l:Own 128 wr w.heap.size (some ⟨gl,0,none⟩) la cl lp
 q:Own 128 wr w.heap.size (some ⟨gq,0,none⟩) (la+1) (la+1) qp
 bel:Bl w wr
theorem jhb.below {wr:World} {h gq i f:Nat} {l m:Nat->Int} (p:jhb w wr h gq i f l m) (d:Bl wr w'):jhb w w' h gq i f l m:=⟨p.l.below d,p.q.below d,p.bel.trans (d.mono p.bel.size)⟩
theorem own_ofk {h:Nat} (d:∃ f:Nat,Value.slice (some ⟨h,0,none⟩) j j=.slice (some ⟨f,0,none⟩) j j/\Own T w b (some ⟨f,0,none⟩) j j o):Own T w b (some ⟨h,0,none⟩) j j o:=by
 obtain⟨f,e,d⟩:=d;simp only[Value.slice.injEq,Option.some.injEq,Addr.mk.injEq,and_true] at e;rw[e];exact d
theorem own_ofc {f:Nat × Nat} (h:∃ d:Nat × Nat,Value.slice (some ⟨f.1,0,none⟩) j f.2=.slice (some ⟨d.1,0,none⟩) j d.2/\Own T w b (some ⟨d.1,0,none⟩) j d.2 o):Own T w b (some ⟨f.1,0,none⟩) j f.2 o:=by
 obtain⟨d,e,h⟩:=h;simp only[Value.slice.injEq,Option.some.injEq,Addr.mk.injEq,and_true,true_and] at e;rw[e.1,e.2];exact h
theorem own_ofn {i:Bool} {f:Nat × Nat} (h:∃ d:Nat × Nat,Jv i (some ⟨f.1,0,none⟩) j f.2=Jv i (some ⟨d.1,0,none⟩) j d.2/\Own T w b (some ⟨d.1,0,none⟩) j d.2 o):Own T w b (some ⟨f.1,0,none⟩) j f.2 o:=by
 obtain⟨d,e,h⟩:=h;simp only[Jv,Value.agg.injEq,Array.mk.injEq,List.cons.injEq,Value.slice.injEq,Option.some.injEq,Addr.mk.injEq,and_true,true_and] at e;rw[e.1,e.2];exact h
theorem goes_any (X m:Nat) (a b:Option Addr) (d f ca cb:Nat) (w:World) (ha:Rd w a d (dgi X)) (l:Rd w b f (dgi m)) (aK:d=Ja X) (ao:f=Ja m) (b1:d<=10000000) (b3:f<=10000000) (hB:0<m) :
  Cl 247 #[.slice a d ca,.slice b f cb] w (GoesR w X m):=by
 have bj:Jj (dgi X) d=(X:Int):=by rw[aK];exact Jz X
 have bk:Jj (dgi m) f=(m:Int):=by rw[ao];exact Jz m
 have F:=qh<|And.intro bj bk
 have bs:0<f:=by rw[ao];exact XX.2 hB
 have HR:=qh<|And.intro ha l;have HL:=qh<|And.intro aK ao;have ad:=qh hB;clear bj bk ha l aK ao hB;by_cases bu:f=1
 ·subst bu;obtain⟨bb,bo,rfl,hcell⟩:=HR.o.2.cells Zo
  have e0:m<1000000000:=by have:=JE m;rw[<- HL.o.2] at this;exact this
  have e1:dgi m 0=(m:Int):=by show((dg m 0:Nat):Int)=_;rw[Yf];omega
  have cc:w.cell? ⟨bb,bo,none⟩=some (.int .u32 (m:Int)):=by have:=hcell 0 Zo;rw[Nat.add_zero] at this;rw[this];show some (Value.int .u32 (dgi m 0))=_;rw[e1]
  have SM:=qh<|jjv a d ca (dgi X) (m:Int) w HR.o.1 (Jr _ _) Zo (Zh ad) Zo;rw[F.o.1] at SM;have HN:=qh e0;clear e0 e1 hcell;go_enter func247,ntmps247;go_wp2_with fail
  refine SM.o.mono ?_;rintro e w4 ⟨aj,rfl,d1,d2,d3,a1⟩;have HO:=qh<|And.intro d1 (And.intro d2 (And.intro d3 a1));clear d1 d2 d3 a1 SM;go_wp2;go_ret2;have bI:=(HO.o.2.2.1.blk rfl).2.2;dsimp only at bI;have bL:0<=(X:Int)%(m:Int)/\(X:Int)%(m:Int)<1000000000:=⟨Int.emod_nonneg _ (Zh ad),by have:=Int.emod_lt_of_pos (X:Int) (b:=(m:Int)) (Zh ad);have:=HN.o;omega⟩
  refine⟨some ⟨w.heap.size,0,none⟩,d,d,aj,some ⟨w4.heap.size,0,none⟩,1,1,λ_=>(X:Int)%(m:Int),rfl,⟨HO.o.2.2.1.JD _,HO.o.1,by rw[HO.o.2.1];exact(Int.natCast_ediv _ _).symm,Zo,λz=>by cases z⟩,
   ⟨Own.Xa (row_one w4 _ _) HO.o.2.2.2.size (λbn hi=>Zo),λbn hi=>bL,?_,Zo,λz=>by cases z⟩,(λaj q B hq=>by cases B;cases hq;dsimp only;omega),HO.o.2.2.2.alloc HO.o.2.2.2.size _⟩
  show 0+(X:Int)%(m:Int)*((pw 0:Nat):Int)=_;rw[Qj,Int.natCast_emod];omega
 ·obtain⟨al,M,wl,bi,bg,ar,a3⟩:=Kj a d ca (dgi X) w w.heap.size 28 HR.o.1 Zo zj;have aq:=run_make_row' (P:=prog) 28 128 (.int .u32 0) 4 underlying28 QQ rfl .i64 .i64 (d+1) Zo Zo;have x1:=IntWalk.i64_in ((d:Int)+1) Zo;have x2:=IntWalk.i64_in ((d:Int)-(f:Int)) Zo;have aN:((d+1:Nat):Int)=(d:Int)+1:=Zo;rw[aN] at aq
  have bS:((f:Int)==1)=false:=by simp;omega
  have aa:=qh<|And.intro bg (And.intro ar a3);clear bg ar a3;have bv:=qh bi;clear bi;go_enter func247,ntmps247;go_wp2_with (at_builtin;refine wpList_append_run rfl _ _ 28 rfl _ _ rfl rfl _ _ bv.o ?_)
  go_wp2_with fail
  obtain⟨bT,hW⟩:=gn (wl.alloc (.cells (madeCells #[Value.int IntKind.u32 0] (d+1)) 128))
  have bh:Own 128 bT w.heap.size (some ⟨wl.heap.size,0,none⟩) (d+1) (d+1) (λ_=>0):=by rw[hW];exact Own.Xa (World.rowIs_made wl (.int .u32 0) (d+1) 128) aa.o.2.2.size (λbn hi=>Zo)
  have bc:Own 128 bT w.heap.size al d M (dgi X):=by rw[hW];exact aa.o.1.JD _
  have a2:=bq hW (aa.o.2.2.alloc aa.o.2.2.size _)
  have bf:∀ aj,al=some aj->aj.block<wl.heap.size:=λaj B=>(aa.o.1.blk B).2.2
  rw[<- hW];have HQ:=qh bh;have ay:=qh bc;have aQ:=qh a2;have aA:=qh bf;obtain⟨gq,a6⟩:=gn wl.heap.size;rw[<- a6] at HQ aA ⊢;clear hW bh bc a2 bf a6 aq;by_cases bK:d<f
  ·have ba:¬(0:Int)<=(d:Int)-(f:Int):=Zo;have aU:X<m:=Y5 (by rw[<- HL.o.1,<- HL.o.2];exact bK);have aP:=qh aU;clear aU;go_loopw [10] (λkv wr=>kv=.int .i64 ((d:Int)-(f:Int))/\wr=bT) (λ_ _=>0)
   case atStart=>exact⟨rfl,rfl⟩
   case round =>
    obtain⟨rfl,rfl⟩:=hrel;go_wp2;go_ret2
    exact⟨some ⟨gq,0,none⟩,d+1,d+1,λ_=>0,al,d,M,dgi X,rfl,⟨HQ.o,λbn hi=>Zo,by rw[ZH (λ_ _=>rfl),Nat.div_eq_of_lt aP.o];rfl,Zo,λz=>by cases z⟩,⟨ay.o,Jr _ _,by rw[F.o.1,Nat.mod_eq_of_lt aP.o],Zo,aa.o.2.1⟩,
     (λaj q B hq=>by cases B;have:=aA.o q hq;dsimp only;omega),aQ.o⟩
  ·obtain⟨I,rfl⟩:∃ I,al=some ⟨I,0,none⟩:=by
    rcases ay.o.place with ⟨_,z,_⟩ | ⟨g,bX,z,_⟩
    ·omega
    ·exact⟨g,z⟩
   have br:I<gq:=aA.o _ rfl;obtain⟨n,hn⟩:∃ n,f=n+1:=⟨f-1,Zo⟩;obtain⟨aM,hM⟩:∃ aM,aM+f=d+1:=⟨d+1-f,Zo⟩;have aV:0<(m:Int):=Zh ad
   have bm:XG (X:Int) (m:Int) d aM (dgi X) (λ_=>0):=by
    have z:=XG.start (la:=d) (kk:=aM) (B:=(m:Int)) (lp:=dgi X) (Jr _ _) (by
     rw[F.o.1];have h1:=JE X;rw[<- HL.o.1] at h1;have C:pw n<=m:=Zl (by rw[<- HL.o.2];omega)
     have h3:pw d=pw n*pw aM:=by rw[<- V4];congr 1;omega
     have h4:pw n*pw aM<=m*pw aM:=Nat.mul_le_mul_right _ C;rw[<- Int.natCast_mul]
     omega)
    rw[F.o.1] at z;exact z
   have HM:=qh hM;have bD:=qh bm;have Y:=qh br;have af:=qh hn;have O:=qh aV;have aX:(d:Int)-(f:Int)=(aM:Int)-1:=Zo
   have aL:0<dgi m n:=by
    have z:=Uh (m:=m) (Zh ad);rw[<- HL.o.2,hn,Nat.add_sub_cancel] at z;show(0:Int)<((dg m n:Nat):Int);omega
   have aT:=qh aL;rw[aX];clear hM bm hn aV aX aL x2;go_loopw [10] (λkv wr=>∃ (kk:Nat) (lp qp:Nat->Int),kk<=aM/\kv=.int .i64 ((kk:Int)-1)/\XG (X:Int) (m:Int) d kk lp qp/\jhb w wr I gq d M lp qp) (λkv _=>(intOf kv+1).toNat)
   case atStart=>exact⟨aM,dgi X,λ_=>0,zj,rfl,bD.o,ay.o,HQ.o,aQ.o⟩
   case round =>
    obtain⟨kk,lp,qp,b0,rfl,hG,aZ⟩:=hrel;obtain⟨wo,rfl⟩:=gn (wr:World);have KG:=qh hG;have KW:=qh aZ;clear hG aZ;by_cases ba:kk=0
    ·subst ba;rw[show(((0:Nat):Int)-1) = -1 from rfl];obtain⟨d1,d2⟩:=KG.o.done O.o;have HD:=qh<|And.intro d1 d2;clear d1 d2;go_wp2;go_ret2
     exact⟨some ⟨gq,0,none⟩,d+1,d+1,qp,some ⟨I,0,none⟩,d,M,lp,rfl,⟨KW.o.q,KG.o.dq,by rw[HD.o.1];exact(Int.natCast_ediv _ _).symm,Zo,λz=>by cases z⟩,
      ⟨KW.o.l,KG.o.dl,by rw[HD.o.2];exact(Int.natCast_emod _ _).symm,Zo,λz=>by cases z⟩,(λaj q B hq=>by cases B;cases hq;have:=Y.o;dsimp only;omega),KW.o.bel⟩
    ·obtain⟨j,rfl⟩:∃ j,kk=j+1:=⟨kk-1,Zo⟩;rw[show(((j+1:Nat):Int)-1)=(j:Int) by omega];go_wp2;go_loopw [11] (λov wr=>(∃ v:Value,ov=v)/\∃ (lp qp:Nat->Int),ZR (X:Int) (m:Int) d j lp qp/\jhb w wr I gq d M lp qp) (λ_ wr=>1000000000-cellN wr gq j)
     case atStart=>exact⟨⟨_,rfl⟩,lp,qp,KG.o.inner,KW.o⟩
     case round =>
      obtain⟨⟨ov,rfl⟩,y,H,hI,ah⟩:=hrel;obtain⟨wi,rfl⟩:=gn (wr:World);have A:=qh hI;have h:=qh ah;have az:=qh<|K7 ah.q (i:=j) (Zh HM);have bJ:j+f<=d:=Zh HM;obtain⟨v,hv⟩:=gn (dgi m n);obtain⟨T,hT⟩:=gn (Uc y d (j+n));obtain⟨g,hg⟩:=gn (T/(v+1));have a7:=jgv (m:=n) (Jr m f) af.o aT.o (by rw[F.o.2];exact hI) bJ (by rw[F.o.2];exact O.o);rw[<- hv,<- hT,<- hg,F.o.2] at a7;obtain⟨bG,bH,a5⟩:=a7
      have aY:0<=T/\T<=999999999999999999:=by rw[hT];exact jio hI.dl
      have b4:0<v/\v<=999999999:=by rw[hv];exact⟨aT.o,by have:=Jr m (n+1) n Zo;omega⟩
      have ak:=qh (λ(w':World) (l:Bl wi w')=>top_any (some ⟨I,0,none⟩) d M (j+n) y w' (ah.l.below l).rd hI.dl Zo (Zh af));have aG:(((j+n:Nat):Int)+1)=(j:Int)+(f:Int):=Zh af;rw[aG,<- hT] at ak;obtain⟨bb,bo,rfl,a4⟩:=(HR.o.2.below ah.bel).cells Zo
      have aF:wi.cell? ⟨bb,bo+n,none⟩=some (.int .u32 v):=by rw[hv];exact a4 n (Zh af)
      have aI:bb<w.heap.size:=by obtain⟨b2,o2,e2,C⟩:=HR.o.2.cells Zo;cases e2;exact block_lt_of_cell (C 0 Zo)
      have av:=qh aI;have aR:=qh (λ(w':World) (l:Bl wi w')=>((VU l).1 bb (bo+n) (block_lt_of_cell aF)).trans aF);have xj:=IntWalk.i64_in ((j:Int)+(f:Int)) Zo;have xn:(f:Int)-1=(n:Int):=Zh af;have bO:=IntWalk.i64_in (n:Int) Zo;have bP:(0:Int)<=(n:Int):=Zo;have ar:(n:Int)<(f:Int):=Zo;have bt:n<f:=Zo;have wv:=IntWalk.u64_in v Zo;have bN:=IntWalk.u64_in (v+1) Zo;have bM:¬v+1=0:=Zo
      have tq:T.tdiv (v+1)=g:=by rw[hg];exact Int.tdiv_eq_ediv_of_nonneg aY.1
      have wg:=IntWalk.u64_in g Zo;have ab:=qh a5;have aw:=qh<|And.intro bG bH;clear hI ah hv hT hg a5 aY a4 aI aG
      go_upto_region 10 with (fail)
      refine Ji 15 (JI [(5,Sp.know (.int .u64 T))]) (λw'=>Bl wi w') Zk Zk
       (Jb (Sp.Jk _) Jh) (λ_ _ z l=>z.trans (l.mono z.size)) (zk.drew) ?_
      simp only[zx,zy,zv,zw]
      iterate 5
       refine rd0 ?_
      (refine Jc rfl rfl (λw' x=>?_) ?_;· (have p:=Has.world x;go_simp;((refine(ak.o w' p).mono ?_;rintro e au ⟨rfl,rfl⟩;exact⟨_,rfl,rfl,zk⟩))))
      rintro _ rfl
      conv=>arg 10;simp only[Act.put,zq0,zq1,zq2]
      iterate 9
       refine rdw (λw' p=>by have hs:=aR.o _ p;go_simp;try rfl) ?_
      refine Jn (λJ a0 hF=>?_);have h:=qh<|h.o.below a0;clear hF a0 ak aR aF bO bP xn wv bN bM tq ar bt xj
      go_upto_region 11 with (fail)
      by_cases a8:g=0
      ·subst a8;obtain⟨Z,ag⟩:∃ Z:Nat,(Z:Int)=Jj y d:=⟨(Jj y d).toNat,by have:=(JB A.o.dl).1;omega⟩;obtain⟨DN,aH⟩:=gn (m*pw j:Nat)
       have an:Jj (QX (dgi m) j) (j+f)=(DN:Int):=by rw[jgu,F.o.2,aH,Int.natCast_mul]
       have bZ:Ja Z<=d:=by
        have z:=JW A.o.dl;rw[<- ag,Int.toNat_natCast] at z;exact z
       have bY:Ja DN<=j+f:=by
        have z:=JW (Yy (k:=j) (Jr m f));rw[an,Int.toNat_natCast] at z;exact z
       have aq:=run_make_row' (P:=prog) 28 128 (.int .u32 0) 4 underlying28 QQ rfl .i64 .i64 j Zo Zo;have aB:=qh (λ(w':World) (l:Bl J w')=>Xk false false (some ⟨I,0,none⟩) d M Z w.heap.size y w' (h.o.l.below l) A.o.dl Zo ag.symm rfl);have aC:=qh (λ(w':World) (L:Nat × Nat) (ho:Own 128 w' J.heap.size (some ⟨L.1,0,none⟩) (j+f) L.2 (QX (dgi m) j))=>Xk false false (some ⟨L.1,0,none⟩) (j+f) L.2 DN J.heap.size (QX (dgi m) j) w' ho (Yy (Jr m f)) Zo an rfl);obtain⟨cz,aJ⟩:=gn (Js (Z:Int) (DN:Int));have aD:=qh (λ(w':World) (l:Bl J w') (L:Nat × Nat) (ho:Own 128 w' J.heap.size (some ⟨L.1,0,none⟩) (Ja DN) L.2 (dgi DN))=>Vo Z DN (some ⟨I,0,none⟩) (some ⟨L.1,0,none⟩) M L.2 w' (XZ (h.o.l.below l) A.o.dl ag.symm).rd ho.rd Zo Zo);rw[<- aJ] at aD;have am:=qh<|And.intro ag aH;have aS:=qh aJ;have bC:=qh an;clear ag aH aJ an
       refine Ji 14 (JI [(4,Sp.know (Jv false (some ⟨I,0,none⟩) (Ja Z) M)),(7,Sp.made (λL:Nat=>.slice (some ⟨L,0,none⟩) j j) (λL w'=>Own 128 w' J.heap.size (some ⟨L,0,none⟩) j j (λ_=>0))),
         (9,Sp.made (λL:Nat × Nat=>.slice (some ⟨L.1,0,none⟩) (j+f) L.2) (λL w'=>Own 128 w' J.heap.size (some ⟨L.1,0,none⟩) (j+f) L.2 (QX (dgi m) j))),
         (10,Sp.made (λL:Nat × Nat=>Jv false (some ⟨L.1,0,none⟩) (Ja DN) L.2) (λL w'=>Own 128 w' J.heap.size (some ⟨L.1,0,none⟩) (Ja DN) L.2 (dgi DN))),(12,Sp.know (.int .i64 cz))]) (λw'=>Bl J w') Zk Zk
        (Jb (Sp.Jk _) (Jb (Sp.Jf λL w w' z l=>z.below l) (Jb (Sp.Jf λL w w' z l=>z.below l) (Jb (Sp.Jf λL w w' z l=>z.below l) (Jb (Sp.Jk _) Jh))))) (λ_ _ z l=>z.trans (l.mono z.size)) (zk.drew) ?_
       simp only[zx,zy,zv,zw]
       iterate 3
        refine rd0 ?_
       refine rdz ?_
       (refine JJ (by rfl) rfl (λw' x=>?_) ?_;· (have p:=Has.world x;go_simp;((refine(aB.o w' p).mono ?_;rintro e au ⟨rfl,l⟩;exact⟨_,rfl,rfl,l⟩))))
       rintro _ rfl
       conv=>arg 10;simp only[Act.put,zq0,zq1,zq2]
       iterate 2
        refine rdg (λw' p=>by have hs:=Vq false (some ⟨I,0,none⟩) (Ja Z) M w';go_simp;try rfl) ?_
       (refine JJ (by rfl) rfl (λw' x=>?_) ?_;· (have p:=Has.world x;go_simp;((exact⟨Own.Xa (World.rowIs_made w' (.int .u32 0) j 128) p.size (λbn hi=>Zo),zk.alloc zj _⟩))))
       rintro _ ⟨mx,rfl⟩
       conv=>arg 10;simp only[Act.put,zq0,zq1,zq2]
       refine rdz ?_;refine JJ (by rfl) rfl (λw' x=>?_) ?_
       ·have p:=x.world;have h7:=own_ofk (T:=128) (b:=J.heap.size) (x.fact 7 Zk);obtain⟨g',aE,au,bA,ho,l⟩:=VV mx j (some ⟨bb,bo,none⟩) f cb (dgi m) w' J.heap.size 28 h7 ((HR.o.2.below h.o.bel).below p) Zo Zo bs;exact YI _ _ 28 rfl rfl rfl bA ⟨⟨⟨(g',aE),rfl⟩,⟨(g',aE),rfl,ho.mono p.size⟩⟩,l⟩
       rintro _ ⟨ax,rfl⟩
       conv=>arg 10;simp only[Act.put,zq0,zq1,zq2]
       (refine JJ (by rfl) rfl (λw' x=>?_) ?_;· (have p:=Has.world x;go_simp;((have h9:=own_ofc (T:=128) (b:=J.heap.size) (x.fact 9 Zk);refine(aC.o w' ax h9).mono ?_;rintro e au ⟨rfl,l⟩;exact⟨_,rfl,⟨⟨ax.1,ax.2,rfl⟩,⟨ax.1,ax.2,rfl,XZ (h9.below l) (Yy (Jr m f)) bC.o⟩⟩,l⟩))))
       rintro _ ⟨nx,rfl⟩
       conv=>arg 10;simp only[Act.put,zq0,zq1,zq2]
       refine rdg (λw' p=>by have hs:=Vq false (some ⟨nx.1,0,none⟩) (Ja DN) nx.2 w';go_simp;try rfl) ?_
       (refine JJ (by rfl) rfl (λw' x=>?_) ?_;· (have p:=Has.world x;go_simp;((have bE:=own_ofn (T:=128) (b:=J.heap.size) (x.fact 10 Zk);refine(aD.o w' p nx bE).mono ?_;rintro e au ⟨rfl,bB,rfl⟩;exact⟨_,rfl,rfl,QC zk bB⟩))))
       rintro _ rfl
       conv=>arg 10;simp only[Act.put,zq0,zq1,zq2]
       refine rdz ?_;refine Jn (λw2 ai hF=>?_);have h:=qh<|h.o.below ai;clear hF ai aB aC aD aq;by_cases bF:cz<0
       ·have be:Jj y d<(m:Int)*(pw j:Int):=by
         have z:=aS.o;rw[<- am.o.1,<- Int.natCast_mul,<- am.o.2]
         rcases Int.lt_or_le (Z:Int) (DN:Int) with h1 | h1
         ·exact h1
         ·exfalso
          rcases Int.lt_or_le (DN:Int) (Z:Int) with C | C
          ·rw[JS C] at z;omega
          ·rw[J7 Zo] at z;omega
        have KO:=qh<|A.o.outer be;have b5:=IntWalk.i64_in ((j:Int)-1) Zo;clear be;go_wp2;go_roundw
        case rel=>exact⟨j,y,H,Zh HM,rfl,KO.o,h.o⟩
        case measure=>first | (simp[intOf];omega) | (simp[intOf];done)
       ·have bU:decide (cz<0)=false:=zo bF
        have ab:=qh (show 1*(m:Int)*(pw j:Int)<=Jj y d by
         have z:=aS.o;rw[Int.one_mul,<- am.o.1,<- Int.natCast_mul,<- am.o.2]
         rcases Int.lt_or_le (Z:Int) (DN:Int) with h1 | h1
         ·rw[JK h1] at z;omega
         ·exact h1)
        have s:=qh<|show 0<(1:Int)/\(1:Int)<=999999999 from Zo;have i:d=j+(d-j):=Zo
        have TK:=qh (Vr I d M w.heap.size j f cb (d-j) (some ⟨bb,bo,none⟩) y (dgi m) 1 w2 h.o.l (HR.o.2.below h.o.bel) (λ_ q hq=>by cases hq;have h1:=av.o;have C:=(h.o.l.blk rfl).2.1;dsimp only at *;omega)
         A.o.dl (Jr _ _) i Zo Zo (Zh s))
        have Q:=qh<|Vm (p:=y) (ob:=dgi m) (lb:=f) (at':=j) (m:=d-j) (often:=1) (by rw[<- i];exact A.o.dl) Zo (by rw[F.o.2];exact Int.mul_nonneg (Zh s) (Zh O)) (by rw[F.o.2,<- i];exact ab.o);rw[F.o.2,<- i] at Q;have R:=qh<|A.o.step (g:=1) O.o Zo (Zh s) (Vl A.o.dl) Q.o;clear i;go_wp2_with fail
        refine TK.o.mono ?_;rintro e w3 ⟨rfl,U,G,S⟩;have u:=h.o.q.only G (λaj B=>by cases B;have:=Y.o;dsimp only;omega);have cq:w3.cell? ⟨gq,j,none⟩=some (.int .u32 (H j)):=u.cell Zo;have fq:=u.fz;have W:=A.o.dq j Zo;have V:=R.o.1;have aW:=s.o;have ug:=IntWalk.u32_in 1 Zo;have uq:=IntWalk.u32_in (H j+1) Zo;have ae:=qh U;have D:=qh u;have ac:=qh<|h.o.bel.trans S;have E:=qh<|And.intro W V;have a9:(j:Int)<(d:Int)+1:=Zo;have r:j<d+1:=Zo;clear U G S u TK W V;go_wp2;go_roundw
        case rel =>
         have C:=(D.o.blk rfl).2.1;dsimp only at C;exact⟨⟨_,rfl⟩,_,_,R.o.2,ae.o.keep (λaj B=>Below.heap_setCell _ _ _ _ (by cases B;have:=Y.o;dsimp only;omega)),D.o.put r (Zh E),ac.o.setCell C _⟩
        case measure =>
         have h3:=K7 (D.o.put (t:=j) (v:=H j+1) r (Zh E)) (i:=j) r;rw[upd_same] at h3;rw[h3,az.o];have:=E.o;omega
      ·have bV:(g==0)=false:=by simpa using a8
       refine Ji 14 (JI []) (λw'=>Bl J w') Zk Zk Jh (λ_ _ z l=>z.trans (l.mono z.size)) (zk.drew) ?_;simp only[zx,zy,zv,zw]
       iterate 3
        refine rd0 ?_
       iterate 11 (refine QZ (by rfl) ?_;conv=>arg 10;simp only[Act.put,zq0,zq1,zq2])
       refine Jn (λw2 ai hF=>?_);have h:=qh<|h.o.below ai;clear hF ai;by_cases aO:g=1
       ·subst aO;have s:=qh<|show 0<(1:Int)/\(1:Int)<=999999999 from Zo;have i:d=j+(d-j):=Zo
        have TK:=qh (Vr I d M w.heap.size j f cb (d-j) (some ⟨bb,bo,none⟩) y (dgi m) 1 w2 h.o.l (HR.o.2.below h.o.bel) (λ_ q hq=>by cases hq;have h1:=av.o;have C:=(h.o.l.blk rfl).2.1;dsimp only at *;omega)
         A.o.dl (Jr _ _) i Zo Zo (Zh s))
        have Q:=qh<|Vm (p:=y) (ob:=dgi m) (lb:=f) (at':=j) (m:=d-j) (often:=1) (by rw[<- i];exact A.o.dl) Zo (by rw[F.o.2];exact Int.mul_nonneg (Zh s) (Zh O)) (by rw[F.o.2,<- i];exact ab.o);rw[F.o.2,<- i] at Q;have R:=qh<|A.o.step (g:=1) O.o Zo (Zh s) (Vl A.o.dl) Q.o;clear i;go_wp2_with fail
        refine TK.o.mono ?_;rintro e w3 ⟨rfl,U,G,S⟩;have u:=h.o.q.only G (λaj B=>by cases B;have:=Y.o;dsimp only;omega);have cq:w3.cell? ⟨gq,j,none⟩=some (.int .u32 (H j)):=u.cell Zo;have fq:=u.fz;have W:=A.o.dq j Zo;have V:=R.o.1;have aW:=s.o;have ug:=IntWalk.u32_in 1 Zo;have uq:=IntWalk.u32_in (H j+1) Zo;have ae:=qh U;have D:=qh u;have ac:=qh<|h.o.bel.trans S;have E:=qh<|And.intro W V;have a9:(j:Int)<(d:Int)+1:=Zo;have r:j<d+1:=Zo;clear U G S u TK W V;go_wp2;go_roundw
        case rel =>
         have C:=(D.o.blk rfl).2.1;dsimp only at C;exact⟨⟨_,rfl⟩,_,_,R.o.2,ae.o.keep (λaj B=>Below.heap_setCell _ _ _ _ (by cases B;have:=Y.o;dsimp only;omega)),D.o.put r (Zh E),ac.o.setCell C _⟩
        case measure =>
         have h3:=K7 (D.o.put (t:=j) (v:=H j+1) r (Zh E)) (i:=j) r;rw[upd_same] at h3;rw[h3,az.o];have:=E.o;omega
       ·have bW:1<g:=Zh aw;have bQ:¬g<1:=Zo;have bR:¬g<=1:=Zo;have s:=qh<|show 0<g/\g<=999999999 from Zh aw;have i:d=j+(d-j):=Zo
        have TK:=qh (Vr I d M w.heap.size j f cb (d-j) (some ⟨bb,bo,none⟩) y (dgi m) g w2 h.o.l (HR.o.2.below h.o.bel) (λ_ q hq=>by cases hq;have h1:=av.o;have C:=(h.o.l.blk rfl).2.1;dsimp only at *;omega)
         A.o.dl (Jr _ _) i Zo Zo (Zh s))
        have Q:=qh<|Vm (p:=y) (ob:=dgi m) (lb:=f) (at':=j) (m:=d-j) (often:=g) (by rw[<- i];exact A.o.dl) Zo (by rw[F.o.2];exact Int.mul_nonneg (Zh s) (Zh O)) (by rw[F.o.2,<- i];exact ab.o);rw[F.o.2,<- i] at Q;have R:=qh<|A.o.step (g:=g) O.o Zo (Zh s) (Vl A.o.dl) Q.o;clear i;go_wp2_with fail
        refine TK.o.mono ?_;rintro e w3 ⟨rfl,U,G,S⟩;have u:=h.o.q.only G (λaj B=>by cases B;have:=Y.o;dsimp only;omega);have cq:w3.cell? ⟨gq,j,none⟩=some (.int .u32 (H j)):=u.cell Zo;have fq:=u.fz;have W:=A.o.dq j Zo;have V:=R.o.1;have aW:=s.o;have ug:=IntWalk.u32_in g Zo;have uq:=IntWalk.u32_in (H j+g) Zo;have ae:=qh U;have D:=qh u;have ac:=qh<|h.o.bel.trans S;have E:=qh<|And.intro W V;have a9:(j:Int)<(d:Int)+1:=Zo;have r:j<d+1:=Zo;clear U G S u TK W V;go_wp2;go_roundw
        case rel =>
         have C:=(D.o.blk rfl).2.1;dsimp only at C;exact⟨⟨_,rfl⟩,_,_,R.o.2,ae.o.keep (λaj B=>Below.heap_setCell _ _ _ _ (by cases B;have:=Y.o;dsimp only;omega)),D.o.put r (Zh E),ac.o.setCell C _⟩
        case measure =>
         have h3:=K7 (D.o.put (t:=j) (v:=H j+g) r (Zh E)) (i:=j) r;rw[upd_same] at h3;rw[h3,az.o];have:=E.o;omega
end Limb
end Go.Proofs.YthacfgmdihcffaaGreatDoor
