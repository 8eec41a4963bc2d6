/-
  The Book's Term.
-/
import Derived.Test.YthacfgmdihcffaaGreatDoorPzRP
import Derived.WalkMore
import Derived.OwnWalk
set_option linter.unusedSimpArgs false
set_option linter.unusedVariables false
set_option maxHeartbeats 16000000
set_option maxRecDepth 100000
namespace Go.Proofs.YthacfgmdihcffaaGreatDoor
namespace Pol
open Go.RowKit Go.Sort Limb
abbrev ptr (b:Nat):Value:=.pointer (some ⟨b,0,none⟩)
structure DvR where
 b:Nat
 y:FV
 x:PV
 z:PV
abbrev DvE:=DvR × (Dv × List Tm)
structure DvOK (w0 w:World) (lo:Nat) (e:DvE):Prop where
 ge:lo<=e.1.b
 bx:Bxs w e.1.b 101 (dvC e.1.y e.2.1.1.1 e.1.x e.1.z)
 le:DF w lo e.1.y e.2.1.1.2
 all:KP w0 e.1.x e.2.1.2
 of:DP w lo e.1.z e.2.2
theorem DvOK.below {w0 w w':World} {lo:Nat} {e:DvE} (h:DvOK w0 w lo e) (hb:Below w.heap.size w w'):DvOK w0 w' lo e:=⟨h.ge,h.bx.below hb h.bx.lt,h.le.below hb,h.all,h.of.below hb⟩
abbrev OD (w:World) (lo:Nat) (v:Value) (bs:List Nat):Prop:=w.ownsRow lo 96 1 v bs.length (bs.map ptr)
theorem OD.below {w w':World} {lo:Nat} {v:Value} {bs:List Nat} (h:OD w lo v bs) (hb:Below w.heap.size w w'):OD w' lo v bs:=by
 refine⟨h.1,h.2.imp id ?_⟩;rintro⟨g,cap,cur,hv,hlo,hg,h3⟩;exact⟨g,cap,cur,hv,hlo,(hb.block g (lt_of_block hg)).trans hg,h3⟩
theorem OD.own {w:World} {lo:Nat} {v:Value} {bs:List Nat} (h:OD w lo v bs) {k:Nat} (hk:some k=v.ownBlock):lo<=k/\∃ cur,w.heap[k]?=some (.cells cur 96 (0,0)):=by
 rcases h.2 with ⟨hv,_⟩ | ⟨g,cap,cur,hv,hlo,hg,_⟩
 ·rw[hv] at hk;cases hk
 ·rw[hv] at hk;have hk:some k=some g:=hk
  cases hk
  exact⟨hlo,cur,hg⟩
theorem DvOK.kept {w0 w w':World} {lo:Nat} {e:DvE} (h:DvOK w0 w lo e) (hk:∀ (b:Nat) (c:Array Value) (T:TypeId),w.heap[b]?=some (.cells c T (0,0))->(rowT T || T==101)=true->w'.heap[b]?=w.heap[b]?):DvOK w0 w' lo e :=
 ⟨h.ge,h.bx.of (hk _ _ _ h.bx rfl),h.le.kept fun b hb=>let ⟨_,h5⟩:=DF.blkc h.le hb;hk b _ _ h5 rfl,h.all,h.of.rows fun b c T hg ht=>hk b c T hg (by rw[ht];rfl)⟩
theorem OD.other {w w':World} {lo:Nat} {v:Value} {bs:List Nat} (h:OD w lo v bs) (hg:w.grownBy w' v.ownBlock):∀ (b:Nat) (c:Array Value) (T:TypeId),w.heap[b]?=some (.cells c T (0,0))->(rowT T || T==101)=true->w'.heap[b]?=w.heap[b]?:=fun b c T hb hT =>
 hg.block b (lt_of_block hb) fun e=>by
  obtain⟨_,c2,h5⟩:=h.own e;rw[hb] at h5
  have:T=96:=by injection h5 with h5;injection h5
  subst this;exact absurd hT (by decide)
structure DVS (w0 w:World) (lo:Nat) (v:Value) (es:List DvE):Prop where
 row:OD w lo v (es.map fun e=>e.1.b)
 ok:∀ e∈es,DvOK w0 w lo e
 ap:(es.map fun e=>e.1.b).Nodup
theorem DVS.below {w0 w w':World} {lo:Nat} {v:Value} {es:List DvE} (h:DVS w0 w lo v es) (hb:Below w.heap.size w w'):DVS w0 w' lo v es:=⟨h.row.below hb,fun e he=>(h.ok e he).below hb,h.ap⟩
theorem DVS.nil (w0 w:World) (lo:Nat):DVS w0 w lo (.slice none 0 0) []:=⟨World.ownsRow_nil _ _ _ _,fun e he=>(by cases he),List.nodup_nil⟩
theorem DVS.push {w0 wr wx:World} {lo:Nat} {v v':Value} {es:List DvE} {e:DvE} {D S:Obj} (h:DVS w0 wr lo v es) (he:DvOK w0 (wr.alloc D) lo e) (hb:e.1.b=wr.heap.size)
  (ho:OD wx lo v' (es.map (fun e=>e.1.b)++[e.1.b])) (hg:((wr.alloc D).alloc S).grownBy wx v.ownBlock):DVS w0 wx lo v' (es++[e]):=by
 have h1:Below wr.heap.size wr ((wr.alloc D).alloc S):=(zk.alloc zj _).alloc (by simp) _;have h2:Below (wr.alloc D).heap.size (wr.alloc D) ((wr.alloc D).alloc S):=zk.alloc zj _;have h3:=h.below h1;have hk:=h3.row.other hg;refine⟨by rw[List.map_append];exact ho,fun d hd=>?_,?_⟩
 ·rcases List.mem_append.1 hd with hd | hd
  ·exact(h3.ok d hd).kept hk
  ·rw[List.mem_singleton.1 hd];exact(he.below h2).kept hk
 ·rw[List.map_append];refine List.nodup_append.2 ⟨h.ap,List.nodup_cons.2 ⟨by simp,List.nodup_nil⟩,fun b hb1 c hc e1=>?_⟩;obtain⟨d,hd,rfl⟩:=List.mem_map.1 hb1
  obtain rfl:c=e.1.b:=by simpa using hc
  have:=(h.ok d hd).bx.lt;omega
structure CP (w:World) (a:Option Addr) (n c:Nat) (P:List Tm) (i:Nat):Prop where
 len:(n:Int)=degP P i+1
 get:∀ k,k<n->∃ (b:Nat) (z:PV),a=some ⟨b,0,none⟩/\w.cell? ⟨b,k,none⟩=some z.v/\KP w z (coefP P i k)
 cap:n<=c
theorem CP.below {w w':World} {a:Option Addr} {n c:Nat} {P:List Tm} {i:Nat} (h:CP w a n c P i) (hb:Below w.heap.size w w'):CP w' a n c P i :=
 ⟨h.len,fun k hk=>by
  obtain⟨b,z,h1,h2,h3⟩:=h.get k hk
  exact⟨b,z,h1,(hb.cell (p:=⟨b,k,none⟩) (block_lt_of_cell h2)).trans h2,h3.below hb⟩,h.cap⟩
theorem CP.of {w:World} {lo:Nat} {v:Value} {Zs:List PV} {P:List Tm} {i:Nat} (h:OC w lo v Zs) (hl:(Zs.length:Int)=degP P i+1) (hd:∀ k z,Zs[k]?=some z->DP w lo z (coefP P i k)):∃ a c,v=.slice a Zs.length c/\CP w a Zs.length c P i:=by
 rcases h.2 with ⟨hv,h0⟩ | ⟨g,cap,cur,hv,hlo,hg,hnc,_,hcs,htake⟩
 ·refine⟨none,0,by rw[hv,h0],hl,fun k hk=>by omega,by omega⟩
 ·refine⟨some ⟨g,0,none⟩,cap,hv,hl,fun k hk=>?_,hnc⟩;obtain⟨z,hz⟩:∃ z,Zs[k]?=some z:=⟨_,List.getElem?_eq_getElem hk⟩;refine⟨g,z,rfl,?_,(hd k z hz).k⟩;rw[cell_of_row _ _ _ _ _ _ hg]
  have h1:(Zs.map PV.v)[k]?=some z.v:=by rw[List.getElem?_map,hz];rfl
  rw[<- htake,List.getElem?_take,if_pos (by omega),Array.getElem?_toList] at h1;exact h1
theorem plead {w:World} {x:PV} {P:List Tm} {n k e:Nat} (o:Int) (hx:KP w x P) (b:PC P n k e) (hk:k<=900000) (hn:n<=1000000) (hne:P≠[]) :
  Calls Tryz.prog 8 #[.int .u8 o,x.v] w fun e w'=>∃ (y:FV) (t:Tm),e=.returned (.tuple #[TV.v ⟨y,t.1⟩,.bool true])/\DF w' w.heap.size y t.2/\Lead (keyO o) P t/\Below w.heap.size w w' :=
 lead_k o x P w hx.any (b.lq hk) (zm (hx.n_le b) hn) hne
def PP (w0 w:World) (lo:Nat) (x:PV) (P:List Tm):Prop:=KP w0 x P\/DP w lo x P
theorem PP.k {w0 w:World} {lo:Nat} {x:PV} {P:List Tm} (h:PP w0 w lo x P) (hb:Below w0.heap.size w0 w):KP w x P:=h.elim (fun h=>h.below hb) (fun h=>h.k)
theorem PP.below {w0 w w':World} {lo:Nat} {x:PV} {P:List Tm} (h:PP w0 w lo x P) (hb:Below w.heap.size w w'):PP w0 w' lo x P:=h.imp id fun h=>h.below hb
theorem PP.canon {w0 w:World} {lo:Nat} {x:PV} {P:List Tm} (h:PP w0 w lo x P):Canon P:=h.elim (fun h=>h.canon) (fun h=>h.canon)
theorem PP.small {w0 w:World} {lo:Nat} {x:PV} {P:List Tm} (h:PP w0 w lo x P):∀ t∈P,t.1.Small:=h.elim (fun h=>h.small) (fun h=>h.small)
theorem PP.rows {w0 w w':World} {lo:Nat} {x:PV} {P:List Tm} (h:PP w0 w lo x P) (hs:∀ (b:Nat) (c:Array Value) (T:TypeId),w.heap[b]?=some (.cells c T (0,0))->rowT T=true->w'.heap[b]?=w.heap[b]?):PP w0 w' lo x P:=h.imp id fun h=>h.rows hs
theorem OD.slice {w:World} {lo:Nat} {v:Value} {bs:List Nat} (h:OD w lo v bs):∃ a c,v=.slice a bs.length c/\∀ i b,bs[i]?=some b->∃ g,a=some ⟨g,0,none⟩/\w.cell? ⟨g,i,none⟩=some (ptr b):=by
 rcases h.2 with ⟨hv,h0⟩ | ⟨g,cap,cur,hv,hnc,_,hg,_,hcs,htake⟩
 ·have hz:bs=[]:=List.length_eq_zero_iff.1 h0;subst hz;exact⟨none,0,hv,fun i b hi=>by simp at hi⟩
 ·refine⟨some ⟨g,0,none⟩,cap,hv,fun i b hi=>⟨g,rfl,?_⟩⟩;have hil:=(List.getElem?_eq_some_iff.1 hi).1;rw[cell_of_row _ _ _ _ _ _ ‹_›]
  have h1:(bs.map ptr)[i]?=some (ptr b):=by rw[List.getElem?_map,hi];rfl
  rw[<- htake,List.getElem?_take,if_pos (by omega),Array.getElem?_toList] at h1;exact h1
abbrev OQ (w:World) (lo:Nat) (v:Value) (Zs:List PV):Prop:=w.ownsRow lo 23 1 v Zs.length (Zs.map PV.v)
theorem infoPq:(Tryz.prog.info? 23).map (fun i=>(i.zero,i.size,i.bytes))=some (some (.slice none 0 0),1,24):=by kernel_rfl
theorem OQ.own {w:World} {lo:Nat} {v:Value} {Zs:List PV} (h:OQ w lo v Zs) {k:Nat} (hk:some k=v.ownBlock):lo<=k/\∃ cur,w.heap[k]?=some (.cells cur 23 (0,0)):=by
 rcases h.2 with ⟨hv,_⟩ | ⟨g,cap,cur,hv,hlo,hg,_⟩
 ·rw[hv] at hk;cases hk
 ·rw[hv] at hk;have hk:some k=some g:=hk
  cases hk
  exact⟨hlo,cur,hg⟩
theorem OQ.other {w w':World} {lo:Nat} {v:Value} {Zs:List PV} (h:OQ w lo v Zs) (hg:w.grownBy w' v.ownBlock):∀ (b:Nat) (c:Array Value) (T:TypeId),w.heap[b]?=some (.cells c T (0,0))->(rowT T || T==101 || T==96)=true->w'.heap[b]?=w.heap[b]?:=fun b c T hb hT =>
 hg.block b (lt_of_block hb) fun e=>by
  obtain⟨_,c2,h5⟩:=h.own e;rw[hb] at h5
  have:T=23:=by injection h5 with h5;injection h5
  subst this;exact absurd hT (by decide)
theorem DVS.kept {w0 w w':World} {lo:Nat} {v:Value} {es:List DvE} (h:DVS w0 w lo v es) (hk:∀ (b:Nat) (c:Array Value) (T:TypeId),w.heap[b]?=some (.cells c T (0,0))->(rowT T || T==101 || T==96)=true->w'.heap[b]?=w.heap[b]?):DVS w0 w' lo v es:=by
 refine⟨⟨h.row.1,h.row.2.imp id ?_⟩,fun e he=>(h.ok e he).kept fun b c T hg hT=>hk b c T hg (by rw[hT];rfl),h.ap⟩;rintro⟨g,cap,cur,hv,hlo,hg,h3⟩;exact⟨g,cap,cur,hv,hlo,(hk g cur _ hg rfl).trans hg,h3⟩
structure T8 (w:World) (b o:Nat) (t:TV):Prop where
 eight:w.cell? ⟨b,o,none⟩=some (.bool t.c.t.s)/\w.cell? ⟨b,o+1,none⟩=some (.slice t.c.t.a t.c.t.n t.c.t.c)/\w.cell? ⟨b,o+2,none⟩=some (.bool t.c.l.s)/\w.cell? ⟨b,o+3,none⟩=some (.slice t.c.l.a t.c.l.n t.c.l.c) /\
  w.cell? ⟨b,o+4,none⟩=some (.int .u16 t.m.x)/\w.cell? ⟨b,o+5,none⟩=some (.int .u16 t.m.y)/\w.cell? ⟨b,o+6,none⟩=some (.int .u16 t.m.z)/\w.cell? ⟨b,o+7,none⟩=some (.int .u16 t.m.t)
theorem T8.below {w w':World} {b o:Nat} {t:TV} (h:T8 w b o t) (hb:Below w.heap.size w w'):T8 w' b o t:=by
 obtain⟨h0,h1,h2,h3,h4,h5,h6,h7⟩:=h.eight
 have f:∀ {i:Nat} {v:Value},w.cell? ⟨b,i,none⟩=some v->w'.cell? ⟨b,i,none⟩=some v:=fun {i v} h=>(hb.cell (p:=⟨b,i,none⟩) (block_lt_of_cell h)).trans h
 exact⟨f h0,f h1,f h2,f h3,f h4,f h5,f h6,f h7⟩
structure SA (w:World) (x:PV) (P:List Tm) (ok:Bool) (n k e:Nat):Prop where
 h:(ok=true/\KP w x P)\/(ok=false/\BP w x/\P=[])
 b:PC P n k e
 le:x.n<=1000000
theorem SA.below {w w':World} {x:PV} {P:List Tm} {ok:Bool} {n k e:Nat} (h:SA w x P ok n k e) (hb:Below w.heap.size w w'):SA w' x P ok n k e :=
 ⟨h.h.imp (fun h=>⟨h.1,h.2.below hb⟩) (fun h=>⟨h.1,h.2.1.below hb,h.2.2⟩),h.b,h.le⟩
theorem SA.ap {w:World} {x:PV} {P:List Tm} {ok:Bool} {n k e:Nat} (h:SA w x P ok n k e):AP w x P:=h.h.elim (fun h=>h.2.any) (fun h=>Or.inr h.2)
theorem KP.sa {w:World} {x:PV} {P:List Tm} {n k e:Nat} (h:KP w x P) (b:PC P n k e) (hn:n<=1000000):SA w x P true n k e:=⟨Or.inl ⟨rfl,h⟩,b,zm (h.n_le b) hn⟩
theorem sa_of {w:World} {x:PV} {L:List TO} {m E:Nat} (h:RawQ w x L) (hg:NotGreat m (L.map Prod.fst)) (hw:∀ e∈L,e.1.m.le E) (hm:m<=1000000):∃ P ok,SA w x P ok m 4 E:=by
 rcases raw_cases h hg hw with ⟨P,hk,hc⟩ | hb
 ·exact⟨P,true,hk.sa hc hm⟩
 ·exact⟨[],false,Or.inr ⟨rfl,hb,rfl⟩,PC.nil _ _ _,zm (BP.n_le h hg) hm⟩
def LA (w:World) (x0 x1 x2 x3:FV) (l:Nat->Rat) (ok:Bool) (kl:Nat):Prop :=
 (ok=true/\K4 w x0 x1 x2 x3 l/\∀ i,LQ (l i) kl)\/(ok=false/\∃ oks:Nat->Bool,B4 w x0 x1 x2 x3 oks/\∃ i,i<4/\oks i=false)
theorem LA.below {w w':World} {x0 x1 x2 x3:FV} {l:Nat->Rat} {ok:Bool} {kl:Nat} (h:LA w x0 x1 x2 x3 l ok kl) (hb:Below w.heap.size w w'):LA w' x0 x1 x2 x3 l ok kl :=
 h.imp (fun h=>⟨h.1,h.2.1.below hb,h.2.2⟩) (fun ⟨h1,oks,h2,h3⟩=>⟨h1,oks,h2.below hb,h3⟩)
def Zq (x:FV):Prop:=∃ a c b d,x=⟨⟨false,a,0,c⟩,⟨false,b,0,d⟩⟩
theorem Zq.lf {x:FV} (h:Zq x) (k:Nat):LF x k:=by
 obtain⟨a,c,b,d,rfl⟩:=h;exact⟨Nat.zero_le _,Nat.zero_le _⟩
structure T0 (w:World) (b o:Nat) (t:TV):Prop where
 c:w.cell? ⟨b,o,none⟩=some (.bool t.c.t.s)/\w.cell? ⟨b,o+1,none⟩=some (.slice t.c.t.a t.c.t.n t.c.t.c)/\w.cell? ⟨b,o+2,none⟩=some (.bool t.c.l.s)/\w.cell? ⟨b,o+3,none⟩=some (.slice t.c.l.a t.c.l.n t.c.l.c)
theorem T0.below {w w':World} {b o:Nat} {t:TV} (h:T0 w b o t) (hb:Below w.heap.size w w'):T0 w' b o t:=by
 obtain⟨h0,h1,h2,h3⟩:=h.c;exact⟨(hb.cell (p:=⟨b,o,none⟩) (block_lt_of_cell h0)).trans h0,(hb.cell (p:=⟨b,o+1,none⟩) (block_lt_of_cell h1)).trans h1,(hb.cell (p:=⟨b,o+2,none⟩) (block_lt_of_cell h2)).trans h2,(hb.cell (p:=⟨b,o+3,none⟩) (block_lt_of_cell h3)).trans h3⟩
def ZqW (_:World) (x:FV):Prop:=Zq x
theorem ZqW.below {x:FV} {B:Nat} {w w':World} (h:ZqW w x) (_:Below B w w'):ZqW w' x:=h
theorem ZqW.z {w:World} {x:FV} (h:ZqW w x):Zq x:=h
structure InP (w:World) (x:PV) (ts:List TV) (m:Nat) (P:List Tm):Prop where
 k:KP w x P
 len:P.length<=m
 ls:∀ t∈P,LS t.2 4 1
 mo:P.map Prod.fst=ts.map TV.m
theorem InP.below {w w':World} {x:PV} {ts:List TV} {m:Nat} {P:List Tm} (h:InP w x ts m P) (hb:Below w.heap.size w w'):InP w' x ts m P:=⟨h.k.below hb,h.len,h.ls,h.mo⟩
theorem InP.lq {w:World} {x:PV} {ts:List TV} {m:Nat} {P:List Tm} (h:InP w x ts m P):∀ t∈P,LQ t.2 4:=fun t ht=>(h.ls t ht).lq zj (by decide)
structure InD (w:World) (terms:Nat) (Ls:List (List TV)) (qs:List (PV × List Tm)):Prop where
 len:qs.length=Ls.length
 i:∀ (i:Nat) (q:PV × List Tm) (us:List TV),qs[i]?=some q->Ls[i]?=some us->InP w q.1 us terms q.2
theorem InD.all {w:World} {terms:Nat} {Ls:List (List TV)} {qs:List (PV × List Tm)} (h:InD w terms Ls qs) {q:PV × List Tm} (hq:q∈qs):∃ us∈Ls,InP w q.1 us terms q.2:=by
 obtain⟨i,hi⟩:=List.mem_iff_getElem?.1 hq;have hil:=(List.getElem?_eq_some_iff.1 hi).1;have h2:=List.getElem?_eq_getElem (l:=Ls) (i:=i) (by rw[<- h.len];exact hil);exact⟨_,List.mem_of_getElem? h2,h.i i q _ hi h2⟩
theorem Mo.le.small {m:Mo} {e:Nat} (h:m.le e) (he:e<=65535):m.Small:=⟨zm h.1 he,zm h.2.1 he,zm h.2.2.1 he,zm h.2.2.2 he⟩
structure DGood (w:World) (o:Int) (terms:Nat) (p:PV) (ts:List TV) (P:List Tm) (Ls:List (List TV)) (qs:List (PV × List Tm)) (ds:List Dv):Prop where
 o2:o<=2
 p:InP w p ts terms P
 q:InD w terms Ls qs
 ne:∀ q∈qs,q.2≠[]
 e:ds.map Prod.snd=qs.map Prod.snd
 lead:∀ d∈ds,Lead (keyO o) d.2 d.1
theorem DGood.of {w:World} {o:Int} {terms:Nat} {p:PV} {ts:List TV} {P:List Tm} {Ls:List (List TV)} {qs:List (PV × List Tm)} {ds:List Dv} (h:DGood w o terms p ts P Ls qs ds) {d:Dv} (hd:d∈ds):∃ us∈Ls,∃ q∈qs,q.2=d.2/\InP w q.1 us terms q.2:=by
 have h1:d.2∈qs.map Prod.snd:=by rw[<- h.e];exact List.mem_map_of_mem hd
 obtain⟨q,hq1,e⟩:=List.mem_map.1 h1;obtain⟨us,hu,hi⟩:=h.q.all hq1;exact⟨us,hu,q,hq1,e,hi⟩
theorem DGood.len {w:World} {o:Int} {terms:Nat} {p:PV} {ts:List TV} {P:List Tm} {Ls:List (List TV)} {qs:List (PV × List Tm)} {ds:List Dv} (h:DGood w o terms p ts P Ls qs ds):ds.length=qs.length:=by
 have:=congrArg List.length h.e;rw[List.length_map,List.length_map] at this;exact this
theorem DGood.below {w w':World} {o:Int} {terms:Nat} {p:PV} {ts:List TV} {P:List Tm} {Ls:List (List TV)} {qs:List (PV × List Tm)} {ds:List Dv} (h:DGood w o terms p ts P Ls qs ds) (hb:Below w.heap.size w w'):DGood w' o terms p ts P Ls qs ds :=
 ⟨h.o2,h.p.below hb,⟨h.q.len,fun i q us h1 h2=>(h.q.i i q us h1 h2).below hb⟩,h.ne,h.e,h.lead⟩
theorem OQ.row {w:World} {lo:Nat} {v:Value} {zs:List PV} (h:OQ w lo v zs):∃ a c,v=.slice a zs.length c/\RS w a zs/\(∀ i z,zs[i]?=some z->∃ g,a=some ⟨g,0,none⟩/\w.cell? ⟨g,i,none⟩=some z.v):=by
 rcases h.2 with ⟨hv,h0⟩ | ⟨g,cap,cur,hv,hnc,_,hg,_,hcs,htake⟩
 ·have hz:zs=[]:=List.length_eq_zero_iff.1 h0;subst hz;exact⟨none,0,hv,RS.nil _ _,fun i b hi=>by simp at hi⟩
 ·have hc:∀ i z,zs[i]?=some z->w.cell? ⟨g,i,none⟩=some z.v:=fun i z hi=>by
   have hil:=(List.getElem?_eq_some_iff.1 hi).1;rw[cell_of_row _ _ _ _ _ _ ‹_›]
   have h1:(zs.map PV.v)[i]?=some z.v:=by rw[List.getElem?_map,hi];rfl
   rw[<- htake,List.getElem?_take,if_pos (by omega),Array.getElem?_toList] at h1;exact h1
  exact⟨some ⟨g,0,none⟩,cap,hv,⟨fun _=>⟨g,0,rfl,fun i z hi=>by rw[Nat.zero_add];exact hc i z hi⟩⟩,fun i z hi=>⟨g,rfl,hc i z hi⟩⟩
theorem RS.new (w:World) (qs:List PV):RS (w.alloc (.cells (qs.map PV.v).toArray 23)) (some ⟨w.heap.size,0,none⟩) qs:=⟨fun _=>⟨w.heap.size,0,rfl,fun i p hi=>by
 have h:=(Bxs.new w 23 (qs.map PV.v)).cell (i:=i) (v:=p.v) (by rw[List.getElem?_map,hi];rfl);rw[Nat.zero_add]
 exact h⟩⟩
def One (w:World) (J:List Tm->List Tm->Prop) (e:Ending) (w':World):Prop :=
 ∃ (g c:Nat) (z:PV) (zq:List Tm) (r:PV) (R:List Tm),e=.returned (.tuple #[.slice (some ⟨g,0,none⟩) 1 c,r.v,.int .i64 0])/\w'.cell? ⟨g,0,none⟩=some z.v/\DP w' w.heap.size z zq/\DP w' w.heap.size r R/\J zq R/\Below w.heap.size w w'
structure ER (w:World) (lo:Nat) (v:Value) (L:List TE):Prop where
 row:OT w lo v (L.map Prod.fst)
 num:∀ e∈L,EF w lo e.1.c e.2
theorem ER.nil {w:World} {lo:Nat}:ER w lo (.slice none 0 0) []:=⟨World.ownsRow_nil _ _ _ _,fun _ h=>(by cases h)⟩
theorem ER.below {w w':World} {lo:Nat} {v:Value} {L:List TE} (h:ER w lo v L) (hb:Below w.heap.size w w'):ER w' lo v L:=⟨OT.below h.row hb,fun e he=>(h.num e he).below hb⟩
theorem ER.slice {w:World} {lo:Nat} {v:Value} {L:List TE} (h:ER w lo v L):∃ x:PV,v=x.v/\x.n=L.length:=by
 obtain⟨a,c,e,-,-⟩:=OT.slice h.row;exact⟨⟨a,L.length,c⟩,by rw[e,List.length_map],rfl⟩
theorem ER.alloc {w:World} {lo:Nat} {v:Value} {L:List TE} (h:ER w lo v L) (o:Obj):ER (w.alloc o) lo v L:=h.below (zk.alloc zj o)
theorem EF.alloc {w:World} {lo:Nat} {x:FV} {q:Rat} (h:EF w lo x q) (o:Obj):EF (w.alloc o) lo x q:=h.below (zk.alloc zj o)
theorem _root_.Go.RowKit.Below.ofAlloc {B:Nat} {w w':World} {o:Obj} (h:Below B (w.alloc o) w') (hb:B<=w.heap.size):Below B w w':=(zk.alloc hb o).trans h
def rowE (T:TypeId):Bool:=T==37 || T==128
theorem EF.rows {w w':World} {lo:Nat} {x:FV} {q:Rat} (h:EF w lo x q) (hs:∀ (b:Nat) (c:Array Value) (T:TypeId),w.heap[b]?=some (.cells c T (0,0))->rowE T=true->w'.heap[b]?=w.heap[b]?):EF w' lo x q:=h.kept fun b hb=>by
 rcases hb with hb | hb
 ·obtain⟨cur,h5⟩:=own_blkc h.t.own hb;exact hs b _ _ h5 rfl
 ·obtain⟨cur,h5⟩:=own_blkc h.l.own hb;exact hs b _ _ h5 rfl
theorem ER.rows {w w':World} {lo:Nat} {v:Value} {L:List TE} (h:ER w lo v L) (hs:∀ (b:Nat) (c:Array Value) (T:TypeId),w.heap[b]?=some (.cells c T (0,0))->rowE T=true->w'.heap[b]?=w.heap[b]?):ER w' lo v L:=by
 refine⟨⟨h.row.1,h.row.2.imp id ?_⟩,fun e he=>(h.num e he).rows hs⟩;rintro⟨g,cap,cur,hv,hlo,hgk,h3⟩;exact⟨g,cap,cur,hv,hlo,(hs g _ _ hgk rfl).trans hgk,h3⟩
structure NewT (w:World) (lo b:Nat) (m:Mo) (q:Rat):Prop where
 ex:∃ y:FV,Bxs w b 37 (TV.cells ⟨y,m⟩)/\EF w lo y q
theorem NewT.rows {w w':World} {lo b:Nat} {m:Mo} {q:Rat} (h:NewT w lo b m q) (hs:∀ (b:Nat) (c:Array Value) (T:TypeId),w.heap[b]?=some (.cells c T (0,0))->rowE T=true->w'.heap[b]?=w.heap[b]?):NewT w' lo b m q:=by
 obtain⟨y,h1,h2⟩:=h.ex;exact⟨y,(hs b _ _ h1 rfl).trans h1,h2.rows hs⟩
structure EP (w:World) (lo:Nat) (x:PV) (P:List Tm):Prop where
 ex:∃ L:List TE,ER w lo x.v L/\L.map tm=P
 canon:Canon P
 small:∀ t∈P,t.1.Small
theorem EP.k {w:World} {lo:Nat} {x:PV} {P:List Tm} (h:EP w lo x P):KP w x P:=by
 obtain⟨L,h1,h4⟩:=h.ex;obtain⟨a,c,e,hc,hr⟩:=OT.slice h1.row;obtain⟨xa,xn,xc⟩:=x;simp only[PV.v,Value.slice.injEq] at e;obtain⟨rfl,rfl,rfl⟩:=e;exact⟨⟨L,hr,(List.length_map ..).symm,fun e he=>(h1.num e he).k,h4⟩,hc,h.canon,h.small⟩
theorem EP.below {w w':World} {lo:Nat} {x:PV} {P:List Tm} (h:EP w lo x P) (hb:Below w.heap.size w w'):EP w' lo x P:=by
 obtain⟨L,h1,h4⟩:=h.ex;exact⟨⟨L,h1.below hb,h4⟩,h.canon,h.small⟩
theorem EP.rows {w w':World} {lo:Nat} {x:PV} {P:List Tm} (h:EP w lo x P) (hs:∀ (b:Nat) (c:Array Value) (T:TypeId),w.heap[b]?=some (.cells c T (0,0))->rowE T=true->w'.heap[b]?=w.heap[b]?):EP w' lo x P:=by
 obtain⟨L,h1,h2⟩:=h.ex;exact⟨⟨L,h1.rows hs,h2⟩,h.canon,h.small⟩
theorem EP.nil {w:World} {lo:Nat}:EP w lo ⟨none,0,0⟩ []:=⟨⟨[],ER.nil,rfl⟩,Canon.nil,fun _ h=>(by cases h)⟩
theorem dn_grown {w w':World} {lo lo':Nat} {x:NV} {z:Int} {v:Value} {ts:List TV} (h:DN w lo x z) (ho:OT w lo' v ts) (hg:w.grownBy w' v.ownBlock):DN w' lo x z:=by
 refine⟨h.s,h.n,⟨h.own.le,h.own.place.imp id fun ⟨g,cur,ha,hlo,hc,hr⟩=>⟨g,cur,ha,hlo,?_,hr⟩,h.own.rng⟩⟩;refine(hg.block g (lt_of_block hc) fun e=>?_).trans hc
 rcases ho.2 with ⟨hv,-⟩ | ⟨g2,cap,cur2,hv,-,hg2,-⟩
 ·rw[hv] at e;cases e
 ·rw[hv] at e;have e:some g=some g2:=e
  injection e with e
  subst e;rw[hc] at hg2
  cases hg2
theorem EF.grown {w w':World} {lo lo':Nat} {x:FV} {q:Rat} {v:Value} {ts:List TV} (h:EF w lo x q) (ho:OT w lo' v ts) (hg:w.grownBy w' v.ownBlock):EF w' lo x q:=⟨dn_grown h.t ho hg,dn_grown h.l ho hg⟩
theorem tv_one (t:TV):∀ u∈TV.cells t,u.oneCell'=true:=by
 intro u hu;simp only[TV.cells,List.mem_cons,List.mem_nil_iff,or_false] at hu
 rcases hu with rfl | rfl | rfl | rfl | rfl | rfl | rfl | rfl <;> rfl
theorem info8P:(Tryz.prog.info? 37).map (fun i=>(i.zero,i.size,i.bytes))=some (some (.agg #[.bool false,.slice none 0 0,.bool false,.slice none 0 0,.int .u16 0,.int .u16 0,.int .u16 0,.int .u16 0]),8,72):=by kernel_rfl
theorem KP.get {w:World} {a:Option Addr} {n c:Nat} {P:List Tm} (h:KP w ⟨a,n,c⟩ P) {i:Nat} (hi:i<n):∃ (t:TV) (q:Rat) (b o:Nat),a=some ⟨b,o,none⟩/\RE w b o i t/\KF w t.c q/\P[i]?=some (t.m,q):=by
 obtain⟨L,h1,h2,h3,h4⟩:=h.ex;have hl:L.length=n:=h2;obtain⟨e,he⟩:∃ e,L[i]?=some e:=⟨_,List.getElem?_eq_getElem (by rw[hl];exact hi)⟩;obtain⟨b,o,ha,hc⟩:=(show RT w a (L.map Prod.fst) from h1).one (fun h0=>by rw[List.map_eq_nil_iff.1 h0] at he;simp at he);exact⟨e.1,e.2,b,o,ha,hc i e.1 (by rw[List.getElem?_map,he];rfl),h3 e (List.mem_of_getElem? he),by rw[<- h4,List.getElem?_map,he];rfl⟩
structure Bt (W w:World):Prop where
 b:Below W.heap.size W w
theorem Bt.below {W w w':World} (h:Bt W w) (hb:Below w.heap.size w w'):Bt W w':=⟨h.b.trans (hb.mono h.b.size)⟩
theorem rfit_w {w:World} {x:PV} {P:List Tm} (h:AP w x P) (hq:∀ t∈P,LQ t.2 900000) (hn:x.n<=1000000000):∃ y:PV,KP w y P/\y.n<=x.n/\∀ W,Below w.heap.size w W->Calls Tryz.prog 36 #[x.v] W fun e w'=>e=.returned y.v/\Below W.heap.size W w':=by
 rcases h with h | ⟨h,rfl⟩
 ·exact⟨x,h,zj,fun W hb=>rfit_k (h.below hb) hq hn⟩
 ·exact⟨⟨none,0,0⟩,KP.nil _ _ _,Nat.zero_le _,fun W hb=>rfit_b (h.below hb) hn⟩
theorem put4_ef {w:World} {lo b:Nat} {x:FV} {q:Rat} {t:TypeId} {u0 u1 u2 u3:Value} (h:EF w lo x q) (hb:Bxs w b t [u0,u1,u2,u3]) (ht:128≠t) (v0 v1 v2 v3:Value):EF (put4 w b v0 v1 v2 v3) lo x q :=
 (((h.setBxs hb ht 0 v0).setBxs (hb.put 0 v0) ht 1 v1).setBxs ((hb.put 0 v0).put 1 v1) ht 2 v2).setBxs (((hb.put 0 v0).put 1 v1).put 2 v2) ht 3 v3
theorem rtwinV {w:World} {c:FV} {p:Rat} (h1:AF w c p) (b1:LF c 900000) (hq:LQ p 900000):Calls Tryz.prog 38 #[c.v] w (RKV w p):=by
 obtain⟨V,hV⟩:∃ V,V=(w.alloc (.cells #[.bool c.t.s,.slice c.t.a c.t.n c.t.c,.bool c.l.s,.slice c.l.a c.l.n c.l.c] 32)).alloc (.cells #[.bool false,.slice none 0 0,.bool false,.slice none 0 0] 32):=⟨_,rfl⟩
 have hbV:Below w.heap.size w V:=by rw[hV];exact(zk.alloc zj _).alloc (by go_size) _
 have B1:=qh (show Bxs V w.heap.size 32 [.bool c.t.s,.slice c.t.a c.t.n c.t.c,.bool c.l.s,.slice c.l.a c.l.n c.l.c] by rw[hV];exact(Bxs.new w 32 [.bool c.t.s,.slice c.t.a c.t.n c.t.c,.bool c.l.s,.slice c.l.a c.l.n c.l.c]).alloc _)
 have B2:=qh (show Bxs V (w.heap.size+1) 32 [.bool false,.slice none 0 0,.bool false,.slice none 0 0] by
  have h:=Bxs.new (w.alloc (.cells #[.bool c.t.s,.slice c.t.a c.t.n c.t.c,.bool c.l.s,.slice c.l.a c.l.n c.l.c] 32)) 32 [.bool false,.slice none 0 0,.bool false,.slice none 0 0];rw[World.size_alloc] at h
  rw[hV];exact h)
 have CN:=qh (show Calls Tryz.prog 108 #[.agg #[.bool c.t.s,.slice c.t.a c.t.n c.t.c,.bool c.l.s,.slice c.l.a c.l.n c.l.c]] V _ from rnegV (h1.below hbV) b1);have HQ:=qh (show LQ (-p) 900000 from⟨by rw[Rat.neg_num,Int.natAbs_neg];exact hq.t,by rw[Rat.neg_den];exact hq.l⟩);have KG:=qh hbV;have HV:=qh hV;obtain⟨A2,hA2⟩:∃ A,A=w.heap.size+1:=⟨_,rfl⟩;have HA2:=qh hA2;rw[<- hA2] at B2;clear hV hbV h1 b1 hq hA2;change Calls Tryz.prog 38 #[.agg #[.bool c.t.s,.slice c.t.a c.t.n c.t.c,.bool c.l.s,.slice c.l.a c.l.n c.l.c]] w _;go_enter Tryz.func38,Tryz.ntmps38;have c10:=B1.o.ce 0;have c11:=B1.o.ce 1;have c12:=B1.o.ce 2;have c13:=B1.o.ce 3
 go_upto_region 1 with (fail)
 rw[show(w.alloc (.cells #[.bool c.t.s,.slice c.t.a c.t.n c.t.c,.bool c.l.s,.slice c.l.a c.l.n c.l.c] 32)).alloc (.cells #[.bool false,.slice none 0 0,.bool false,.slice none 0 0] 32)=V from HV.o.symm,show w.heap.size+1=A2 from HA2.o.symm];go_wp2_with fail
 with_reducible refine CN.o.mono ?_
 rintro e w1 ⟨d,rfl,hd,hb⟩;have ND:=qh hd;have B2:=qh (B2.o.bl hb);have KG:=qk KG hb;have CN:=qh (show Calls Tryz.prog 108 #[.agg #[.bool d.t.s,.slice d.t.a d.t.n d.t.c,.bool d.l.s,.slice d.l.a d.l.n d.l.c]] w1 _ from rnegV ND.o.k.any (ND.o.k.len HQ.o zj));rw[Rat.neg_neg] at CN;clear hd hb c10 c11 c12 c13;go_wp2_with fail
 with_reducible refine CN.o.mono ?_
 rintro e w2 ⟨d2,rfl,hd,hb⟩;have ND:=qh hd;have B2:=qh (B2.o.bl hb);have KG2:=qh (KG.o.trans (hb.mono KG.o.size));have HSZ:=qh KG.o.size;clear hd hb CN;have c20:=B2.o.ce 0;have c21:=B2.o.ce 1;have c22:=B2.o.ce 2;have c23:=B2.o.ce 3;have c2f:=B2.o.fz;have c2l:=B2.o.lt;have HF:=qh (show EF (put4 w2 A2 (.bool d2.t.s) (.slice d2.t.a d2.t.n d2.t.c) (.bool d2.l.s) (.slice d2.l.a d2.l.n d2.l.c)) w.heap.size d2 p from put4_ef (ND.o.mono HSZ.o) B2.o (by decide) ..);go_wp2_with fail
 exact bodyPost_ret (results_cell rfl _ _ _ _ _ _ _ rfl (put4_bxs B2.o ..) Tryz.underlying32 rfl (by kernel_rfl)) rfl ⟨d2,rfl,HF.o,put4_below KG2.o (by rw[HA2.o];omega) ..⟩
theorem TwN.grown {w w':World} {lo lo':Nat} {t x:NV} {o:Nat->Int} {v:Value} {ts:List TV} (h:TwN w lo t x o) (ho:OT w lo' v ts) (hg:w.grownBy w' v.ownBlock):TwN w' lo t x o:=h.kept fun b ⟨p,hp,e⟩=>by
 obtain⟨cur,hc⟩:=own_blkc h.own ⟨p,hp,e⟩
 refine hg.block b (lt_of_block hc) fun e2=>?_
 rcases ho.2 with ⟨hv,-⟩ | ⟨g2,cap,cur2,hv,-,hg2,-⟩
 ·rw[hv] at e2;cases e2
 ·rw[hv] at e2;have e2:some b=some g2:=e2
  injection e2 with e2
  subst e2;rw[hc] at hg2
  cases hg2
theorem TwF.grown {w w':World} {lo lo':Nat} {t x:FV} {o1 o2:Nat->Int} {v:Value} {ts:List TV} (h:TwF w lo t x o1 o2) (ho:OT w lo' v ts) (hg:w.grownBy w' v.ownBlock):TwF w' lo t x o1 o2:=⟨h.top.grown ho hg,h.low.grown ho hg,h.ap⟩
def TwE (w0 w:World) (lo:Nat) (t u:TV):Prop:=t.m=u.m/\∃ o1 o2,Rd w0 u.c.t.a u.c.t.n o1/\Rd w0 u.c.l.a u.c.l.n o2/\TwF w lo t.c u.c o1 o2
theorem TwE.grown {w0 w w':World} {lo lo':Nat} {t u:TV} {v:Value} {ts:List TV} (h:TwE w0 w lo t u) (ho:OT w lo' v ts) (hg:w.grownBy w' v.ownBlock):TwE w0 w' lo t u:=by
 obtain⟨e,o1,o2,h1,h2,h3⟩:=h;exact⟨e,o1,o2,h1,h2,h3.grown ho hg⟩
theorem TwE.below {w0 w w':World} {lo:Nat} {t u:TV} (h:TwE w0 w lo t u) (hb:Below w.heap.size w w'):TwE w0 w' lo t u:=by
 obtain⟨e,o1,o2,h1,h2,h3⟩:=h;exact⟨e,o1,o2,h1,h2,h3.below hb⟩
theorem TwE.blks {w0 w:World} {lo:Nat} {t u:TV} (h:TwE w0 w lo t u):∀ b,FV.blk t.c b->lo<=b/\b<w.heap.size:=by
 obtain⟨e,o1,o2,h1,h2,h3⟩:=h;exact h3.blks
structure TwRow (w0 w:World) (lo:Nat) (v:Value) (ts us:List TV):Prop where
 row:OT w lo v ts
 len:ts.length=us.length
 each:∀ (i:Nat) (t u:TV),ts[i]?=some t->us[i]?=some u->TwE w0 w lo t u
 ap:ts.Pairwise fun t s=>FV.apart t.c s.c
theorem TwRow.below {w0 w w':World} {lo:Nat} {v:Value} {ts us:List TV} (h:TwRow w0 w lo v ts us) (hb:Below w.heap.size w w'):TwRow w0 w' lo v ts us:=⟨OT.below h.row hb,h.len,fun i t u h1 h2=>(h.each i t u h1 h2).below hb,h.ap⟩
def spareT:TV:=⟨⟨⟨false,none,0,0⟩,⟨false,none,0,0⟩⟩,⟨77,77,77,0⟩⟩
structure TwP (w0 w:World) (lo:Nat) (x:PV) (ts us:List TV):Prop where
 row:OT w lo (.slice x.a (x.n+1) x.c) (ts++[spareT])
 n:x.n=us.length
 len:ts.length=us.length
 each:∀ (i:Nat) (t u:TV),ts[i]?=some t->us[i]?=some u->TwE w0 w lo t u
 ap:ts.Pairwise fun t s=>FV.apart t.c s.c
theorem info8L:(Tryz.prog.info? 37).map (fun i=>(i.zero,i.size,i.bytes))=some (some (.agg #[.bool false,.slice none 0 0,.bool false,.slice none 0 0,.int .u16 0,.int .u16 0,.int .u16 0,.int .u16 0]),8,72):=by kernel_rfl
theorem wpList_pushR {ops:Array Oper} {rest:List Oper} {oo:Oper} {ac:Act} {Q:Exit->Act->World->Prop} (hgd:oo.guard=none) (s x:Operand)
  (ho:oo.op=.call { callee:=.builtin .append,args:=#[s,x],argTypes:=#[22,22] })
  {w:World} {lo:Nat} {v:Value} {ts:List TV} (hs:ac.eval s=v) (h:OT w lo v ts) (hn:ts.length<=1000000000) (hb:lo<=w.heap.size)
  {gs:Nat} {t:TV} {m c:Nat} (hx:ac.eval x=.slice (some ⟨gs,0,none⟩) m c) (hc:Bxs w gs 37 t.cells) (hm:m=1)
  (hK:∀ (a:Option Addr) (c':Nat) w',OT w' lo (.slice a (ts.length+1) c') (ts++[t])->ts.length+1<=c'->w.grownBy w' v.ownBlock->Below lo w w'->wpList Tryz.prog ops Q rest (ac.put oo.dst (.slice a (ts.length+1) c')) w'):wpList Tryz.prog ops Q (oo :: rest) ac w:=by
 subst hm;obtain⟨i0,hi,hz0,hz1,hz2⟩:=info_parts info8L;refine wpList_append_own _ hgd s x 22 ho lo 37 i0 _ 8 72 Tryz.underlying22 hi hz0 hz1 hz2 rfl (by decide) v _ _ hs h ⟨gs,0,none⟩ 1 c (TV.cells t) hx rfl (fun j u hj=>?_) (tv_one t) ?_ ?_ hb ?_
 ·rw[Addr.add_lit,Nat.zero_add];exact hc.cell hj
 ·unfold maxLen;omega
 ·omega
 ·intro v' w' hown hg _
  have e2:(ts++[t]).flatMap TV.cells=ts.flatMap TV.cells++TV.cells t:=by rw[List.flatMap_append,List.flatMap_cons,List.flatMap_nil,List.append_nil]
  have hr:OT w' lo v' (ts++[t]):=by
   show w'.ownsRow _ _ _ _ _ _;rw[e2,List.length_append];exact hown
  obtain⟨a,c',rfl,hc',-⟩:=OT.slice hr
  have hl:(ts++[t]).length=ts.length+1:=by rw[List.length_append];rfl
  rw[hl] at hr hc' ⊢;exact hK a c' w' hr hc' hg (zk.grown hg hb (fun g hg=>(World.ownsRow.lt h g hg).1))
theorem twinPoly_any (x:PV) (us:List TV) (w:World) (hr:RT w x.a us) (hn:us.length=x.n) (hx:x.n<=1000000) (hrd:∀ u∈us,∃ o1 o2,Rd w u.c.t.a u.c.t.n o1/\Rd w u.c.l.a u.c.l.n o2/\u.c.t.n<=100000000/\u.c.l.n<=100000000) :
  Calls Tryz.prog 7 #[x.v] w fun e w'=>∃ (y:PV) (ts:List TV),e=.returned y.v/\y.n=x.n/\TwP w w' w.heap.size y ts us/\Below w.heap.size w w':=by
 obtain⟨xa,xn,xc⟩:=x;have HR:=qh (show RT w xa us from hr);have HN:=qh (show us.length=xn from hn);have HX:=qh (show xn<=1000000 from hx);have HRD:=qh hrd;clear hr hn hx hrd;change Calls Tryz.prog 7 #[.slice xa xn xc] w _;obtain⟨i0,hi,hz0,hz1,hz2⟩:=info_parts info8L;have e1:=IntWalk.i64_in ((xn:Int)+1) (by have:=HX.o;omega);obtain⟨MC,hMC⟩:∃ c,c=madeCells (Value.agg #[.bool false,.slice none 0 0,.bool false,.slice none 0 0,.int .u16 0,.int .u16 0,.int .u16 0,.int .u16 0]).cells ((xn+1)*8):=⟨_,rfl⟩
 have hmk:∀ w:World,(Instr.makeSlice 22 (.int .i64 0) (.int .i64 ((xn:Int)+1))).run Tryz.prog w=.ok (.slice (some ⟨w.heap.size,0,none⟩) 0 (xn+1)) (w.alloc (.cells MC 37)):=by
  intro w;have h:=run_make (P:=Tryz.prog) w 22 37 i0 _ Tryz.underlying22 hi hz0 .i64 .i64 0 ((xn:Int)+1) (by omega) (by omega) (by rw[hz2];have:=HX.o;omega) (by have:=HX.o;omega);rw[hz1,show((xn:Int)+1).toNat=xn+1 by omega,<- hMC] at h;exact h
 have hms:MC.size=(xn+1)*8:=by rw[hMC];simp[madeCells]
 have HMS:=qh hms;clear hMC hms hz0 hz1 hz2 hi;go_enter Tryz.func7,Tryz.ntmps7
 go_upto_region 2 with (fail)
 obtain⟨V,hV⟩:∃ X,X=w.alloc (.cells MC 37):=⟨_,rfl⟩
 have hbV:Below w.heap.size w V:=by rw[hV];exact zk.alloc zj _
 have HO:=qh (show OT V w.heap.size (.slice (some ⟨w.heap.size,0,none⟩) 0 (xn+1)) [] by
  rw[hV];show World.ownsRow _ _ _ _ _ _ _
  exact⟨rfl,.inr ⟨w.heap.size,xn+1,MC,rfl,zj,heap_alloc_new w _,Nat.zero_le _,by have:=HX.o;unfold maxLen;omega,HMS.o,rfl⟩⟩)
 have KG:=qh hbV;rw[<- hV];clear hV hbV hmk;go_wp2_with fail
 go_loopw [3,4] (fun v i wr=>∃ (k:Nat) (ts:List TV) (a:Option Addr) (c:Nat),k<=xn/\i=.int .i64 k/\v=.slice a k c/\TwRow w wr w.heap.size v ts (us.take k)/\Below w.heap.size w wr) (fun _ i _=>xn-(intOf i).toNat)
 case atStart=>exact⟨0,[],_,_,Nat.zero_le _,rfl,rfl,⟨HO.o,rfl,fun i t u h=>by simp at h,List.Pairwise.nil⟩,KG.o⟩
 case round =>
  obtain⟨k,ts,a,c,hk,rfl,rfl,hR,hb0⟩:=hrel;have HKN:=qh hk;have TR:=qh hR;have KG:=qh hb0
  have htl:ts.length=k:=by rw[hR.len,List.length_take,HN.o];omega
  have HTL:=qh htl;clear hk hR hb0 htl HO;by_cases hkl:k<xn
  ·have HKL:=qh hkl
   have hlt:(k:Int)<(xn:Int):=by omega
   obtain⟨u,hu⟩:∃ u,us[k]?=some u:=⟨_,List.getElem?_eq_getElem (by rw[HN.o];exact hkl)⟩;have HU:=qh hu;obtain⟨pb,po,rfl,hre⟩:=HR.o.one (fun e=>by rw[e] at hu;simp at hu);obtain⟨o1,o2,r1,r2,g1,g2⟩:=HRD.o u (List.mem_of_getElem? hu);have E1:=qh ((hre k u hu).below KG.o);have CT:=qh (show Calls Tryz.prog 29 #[.agg #[.bool u.c.t.s,.slice u.c.t.a u.c.t.n u.c.t.c,.bool u.c.l.s,.slice u.c.l.a u.c.l.n u.c.l.c,.int .u16 u.m.x,.int .u16 u.m.y,.int .u16 u.m.z,.int .u16 u.m.t]] wr _ from twinTerm_any u o1 o2 wr (r1.below KG.o) g1 (r2.below KG.o) g2);have R1:=qh r1;have R2:=qh r2;have ek:IntKind.i64.wrap ((k:Int)+1)=(k:Int)+1:=IntWalk.i64_in _ (by have:=HKL.o;have:=HX.o;omega);obtain⟨c0,c1,c2,c3,c4,c5,c6,c7⟩:=E1.o.eight;clear hkl hu hre r1 r2 g1 g2;go_wp2_with fail
   with_reducible refine CT.o.mono ?_
   rintro e w1 ⟨y,rfl,hy,hb⟩;have HSZ:=qh KG.o.size;have HY:=qh hy
   have HBK:=qh (show ∀ t∈ts,∀ b,FV.blk t.c b->b<wr.heap.size from fun t ht b hbk=>by
    obtain⟨i,hi⟩:=List.mem_iff_getElem?.1 ht;have hil:=(List.getElem?_eq_some_iff.1 hi).1;obtain⟨u2,hu2⟩:∃ u2,(us.take k)[i]?=some u2:=⟨_,List.getElem?_eq_getElem (by rw[<- TR.o.len];exact hil)⟩
    exact((TR.o.each i t u2 hi hu2).blks b hbk).2)
   have TR:=qh (TR.o.below hb);have KG:=qk KG hb;clear hy hb CT c0 c1 c2 c3 c4 c5 c6 c7;go_wp2_with (first | (at_builtin;refine wpList_pushR (t:=⟨y,u.m⟩) rfl _ _ rfl rfl (OT.below TR.o.row (zk.alloc zj _)) (by rw[HTL.o];have:=HKL.o;have:=HX.o;omega) (by have h9:=KG.o.size;rw[World.size_alloc];omega) rfl (Bxs.new _ _ _) rfl ?_))
   intro a9 c9 w9 hot hle hg hb9;have hal:Below w1.heap.size w1 (w1.alloc (.cells #[.bool y.t.s,.slice y.t.a y.t.n y.t.c,.bool y.l.s,.slice y.l.a y.l.n y.l.c,.int .u16 u.m.x,.int .u16 u.m.y,.int .u16 u.m.z,.int .u16 u.m.t] 37)):=zk.alloc zj _;have HOA:=OT.below TR.o.row hal
   have TR2:=qh (show TwRow w w9 w.heap.size (.slice a9 (k+1) c9) (ts++[⟨y,u.m⟩]) (us.take (k+1)) by
    refine⟨by rw[HTL.o] at hot;exact hot,?_,fun i t v h1 h2=>?_,?_⟩
    ·rw[List.length_append,HTL.o,List.length_take,HN.o];have:=HKL.o;simp;omega
    ·by_cases hi:i<k
     ·rw[List.getElem?_append_left (by rw[HTL.o];exact hi)] at h1;rw[List.getElem?_take,if_pos (by omega)] at h2;exact((TR.o.each i t v h1 (by rw[List.getElem?_take,if_pos hi];exact h2)).below hal).grown HOA hg
     ·have hil:=(List.getElem?_eq_some_iff.1 h1).1;rw[List.length_append,HTL.o] at hil
      obtain rfl:i=k:=by simp at hil;omega
      rw[List.getElem?_append_right (by rw[HTL.o];exact zj),HTL.o,Nat.sub_self] at h1;obtain rfl:(⟨y,u.m⟩:TV)=t:=Option.some.inj h1;rw[List.getElem?_take,if_pos (by omega),HU.o] at h2;obtain rfl:=Option.some.inj h2;exact TwE.grown (TwE.below ⟨rfl,o1,o2,R1.o,R2.o,HY.o.mono HSZ.o⟩ hal) HOA hg
    ·refine List.pairwise_append.2 ⟨TR.o.ap,List.pairwise_singleton _ _,fun t ht s hs=>?_⟩;rw[List.mem_singleton.1 hs];intro b h1 h2;have:=HBK.o t ht b h1;have:=(HY.o.blks b h2).1
     omega)
   have KG9:=qh (KG.o.trans (hb9.ofAlloc KG.o.size));have HLC:=qh HTL.o;rw[HLC.o];clear hot hle hg hb9 hal HOA;go_wp2_with fail
   go_roundw
   case rel=>exact⟨k+1,_,a9,c9,HKL.o,rfl,rfl,TR2.o,KG9.o⟩
   case measure=>simp[intOf];have:=HKL.o;omega
  ·have hge:¬((k:Int)<(xn:Int)):=by omega
   obtain rfl:k=xn:=by have:=HKN.o;omega
   clear hkl
   have TR:=qh (show TwRow w wr w.heap.size (.slice a k c) ts us by
    have h:=TR.o
    rwa [List.take_of_length_le (by rw[HN.o];exact zj)] at h)
   go_wp2_with (first | (at_builtin;refine wpList_pushR (t:=spareT) rfl _ _ rfl rfl (OT.below TR.o.row (zk.alloc zj _)) (by rw[HTL.o];have:=HX.o;omega) (by have h9:=KG.o.size;rw[World.size_alloc];omega) rfl (Bxs.new _ _ _) rfl ?_))
   intro a9 c9 w9 hot hle hg hb9;have hal:Below wr.heap.size wr (wr.alloc (.cells (TV.cells spareT).toArray 37)):=zk.alloc zj _;have HOA:=OT.below TR.o.row hal;rw[HTL.o] at hot hle ⊢;have TP:=qh (show TwP w w9 w.heap.size ⟨a9,k,c9⟩ ts us from⟨hot,HN.o.symm,TR.o.len,fun i t v h1 h2=>((TR.o.each i t v h1 h2).below hal).grown HOA hg,TR.o.ap⟩);have KG9:=qh (KG.o.trans (hb9.ofAlloc KG.o.size))
   have hl1:(k:Int)<=(c9:Int):=by omega
   have hl2:k<=c9:=by omega
   clear hot hle hg hb9 hal HOA;go_wp2_with fail
   go_ret;exact⟨⟨a9,k,c9⟩,ts,rfl,rfl,TP.o,KG9.o⟩
theorem KP.at_ {w:World} {b o n c:Nat} {P:List Tm} (h:KP w ⟨some ⟨b,o,none⟩,n,c⟩ P) {i:Nat} (hi:i<n):∃ (t:TV) (q:Rat),RE w b o i t/\KF w t.c q/\P[i]?=some (t.m,q):=by
 obtain⟨t,q,b',o',e,h1,h3,h2⟩:=h.get hi
 obtain⟨rfl,rfl⟩:b=b'/\o=o':=by injection e with e;injection e with e1 e2;exact⟨e1,e2⟩
 exact⟨t,q,h1,h3,h2⟩
theorem put8_ef {w:World} {lo b:Nat} {x:FV} {q:Rat} {t:TypeId} {l:List Value} (h:EF w lo x q) (hb:Bxs w b t l) (ht:128≠t) (v0 v1 v2 v3 v4 v5 v6 v7:Value):EF (put8 w b v0 v1 v2 v3 v4 v5 v6 v7) lo x q :=
 (((((((h.setBxs hb ht 0 v0).setBxs (hb.put 0 v0) ht 1 v1).setBxs ((hb.put 0 v0).put 1 v1) ht 2 v2).setBxs (((hb.put 0 v0).put 1 v1).put 2 v2) ht 3 v3).setBxs ((((hb.put 0 v0).put 1 v1).put 2 v2).put 3 v3) ht 4 v4).setBxs (((((hb.put 0 v0).put 1 v1).put 2 v2).put 3 v3).put 4 v4) ht 5 v5).setBxs ((((((hb.put 0 v0).put 1 v1).put 2 v2).put 3 v3).put 4 v4).put 5 v5) ht 6 v6).setBxs (((((((hb.put 0 v0).put 1 v1).put 2 v2).put 3 v3).put 4 v4).put 5 v5).put 6 v6) ht 7 v7
theorem rlead_any (o:Int) (x:PV) (P:List Tm) (w:World) (hx:AP w x P) (hq:∀ t∈P,LQ t.2 900000) (hn:x.n<=1000000) (hne:P≠[]) :
  Calls Tryz.prog 9 #[.int .u8 o,x.v] w fun e w'=>∃ (y:FV) (t:Tm),e=.returned (.tuple #[TV.v ⟨y,t.1⟩,.bool true])/\EF w' w.heap.size y t.2/\Lead (keyO o) P t/\Below w.heap.size w w':=by
 obtain⟨⟨za,zn,zc⟩,hz,hzn,hct⟩:=rfit_w hx hq (by omega);obtain⟨V,hV⟩:∃ V,V=w.alloc (.cells #[.bool false,.slice none 0 0,.bool false,.slice none 0 0,.int .u16 0,.int .u16 0,.int .u16 0,.int .u16 0] 37):=⟨_,rfl⟩
 have hbV:Below w.heap.size w V:=by rw[hV];exact zk.alloc zj _
 have B4:=qh (show Bxs V w.heap.size 37 [.bool false,.slice none 0 0,.bool false,.slice none 0 0,.int .u16 0,.int .u16 0,.int .u16 0,.int .u16 0] by rw[hV];exact Bxs.new w 37 [.bool false,.slice none 0 0,.bool false,.slice none 0 0,.int .u16 0,.int .u16 0,.int .u16 0,.int .u16 0]);have CT:=qh (hct V hbV);have FZ:=qh hz;have HQ:=qh hq;have HN:=qh (show zn<=1000000 from zm hzn hn);have HL:=qh (show zn=P.length from hz.len);have HNE:=qh hne;have KG:=qh hbV;have HV:=qh hV;obtain⟨xa,xn,xc⟩:=x;clear hx hq hn hne hz hzn hct hbV hV;change Calls Tryz.prog 9 #[.int .u8 o,.slice xa xn xc] w _;go_enter Tryz.func9,Tryz.ntmps9
 go_upto_region 1 with (fail)
 rw[show w.alloc (.cells #[.bool false,.slice none 0 0,.bool false,.slice none 0 0,.int .u16 0,.int .u16 0,.int .u16 0,.int .u16 0] 37)=V from HV.o.symm];go_wp2_with fail
 with_reducible refine CT.o.mono ?_
 rintro e w1 ⟨he,hb⟩;obtain rfl:e=.returned (.slice za zn zc):=he;have B4:=qh (B4.o.bl hb);have KG:=qk KG hb;have HPOS:=qh (show 0<zn by rw[HL.o];exact List.length_pos_iff.2 HNE.o);obtain⟨t0,q0,pb,po,rfl,hre,hnf,htp⟩:=FZ.o.get HPOS.o;have E0:=qh (hre.below KG.o);have HT0:=qh htp;have HK0:=qh hnf
 have h0:¬((zn:Int)=0):=by have:=HPOS.o;omega
 have HP0:(0:Int)<(zn:Int):=by have:=HPOS.o;omega
 clear hb CT hre hnf htp;obtain⟨c0,c1,c2,c3,c4,c5,c6,c7⟩:=E0.o.eight;simp only[Nat.zero_mul,Nat.add_zero] at c0 c1 c2 c3 c4 c5 c6 c7
 go_upto_region 5 with (fail)
 obtain⟨U,hU⟩:∃ U,U=w1.alloc (.cells #[.bool t0.c.t.s,.slice t0.c.t.a t0.c.t.n t0.c.t.c,.bool t0.c.l.s,.slice t0.c.l.a t0.c.l.n t0.c.l.c,.int .u16 t0.m.x,.int .u16 t0.m.y,.int .u16 t0.m.z,.int .u16 t0.m.t] 37):=⟨_,rfl⟩
 have hbU:Below w1.heap.size w1 U:=by rw[hU];exact zk.alloc zj _
 have B6:=qh (show Bxs U w1.heap.size 37 [.bool t0.c.t.s,.slice t0.c.t.a t0.c.t.n t0.c.t.c,.bool t0.c.l.s,.slice t0.c.l.a t0.c.l.n t0.c.l.c,.int .u16 t0.m.x,.int .u16 t0.m.y,.int .u16 t0.m.z,.int .u16 t0.m.t] by rw[hU];exact Bxs.new w1 37 [.bool t0.c.t.s,.slice t0.c.t.a t0.c.t.n t0.c.t.c,.bool t0.c.l.s,.slice t0.c.l.a t0.c.l.n t0.c.l.c,.int .u16 t0.m.x,.int .u16 t0.m.y,.int .u16 t0.m.z,.int .u16 t0.m.t]);obtain⟨A2,hA2⟩:∃ A,A=w1.heap.size:=⟨_,rfl⟩;have HA2:=qh (show w.heap.size<=A2 by rw[hA2];exact KG.o.size);have HAN:=qh (show w.heap.size≠A2 by have:=B4.o.lt;omega);have B4:=qh (B4.o.bl hbU);have KG:=qk KG hbU;rw[<- hU,<- hA2];rw[<- hA2] at B6;clear hU hbU hA2 c0 c1 c2 c3 c4 c5 c6 c7 h0 HP0 E0;go_wp2_with fail
 go_loopw [7] (fun i wr=>∃ (j:Nat) (t:TV) (k:Nat) (q:Rat),1<=j/\j<=zn/\i=.int .i64 j/\k<zn/\KF w t.c q/\P[k]?=some (t.m,q)/\(∀ (i:Nat) (u:Tm),P[i]?=some u->i<j->keyO o u.1<=keyO o t.m)/\Bxs wr A2 37 [.bool t.c.t.s,.slice t.c.t.a t.c.t.n t.c.t.c,.bool t.c.l.s,.slice t.c.l.a t.c.l.n t.c.l.c,.int .u16 t.m.x,.int .u16 t.m.y,.int .u16 t.m.z,.int .u16 t.m.t]/\Bxs wr w.heap.size 37 [.bool false,.slice none 0 0,.bool false,.slice none 0 0,.int .u16 0,.int .u16 0,.int .u16 0,.int .u16 0]/\Below w.heap.size w wr) (fun i _=>zn-(intOf i).toNat)
 case atStart =>
  refine⟨1,t0,0,q0,zj,HPOS.o,rfl,HPOS.o,HK0.o,HT0.o,fun i u h1 h2=>?_,B6.o,B4.o,KG.o⟩
  obtain rfl:i=0:=by omega
  rw[HT0.o] at h1;obtain rfl:=Option.some.inj h1;exact Int.le_refl _
 case round =>
  obtain⟨j,t,k,q,hj1,hj,rfl,hkn,hkf,hpk,hmax,hB6,hB4,hb0⟩:=hrel;have HJ1:=qh hj1;have HJ:=qh hj;have HKN:=qh hkn;have HKF:=qh hkf;have HPK:=qh hpk;have HMX:=qh hmax;have B6:=qh hB6;have B4:=qh hB4;have KG:=qh hb0;clear hj1 hj hkn hkf hpk hmax hB6 hB4 hb0;have HST:=qh (show t.m.Small from FZ.o.small _ (List.mem_of_getElem? HPK.o));by_cases hjn:j<zn
  ·have HJN:=qh hjn
   have hjn2:(j:Int)<(zn:Int):=by omega
   obtain⟨u,uq,hre,hku,hup⟩:=FZ.o.at_ hjn;have HKU:=qh hku;have HU:=qh hup;have HRE:=qh hre;have E1:=qh (hre.below KG.o);have HSU:=qh (show u.m.Small from FZ.o.small _ (List.mem_of_getElem? hup));obtain⟨cv,hcv⟩:∃ c,c=Mono.cmpZ (keyO o u.m) (keyO o t.m):=⟨_,rfl⟩;have HCV:=qh hcv;have ek:IntKind.i64.wrap ((j:Int)+1)=(j:Int)+1:=IntWalk.i64_in _ (by have:=HJN.o;have:=HN.o;omega);clear hup hcv hre hku hjn
   go_upto_region 8 with (fail)
   refine FS.wp_region_fresh 9 [] (FS.spOf [(8,FS.Sp.know (.int .i64 cv))])
    (fun w'=>Below wr.heap.size wr w') (by kernel_rfl) (by kernel_rfl) (by kernel_rfl)
    (FS.spOf_cons (FS.Sp.know_keeps _ _) (FS.spOf_nil)) (fun _ _ h hb=>h.trans (hb.mono h.size)) (zk.drew) ?_
   simp only[zu,zi,ze,zx,zy,zv,zw]
   iterate 8
    refine FS.wpF_reads rfl rfl rfl ?_ (fun w' hw'=>?_) ?_;rotate_left
    ·have hb':=hw'.world;obtain⟨hs0,hs1,hs2,hs3,hs4,hs5,hs6,hs7⟩:=(E1.o.below hb').eight;have hs0:=(B6.o.bl hb').ce 0;have hs1:=(B6.o.bl hb').ce 1;have hs2:=(B6.o.bl hb').ce 2;have hs3:=(B6.o.bl hb').ce 3;have hs4:=(B6.o.bl hb').ce 4;have hs5:=(B6.o.bl hb').ce 5;have hs6:=(B6.o.bl hb').ce 6;have hs7:=(B6.o.bl hb').ce 7;have hsf:=(B6.o.bl hb').fz;have hsl:=(B6.o.bl hb').lt;clear hw';go_simp
     try rfl
    conv=>arg 10;simp only[Act.put,zq0,zq1,zq2]
   refine FS.wpF_spec rfl rfl rfl (fun w' hw'=>?_) ?_
   ·have hb':=hw'.world;refine FS.gives_of (FS.PK (.int .i64 cv)) ?_ (fun _ _ h=>h.post);go_simp;have CT:=(show Calls Tryz.prog 37 #[.int .u8 o,.agg #[.int .u16 u.m.x,.int .u16 u.m.y,.int .u16 u.m.z,.int .u16 u.m.t],.agg #[.int .u16 t.m.x,.int .u16 t.m.y,.int .u16 t.m.z,.int .u16 t.m.t]] w' _ from rcmpV o u.m t.m w' HSU.o HST.o);rw[show Mono.cmpZ (keyO o u.m) (keyO o t.m)=cv from HCV.o.symm] at CT;refine CT.mono ?_;rintro e w'' ⟨rfl,hb⟩;exact⟨_,rfl,rfl,hb⟩
   rintro _ rfl
   conv=>arg 10;simp only[Act.put,zq0,zq1,zq2]
   refine FS.wpF_nil (fun w101 hb hF=>?_);clear hF;have B6:=qh (B6.o.bl hb);have B4:=qh (B4.o.bl hb);have KG:=qk KG hb;clear hb;by_cases hcp:cv>0
   ·have hcq:0<cv:=hcp;have HCP:=qh hcp;have E1:=qh (HRE.o.below KG.o);obtain⟨c0,c1,c2,c3,c4,c5,c6,c7⟩:=E1.o.eight;have cf:=B6.o.fz;have cl:=B6.o.lt;have c50:=B6.o.ce 0;have c51:=B6.o.ce 1;have c52:=B6.o.ce 2;have c53:=B6.o.ce 3;have c54:=B6.o.ce 4;have c55:=B6.o.ce 5;have c56:=B6.o.ce 6;have c57:=B6.o.ce 7;go_wp2_with fail
    go_roundw
    case rel =>
     refine⟨j+1,u,j,uq,by omega,by have:=HJN.o;omega,rfl,HJN.o,HKU.o,HU.o,fun i v h1 h2=>?_,put8_bxs B6.o ..,?_,put8_below KG.o HA2.o ..⟩
     ·have h3:keyO o t.m<keyO o u.m:=cmpZ_dec.1 (by rw[<- HCV.o];exact HCP.o);by_cases h4:i<j
      ·have:=HMX.o i v h1 h4;omega
      ·obtain rfl:i=j:=by omega
       rw[HU.o] at h1;obtain rfl:=Option.some.inj h1;exact Int.le_refl _
     ·exact((((((((B4.o.other HAN.o _).other HAN.o _).other HAN.o _).other HAN.o _).other HAN.o _).other HAN.o _).other HAN.o _).other HAN.o _)
    case measure=>simp[intOf];have:=HJN.o;omega
   ·have hcq:¬(0<cv):=hcp;have HCP:=qh hcp;go_wp2_with fail
    go_roundw
    case rel =>
     refine⟨j+1,t,k,q,by omega,by have:=HJN.o;omega,rfl,HKN.o,HKF.o,HPK.o,fun i v h1 h2=>?_,B6.o,B4.o,KG.o⟩;by_cases h4:i<j
     ·exact HMX.o i v h1 h4
     ·obtain rfl:i=j:=by omega
      rw[HU.o] at h1;obtain rfl:=Option.some.inj h1
      have h3:¬(keyO o t.m<keyO o u.m):=fun h=>HCP.o (by rw[HCV.o];exact cmpZ_dec.2 h)
      show keyO o u.m<=_;omega
    case measure=>simp[intOf];have:=HJN.o;omega
  ·have hge:¬((j:Int)<(zn:Int)):=by omega
   have hmem:=List.mem_of_getElem? HPK.o
   have HLD:=qh (show Lead (keyO o) P (t.m,q) from⟨hmem,fun v hv=>by
    obtain⟨i,h⟩:=List.mem_iff_getElem?.1 hv
    exact HMX.o i v h (by have h8:=(List.getElem?_eq_some_iff.1 h).1;have h5:=HL.o;have h9:=HJ.o;omega)⟩)
   have NT:=qh (HKF.o.below KG.o);have HQT:=qh (show LQ q 900000 from HQ.o _ hmem);have HLT:=qh (show LF t.c 900000 from NT.o.len HQT.o zj);have HSZ:=qh KG.o.size;clear hjn hmem
   go_upto_region 10 with (fail)
   go_upto_region 10 with (fail)
   refine FS.wp_region_fresh 6 [] (FS.spOf [(2,FS.Sp.made (fun x:FV=>x.v) (fun x w'=>EF w' wr.heap.size x q) FV.blk)])
    (fun w'=>Below wr.heap.size wr w') (by kernel_rfl) (by kernel_rfl) (by kernel_rfl)
    (FS.spOf_cons (FS.Sp.made_keeps _ (fun _ _ _ h _ hk=>h.kept hk) (FS.notTaken (by kernel_rfl))) (FS.spOf_nil)) (fun _ _ h hb=>h.trans (hb.mono h.size)) (zk.drew) ?_
   simp only[zu,zi,ze,zx,zy,zv,zw]
   iterate 2
    refine FS.wpF_reads rfl rfl rfl ?_ (fun w' hw'=>?_) ?_;rotate_left
    ·have hb':=hw'.world;have hs0:=(B6.o.bl hb').ce 0;have hs1:=(B6.o.bl hb').ce 1;have hs2:=(B6.o.bl hb').ce 2;have hs3:=(B6.o.bl hb').ce 3;have hs4:=(B6.o.bl hb').ce 4;have hs5:=(B6.o.bl hb').ce 5;have hs6:=(B6.o.bl hb').ce 6;have hs7:=(B6.o.bl hb').ce 7;have hsf:=(B6.o.bl hb').fz;have hsl:=(B6.o.bl hb').lt;clear hw';go_simp
     try rfl
    conv=>arg 10;simp only[Act.put,zq0,zq1,zq2]
   refine FS.wpF_spec rfl rfl rfl (fun w' hw'=>?_) ?_
   ·have hb':=hw'.world;refine FS.gives_of (FS.PM (fun x:FV=>x.v) (fun x w'=>EF w' wr.heap.size x q) FV.blk w'.heap.size) ?_ (fun _ _ h=>h.post (fun _ _=>FV.inj));go_simp;have CT:=(show Calls Tryz.prog 38 #[.agg #[.bool t.c.t.s,.slice t.c.t.a t.c.t.n t.c.t.c,.bool t.c.l.s,.slice t.c.l.a t.c.l.n t.c.l.c]] w' _ from rtwinV (c:=t.c) (NT.o.below hb').any HLT.o HQT.o);refine CT.mono ?_;rintro e w'' ⟨za,rfl,ho,hb⟩;exact⟨_,rfl,⟨za,rfl,ho.mono hb'.size,ho.blks⟩,hb⟩
   rintro _ ⟨y2,rfl⟩
   conv=>arg 10;simp only[Act.put,zq0,zq1,zq2]
   iterate 3
    refine FS.wpF_reads rfl rfl rfl ?_ (fun w' hw'=>?_) ?_;rotate_left
    ·have hb':=hw'.world;have hs0:=(B6.o.bl hb').ce 0;have hs1:=(B6.o.bl hb').ce 1;have hs2:=(B6.o.bl hb').ce 2;have hs3:=(B6.o.bl hb').ce 3;have hs4:=(B6.o.bl hb').ce 4;have hs5:=(B6.o.bl hb').ce 5;have hs6:=(B6.o.bl hb').ce 6;have hs7:=(B6.o.bl hb').ce 7;have hsf:=(B6.o.bl hb').fz;have hsl:=(B6.o.bl hb').lt;clear hw';go_simp
     try rfl
    conv=>arg 10;simp only[Act.put,zq0,zq1,zq2]
   refine FS.wpF_nil (fun w101 hb hF=>?_);have N102:=qh (show EF w101 wr.heap.size y2 q from(FS.made_of (val:=(fun x:FV=>x.v)) (Φ:=fun x w'=>EF w' wr.heap.size x q) (fun _ _=>FV.inj) (hF.all 2)));clear hF;have NT:=qh (NT.o.below hb);have B6:=qh (B6.o.bl hb);have B4:=qh (B4.o.bl hb);have KG:=qk KG hb;clear hb;have HD:=qh (show EF (put8 w101 w.heap.size (.bool y2.t.s) (.slice y2.t.a y2.t.n y2.t.c) (.bool y2.l.s) (.slice y2.l.a y2.l.n y2.l.c) (.int .u16 t.m.x) (.int .u16 t.m.y) (.int .u16 t.m.z) (.int .u16 t.m.t)) w.heap.size y2 q from put8_ef (N102.o.mono HSZ.o) B4.o (by decide) ..);have HB:=qh (show Below w.heap.size w (put8 w101 w.heap.size (.bool y2.t.s) (.slice y2.t.a y2.t.n y2.t.c) (.bool y2.l.s) (.slice y2.l.a y2.l.n y2.l.c) (.int .u16 t.m.x) (.int .u16 t.m.y) (.int .u16 t.m.z) (.int .u16 t.m.t)) from put8_below KG.o zj ..);have c40:=B4.o.ce 0;have c41:=B4.o.ce 1;have c42:=B4.o.ce 2;have c43:=B4.o.ce 3;have c44:=B4.o.ce 4;have c45:=B4.o.ce 5;have c46:=B4.o.ce 6;have c47:=B4.o.ce 7;have c4f:=B4.o.fz;have c4l:=B4.o.lt;go_wp2_with fail
   exact bodyPost_ret (results_ct rfl _ _ _ _ _ _ _ rfl (put8_bxs B4.o ..) Tryz.underlying37 rfl (by kernel_rfl)) rfl ⟨y2,t.m,rfl,q,HD.o,HLD.o,HB.o⟩
theorem KP.cons {w:World} {a:Option Addr} {n c:Nat} {P:List Tm} (h:KP w ⟨a,n,c⟩ P) (hn:0<n):∃ (t:TV) (q:Rat) (b o:Nat) (P2:List Tm),a=some ⟨b,o,none⟩/\P=(t.m,q) :: P2/\RE w b o 0 t/\KF w t.c q/\KP w ⟨if c=1 then some ⟨b,o,none⟩ else some ⟨b,o+8,none⟩,n-1,c-1⟩ P2:=by
 obtain⟨L,h1,h2,h3,h4⟩:=h.ex;have h2:L.length=n:=h2
 match L,h1,h2,h3,h4 with
 | [],_,h2,_,_=>simp at h2;omega
 | e :: r,h1,h2,h3,h4 =>
  obtain⟨b,o,ha,hc⟩:=(show RT w a ((e :: r).map Prod.fst) from h1).ex (by simp);have hle:n<=c:=h.le;have hcn:Canon P:=h.canon;have hsm:=h.small;rw[<- h4] at hcn hsm;have hlen:(e :: r).length=n:=h2;rw[List.length_cons] at hlen;refine⟨e.1,e.2,b,o,r.map tm,ha,h4.symm,⟨block_lt_of_cell (hc 0 e.1 rfl 0 _ rfl),fun j v hj=>hc 0 e.1 rfl j v hj⟩,h3 e (List.mem_cons_self ..),⟨r,⟨fun hn0=>⟨b,o+8,?_,fun i t hi j v hj=>?_⟩⟩,?_,fun f hf=>h3 f (List.mem_cons_of_mem _ hf),rfl⟩,?_,hcn.tail,fun t ht=>hsm t (List.mem_cons_of_mem _ ht)⟩
  ·refine if_neg fun hc1=>hn0 ?_
   have:r.length=0:=by omega
   rw[List.length_eq_zero_iff.1 this];rfl
  ·have h5:=hc (i+1) t (by simpa using hi) j v hj;rw[show o+(i+1)*8+j=o+8+i*8+j by omega] at h5;exact h5
  ·show r.length=n-1;omega
  ·show n-1<=c-1;omega
theorem TwN.at_ {w:World} {lo:Nat} {t x:NV} {o:Nat->Int} (h:TwN w lo t x o):∃ g,t=⟨x.s,some ⟨g,0,none⟩,x.n,x.n+1⟩/\Rd w (some ⟨g,0,none⟩) (x.n+1) (tw o x.n):=by
 obtain⟨ts,ta,tn,tc⟩:=t;obtain⟨h1,h2,h3,h4⟩:=h;change ts=x.s at h1;change tn=x.n at h2;change tc=x.n+1 at h3;subst h1 h2 h3;obtain⟨g,rfl⟩:=h4.some_of_pos (by omega);exact⟨g,rfl,h4.rd⟩
theorem leftF_any (t x:FV) (lo:Nat) (o1 o2:Nat->Int) (w:World) (h:TwF w lo t x o1 o2) (h1:Rd w x.t.a x.t.n o1) (hn1:x.t.n<=100000000) (h2:Rd w x.l.a x.l.n o2) (hn2:x.l.n<=100000000) :
  Calls Tryz.prog 115 #[t.v,x.v] w fun e w'=>e=.returned (.bool true)/\Below w.heap.size w w':=by
 obtain⟨g1,e1,r1⟩:=h.top.at_;obtain⟨g2,e2,r2⟩:=h.low.at_;obtain⟨tt,tl⟩:=t;change tt=_ at e1;change tl=_ at e2;subst e1 e2;exact leftFrac_any x.t.s g1 x.t.a x.t.n x.t.c o1 x.l.s g2 x.l.a x.l.n x.l.c o2 w r1 h1 (by omega) r2 h2 (by omega)
theorem leftTerm_any (t u:TV) (lo:Nat) (o1 o2:Nat->Int) (w:World) (h:TwF w lo t.c u.c o1 o2) (h1:Rd w u.c.t.a u.c.t.n o1) (hn1:u.c.t.n<=100000000) (h2:Rd w u.c.l.a u.c.l.n o2) (hn2:u.c.l.n<=100000000) (hm:t.m=u.m):Calls Tryz.prog 42 #[TV.v t,TV.v u] w fun e w'=>e=.returned (.bool true)/\Below w.heap.size w w':=by
 obtain⟨V,hV⟩:∃ V,V=(w.alloc (.cells #[.bool t.c.t.s,.slice t.c.t.a t.c.t.n t.c.t.c,.bool t.c.l.s,.slice t.c.l.a t.c.l.n t.c.l.c,.int .u16 t.m.x,.int .u16 t.m.y,.int .u16 t.m.z,.int .u16 t.m.t] 37)).alloc (.cells #[.bool u.c.t.s,.slice u.c.t.a u.c.t.n u.c.t.c,.bool u.c.l.s,.slice u.c.l.a u.c.l.n u.c.l.c,.int .u16 u.m.x,.int .u16 u.m.y,.int .u16 u.m.z,.int .u16 u.m.t] 37):=⟨_,rfl⟩
 have hbV:Below w.heap.size w V:=by rw[hV];exact(zk.alloc zj _).alloc (by go_size) _
 have B1:=qh (show Bxs V w.heap.size 37 [.bool t.c.t.s,.slice t.c.t.a t.c.t.n t.c.t.c,.bool t.c.l.s,.slice t.c.l.a t.c.l.n t.c.l.c,.int .u16 t.m.x,.int .u16 t.m.y,.int .u16 t.m.z,.int .u16 t.m.t] by rw[hV];exact(Bxs.new w 37 [.bool t.c.t.s,.slice t.c.t.a t.c.t.n t.c.t.c,.bool t.c.l.s,.slice t.c.l.a t.c.l.n t.c.l.c,.int .u16 t.m.x,.int .u16 t.m.y,.int .u16 t.m.z,.int .u16 t.m.t]).alloc _)
 have B2:=qh (show Bxs V (w.heap.size+1) 37 [.bool u.c.t.s,.slice u.c.t.a u.c.t.n u.c.t.c,.bool u.c.l.s,.slice u.c.l.a u.c.l.n u.c.l.c,.int .u16 u.m.x,.int .u16 u.m.y,.int .u16 u.m.z,.int .u16 u.m.t] by
  have h:=Bxs.new (w.alloc (.cells #[.bool t.c.t.s,.slice t.c.t.a t.c.t.n t.c.t.c,.bool t.c.l.s,.slice t.c.l.a t.c.l.n t.c.l.c,.int .u16 t.m.x,.int .u16 t.m.y,.int .u16 t.m.z,.int .u16 t.m.t] 37)) 37 [.bool u.c.t.s,.slice u.c.t.a u.c.t.n u.c.t.c,.bool u.c.l.s,.slice u.c.l.a u.c.l.n u.c.l.c,.int .u16 u.m.x,.int .u16 u.m.y,.int .u16 u.m.z,.int .u16 u.m.t];rw[World.size_alloc] at h
  rw[hV];exact h)
 have KG:=qh hbV;have SF:=qh (leftF_any t.c u.c lo o1 o2 V (h.below hbV) (h1.below hbV) hn1 (h2.below hbV) hn2);have HV:=qh hV;obtain⟨tc,⟨mx,my,mz,mt⟩⟩:=t;obtain⟨uc,um⟩:=u;change (⟨mx,my,mz,mt⟩:Mo)=um at hm;subst hm;change Calls Tryz.prog 42 #[.agg #[.bool tc.t.s,.slice tc.t.a tc.t.n tc.t.c,.bool tc.l.s,.slice tc.l.a tc.l.n tc.l.c,.int .u16 mx,.int .u16 my,.int .u16 mz,.int .u16 mt],.agg #[.bool uc.t.s,.slice uc.t.a uc.t.n uc.t.c,.bool uc.l.s,.slice uc.l.a uc.l.n uc.l.c,.int .u16 mx,.int .u16 my,.int .u16 mz,.int .u16 mt]] w _;clear hV hbV h h1 h2;go_enter Tryz.func42,Tryz.ntmps42
 go_upto_region 1 with (fail)
 rw[show(w.alloc (.cells #[.bool tc.t.s,.slice tc.t.a tc.t.n tc.t.c,.bool tc.l.s,.slice tc.l.a tc.l.n tc.l.c,.int .u16 mx,.int .u16 my,.int .u16 mz,.int .u16 mt] 37)).alloc (.cells #[.bool uc.t.s,.slice uc.t.a uc.t.n uc.t.c,.bool uc.l.s,.slice uc.l.a uc.l.n uc.l.c,.int .u16 mx,.int .u16 my,.int .u16 mz,.int .u16 mt] 37)=V from HV.o.symm];have c10:=B1.o.ce 0;have c11:=B1.o.ce 1;have c12:=B1.o.ce 2;have c13:=B1.o.ce 3;have c14:=B1.o.ce 4;have c15:=B1.o.ce 5;have c16:=B1.o.ce 6;have c17:=B1.o.ce 7;have c20:=B2.o.ce 0;have c21:=B2.o.ce 1;have c22:=B2.o.ce 2;have c23:=B2.o.ce 3;have c24:=B2.o.ce 4;have c25:=B2.o.ce 5;have c26:=B2.o.ce 6;have c27:=B2.o.ce 7;go_wp2_with fail
 with_reducible refine SF.o.mono ?_
 rintro e w1 ⟨rfl,hb⟩;have KG:=qk KG hb;have B1:=qh (B1.o.bl hb);have B2:=qh (B2.o.bl hb);clear hb SF c10 c11 c12 c13 c14 c15 c16 c17 c20 c21 c22 c23 c24 c25 c26 c27;have c10:=B1.o.ce 0;have c11:=B1.o.ce 1;have c12:=B1.o.ce 2;have c13:=B1.o.ce 3;have c14:=B1.o.ce 4;have c15:=B1.o.ce 5;have c16:=B1.o.ce 6;have c17:=B1.o.ce 7;have c20:=B2.o.ce 0;have c21:=B2.o.ce 1;have c22:=B2.o.ce 2;have c23:=B2.o.ce 3;have c24:=B2.o.ce 4;have c25:=B2.o.ce 5;have c26:=B2.o.ce 6;have c27:=B2.o.ce 7;go_wp2_with fail
 go_ret;exact⟨rfl,KG.o⟩
theorem leftPoly_any (x y:PV) (ts us:List TV) (lo:Nat) (w0 w:World) (hx:TwP w0 w lo x ts us) (hw:Below w0.heap.size w0 w) (hy:RT w0 y.a us) (hyn:us.length=y.n) (hn:y.n<=1000000) (hrd:∀ u∈us,u.c.t.n<=100000000/\u.c.l.n<=100000000) :
  Calls Tryz.prog 16 #[x.v,y.v] w fun e w'=>e=.returned (.bool true)/\Below w.heap.size w w':=by
 have hxl:x.n=y.n:=hx.n.trans hyn;obtain⟨xa,xn,xc⟩:=x;obtain⟨ya,n,yc⟩:=y;change xn=n at hxl;subst hxl;obtain⟨a',c',e',hcc,hrx⟩:=OT.slice hx.row
 have hll:(ts++[spareT]).length=xn+1:=by
  rw[List.length_append,hx.len,show us.length=xn from hyn];rfl
 rw[hll] at e' hcc;change Value.slice xa (xn+1) xc=.slice a' (xn+1) c' at e'
 obtain⟨rfl,rfl⟩:xa=a'/\xc=c':=by injection e' with e1 e2 e3;exact⟨e1,e3⟩
 clear e';have HNN:=qh (show xn<=1000000 from hn);have NU:=qh (show us.length=xn from hyn);have NT:=qh (show ts.length=xn from hx.len.trans hyn);have EA:=qh hx.each;have HRD:=qh hrd;have HW:=qh hw;have RX:=qh (hrx.one (by simp));have RY:=qh (RT.below (show RT w0 ya us from hy) hw)
 have g1:¬xc<=xn:=by omega
 have g2:¬(xc:Int)<=(xn:Int):=by omega
 have g3:xn+1<=xc:=hcc
 have g4:(xn:Int)+1<=(xc:Int):=by omega
 have g5:IntKind.i64.wrap ((xn:Int)+1)=(xn:Int)+1:=IntWalk.i64_in _ (by have:=HNN.o;omega);have G:=qh (And.intro g1 (And.intro g2 (And.intro g3 (And.intro g4 g5))));change Calls Tryz.prog 16 #[.slice xa xn xc,.slice ya xn yc] w _;clear hx hw hy hyn hn hrd hrx hcc hll g3 g4 g5;obtain⟨pb,po,rfl,hp⟩:=RX.o;have HP:=qh hp;clear hp RX;go_enter Tryz.func16,Tryz.ntmps16;go_wp2_with fail
 clear g1 g2;go_loopw [5] (fun i wr=>∃ j:Nat,j<=xn/\i=.int .i64 j/\Below w.heap.size w wr) (fun i _=>xn-(intOf i).toNat)
 case atStart =>
  exact⟨0,Nat.zero_le _,rfl,zk⟩
 case round =>
  obtain⟨j,hj,rfl,hb0⟩:=hrel;have HJ:=qh hj;have KG:=qh hb0;clear hj hb0;by_cases hjn:j<xn
  ·have HJN:=qh hjn;obtain⟨t,ht⟩:∃ t,ts[j]?=some t:=⟨_,List.getElem?_eq_getElem (by rw[NT.o];exact hjn)⟩;obtain⟨u,hu⟩:∃ u,us[j]?=some u:=⟨_,List.getElem?_eq_getElem (by rw[NU.o];exact hjn)⟩;obtain⟨qb,qo,rfl,hc2⟩:=(RY.o.below KG.o).one (fun h=>by rw[h] at hu;simp at hu);have E1:=qh ((HP.o j t (by rw[List.getElem?_append_left (by rw[NT.o];exact hjn)];exact ht)).below KG.o);have E2:=qh (hc2 j u hu);obtain⟨hm,o1,o2,r1,r2,hf⟩:=EA.o j t u ht hu;obtain⟨s1,s2⟩:=HRD.o u (List.mem_of_getElem? hu);have HM:=qh hm;have HF:=qh (hf.below KG.o);have HR1:=qh ((r1.below HW.o).below KG.o);have HR2:=qh ((r2.below HW.o).below KG.o);have HS1:=qh s1;have HS2:=qh s2;have ek:IntKind.i64.wrap ((j:Int)+1)=(j:Int)+1:=IntWalk.i64_in _ (by have:=HJN.o;have:=HNN.o;omega);clear hc2 ht hu hm r1 r2 hf s1 s2
   go_upto_region 6 with (fail)
   refine FS.wp_region_fresh 9 [] (FS.spOf [(8,FS.Sp.know (.bool true))])
    (fun w'=>Below wr.heap.size wr w') (by kernel_rfl) (by kernel_rfl) (by kernel_rfl)
    (FS.spOf_cons (FS.Sp.know_keeps _ _) (FS.spOf_nil)) (fun _ _ h hb=>h.trans (hb.mono h.size)) (zk.drew) ?_
   simp only[zu,zi,ze,zx,zy,zv,zw]
   iterate 8
    refine FS.wpF_reads rfl rfl rfl ?_ (fun w' hw'=>?_) ?_;rotate_left
    ·have hb':=hw'.world;obtain⟨hs0,hs1,hs2,hs3,hs4,hs5,hs6,hs7⟩:=(E1.o.below hb').eight;obtain⟨hs0,hs1,hs2,hs3,hs4,hs5,hs6,hs7⟩:=(E2.o.below hb').eight;clear hw';go_simp
     try rfl
    conv=>arg 10;simp only[Act.put,zq0,zq1,zq2]
   refine FS.wpF_spec rfl rfl rfl (fun w' hw'=>?_) ?_
   ·have hb':=hw'.world;refine FS.gives_of (FS.PK (.bool true)) ?_ (fun _ _ h=>h.post);go_simp;have CT:=leftTerm_any t u lo o1 o2 w' (HF.o.below hb') (HR1.o.below hb') HS1.o (HR2.o.below hb') HS2.o HM.o;refine CT.mono ?_;rintro e w'' ⟨rfl,hb⟩;exact⟨_,rfl,rfl,hb⟩
   rintro _ rfl
   conv=>arg 10;simp only[Act.put,zq0,zq1,zq2]
   refine FS.wpF_nil (fun w101 hb hF=>?_);clear hF;have KG:=qk KG hb;clear hb;go_wp2_with fail
   go_roundw
   case rel =>
    exact⟨j+1,by have:=HJN.o;omega,rfl,KG.o⟩
   case measure=>simp[intOf];have:=HJN.o;omega
  ·have hge:¬((j:Int)<(xn:Int)):=by omega
   obtain rfl:j=xn:=by have:=HJ.o;omega
   obtain⟨g1,g2,g3,g4,g5⟩:=G.o;have E1:=qh ((HP.o j spareT (by rw[List.getElem?_append_right (by rw[NT.o];exact zj),NT.o,Nat.sub_self];rfl)).below KG.o);obtain⟨h0,h1,h2,h3,h4,h5,h6,h7⟩:=E1.o.eight;have HA:=qh (KG.o.alloc KG.o.size (.cells (TV.cells spareT).toArray 37));clear hjn;go_wp2_with fail
   go_ret;exact⟨rfl,HA.o⟩
theorem rd_same {w:World} {a:Option Addr} {n:Nat} {o p:Nat->Int} (h:Rd w a n o) (g:Rd w a n p):∀ i,i<n->o i=p i:=fun i hi=>by
 obtain⟨b,off,ha,hc⟩:=h.cells (by omega);obtain⟨b2,off2,ha2,hc2⟩:=g.cells (by omega);rw[ha] at ha2
 cases ha2
 have h1:=hc i hi;rw[hc2 i hi] at h1
 injection h1 with h1
 injection h1 with _ h1
 exact h1.symm
theorem TwN.rd {w0 w:World} {lo:Nat} {t x:NV} {o p:Nat->Int} (h:TwN w lo t x o) (h1:Rd w0 x.a x.n o) (h2:Rd w0 x.a x.n p):Rd w t.a t.n p:=by
 rw[h.n]
 exact(h.own.rd.le (Nat.le_succ _)).congr fun i hi=>by
  unfold tw;rw[if_pos hi];exact rd_same h1 h2 i hi
theorem TwN.le {w:World} {lo:Nat} {t x:NV} {o:Nat->Int} (h:TwN w lo t x o):t.n<=t.c:=by rw[h.n,h.c];exact Nat.le_succ _
theorem TwF.k {w0 w:World} {lo:Nat} {t x:FV} {o1 o2:Nat->Int} {q:Rat} (h:TwF w lo t x o1 o2) (h1:Rd w0 x.t.a x.t.n o1) (h2:Rd w0 x.l.a x.l.n o2) (hk:KF w0 x q):KF w t q :=
 ⟨⟨h.top.s.trans hk.t.s,h.top.n.trans hk.t.n,h.top.rd h1 hk.t.rd,h.top.le⟩,⟨h.low.s.trans hk.l.s,h.low.n.trans hk.l.n,h.low.rd h2 hk.l.rd,h.low.le⟩⟩
theorem TwF.b {w0 w:World} {lo:Nat} {t x:FV} {o1 o2:Nat->Int} (h:TwF w lo t x o1 o2) (h1:Rd w0 x.t.a x.t.n o1) (h2:Rd w0 x.l.a x.l.n o2) (hk:BF w0 x):BF w t:=by
 obtain⟨p1,p2,g1,g2,g3⟩:=hk.ex;exact⟨⟨p1,p2,h.top.rd h1 g1,h.low.rd h2 g2,by rw[h.top.s,h.top.n,h.low.s,h.low.n];exact g3⟩,h.top.le,h.low.le⟩
theorem TwF.a {w0 w:World} {lo:Nat} {t x:FV} {o1 o2:Nat->Int} {q:Rat} (h:TwF w lo t x o1 o2) (h1:Rd w0 x.t.a x.t.n o1) (h2:Rd w0 x.l.a x.l.n o2) (hk:AF w0 x q):AF w t q:=by
 obtain⟨p1,p2,g1,g2,g3⟩:=hk.ex;exact⟨⟨p1,p2,h.top.rd h1 g1,h.low.rd h2 g2,by rw[h.top.s,h.top.n,h.low.s,h.low.n];exact g3⟩,h.top.le,h.low.le⟩
theorem TwP.rt {w0 w:World} {lo:Nat} {x:PV} {ts us:List TV} (h:TwP w0 w lo x ts us):RT w x.a ts/\ts.length=x.n/\x.n<=x.c:=by
 have hxn:=h.n;have hle:=h.len;obtain⟨xa,xn,xc⟩:=x;change xn=us.length at hxn;obtain⟨a',c',e,hc,hr⟩:=OT.slice h.row;change Value.slice xa (xn+1) xc=_ at e
 injection e with e1 e2 e3
 subst e1 e3;refine⟨⟨fun hne=>?_⟩,by show ts.length=xn;omega,by show xn<=xc;omega⟩;obtain⟨b,off,ha,hcc⟩:=hr.ex (by simp);exact⟨b,off,ha,fun i t hi=>hcc i t (by rw[List.getElem?_append_left (List.getElem?_eq_some_iff.1 hi).1];exact hi)⟩
def Tw2 (w0 w:World) (lo:Nat) (y x:PV):Prop:=∃ ts us,TwP w0 w lo y ts us/\RT w0 x.a us/\us.length=x.n/\∀ u∈us,u.c.t.n<=100000000/\u.c.l.n<=100000000
theorem TwP.below {w0 w w':World} {lo:Nat} {x:PV} {ts us:List TV} (h:TwP w0 w lo x ts us) (hb:Below w.heap.size w w'):TwP w0 w' lo x ts us:=⟨OT.below h.row hb,h.n,h.len,fun i t u h1 h2=>(h.each i t u h1 h2).below hb,h.ap⟩
theorem Tw2.below {w0 w w':World} {lo:Nat} {y x:PV} (h:Tw2 w0 w lo y x) (hb:Below w.heap.size w w'):Tw2 w0 w' lo y x:=by
 obtain⟨ts,us,h1,h2⟩:=h;exact⟨ts,us,h1.below hb,h2⟩
theorem Tw2.left {w0 w:World} {lo:Nat} {y x:PV} (h:Tw2 w0 w lo y x) (hw:Below w0.heap.size w0 w) (hn:x.n<=1000000) :
  Calls Tryz.prog 16 #[y.v,x.v] w fun e w'=>e=.returned (.bool true)/\Below w.heap.size w w':=by
 obtain⟨ts,us,h1,h2,h3,h4⟩:=h;exact leftPoly_any y x ts us lo w0 w h1 hw h2 h3 hn h4
theorem zip_get {α β:Type} {l:List α} {m:List β} {i:Nat} {a:α} {b:β} (h:(l.zip m)[i]?=some (a,b)):l[i]?=some a/\m[i]?=some b:=by
 rw[List.getElem?_zip_eq_some] at h;exact h
theorem twin_k (x:PV) (P:List Tm) (w:World) (h:KP w x P) (hl:∀ t∈P,LQ t.2 900000) (hx:x.n<=1000000) :
  Calls Tryz.prog 7 #[x.v] w fun e w'=>∃ y:PV,e=.returned y.v/\y.n=x.n/\KP w' y P/\Tw2 w w' w.heap.size y x/\Below w.heap.size w w':=by
 obtain⟨L,h1,h2,h3,h4⟩:=h.ex
 have hs:∀ u∈L.map Prod.fst,u.c.t.n<=100000000/\u.c.l.n<=100000000:=fun u hu=>by
  obtain⟨e,he,rfl⟩:=List.mem_map.1 hu;have:=(h3 e he).len (hl (e.1.m,e.2) (by rw[<- h4];exact List.mem_map.2 ⟨e,he,rfl⟩)) zj;exact⟨by have:=this.1;omega,by have:=this.2;omega⟩
 refine(twinPoly_any x (L.map Prod.fst) w h1 (by rw[List.length_map,h2]) hx fun u hu=>?_).mono fun e w' ⟨y,ts,he,hn,ht,hb⟩=>?_
 ·obtain⟨g1,g2⟩:=hs u hu;obtain⟨e,he,rfl⟩:=List.mem_map.1 hu;exact⟨_,_,(h3 e he).t.rd,(h3 e he).l.rd,g1,g2⟩
 ·obtain⟨r1,r2,r3⟩:=ht.rt
  have hlen:ts.length=(L.map Prod.snd).length:=by rw[ht.len,List.length_map,List.length_map]
  refine⟨y,he,hn,⟨⟨ts.zip (L.map Prod.snd),?_,?_,fun e he=>?_,?_⟩,r3,h.canon,h.small⟩,⟨ts,_,ht,h1,by rw[List.length_map,h2],hs⟩,hb⟩
  ·rw[List.map_fst_zip (by omega)];exact r1
  ·rw[List.length_zip,<- hlen,Nat.min_self,r2]
  ·obtain⟨i,hi⟩:=List.mem_iff_getElem?.1 he;obtain⟨t,q⟩:=e;obtain⟨i1,i2⟩:=zip_get hi;rw[List.getElem?_map] at i2;obtain⟨e2,e3,rfl⟩:=Option.map_eq_some_iff.1 i2;obtain⟨-,o1,o2,g1,g2,g3⟩:=ht.each i t e2.1 i1 (by rw[List.getElem?_map,e3];rfl);exact g3.k g1 g2 (h3 e2 (List.mem_of_getElem? e3))
  ·rw[<- h4]
   refine List.ext_getElem? fun i=>?_
   rw[List.getElem?_map,List.getElem?_map]
   cases e3:L[i]? with
   | none =>
    have h9:=List.getElem?_eq_none_iff.1 e3
    rw[List.getElem?_eq_none (l:=ts.zip (L.map Prod.snd)) (by rw[List.length_zip,hlen,List.length_map,Nat.min_self];exact h9)]
   | some e2 =>
    have hil:=(List.getElem?_eq_some_iff.1 e3).1;obtain⟨t,e4⟩:∃ t,ts[i]?=some t:=⟨_,List.getElem?_eq_getElem (by rw[hlen,List.length_map];exact hil)⟩
    have e5:(ts.zip (L.map Prod.snd))[i]?=some (t,e2.2):=by
     rw[List.getElem?_zip_eq_some];exact⟨e4,by rw[List.getElem?_map,e3];rfl⟩
    obtain⟨hm,-⟩:=ht.each i t e2.1 e4 (by rw[List.getElem?_map,e3];rfl);rw[e5];show some (t.m,e2.2)=some (e2.1.m,e2.2);rw[hm]
theorem vals_same:∀ {L M:List TO},L.length=M.length->(∀ (i:Nat) (e f:TO),L[i]?=some e->M[i]?=some f->e.1.m=f.1.m/\e.2=f.2)->vals L=vals M
 | [],[],_,_=>rfl
 | [],_ :: _,h,_=>by simp at h
 | _ :: _,[],h,_=>by simp at h
 | (a,p) :: l,(b,q) :: m,h,hh=>by
  obtain⟨h1,h2⟩:=hh 0 _ _ rfl rfl;have h1:a.m=b.m:=h1;have h2:p=q:=h2;subst h2
  have:=vals_same (L:=l) (M:=m) (by simpa using h) fun i e f he hf=>hh (i+1) e f he hf
  unfold vals;rw[this];clear h hh this
  cases p with
  | none=>rfl
  | some q =>
   cases vals m with
   | none=>rfl
   | some l =>
    show some ((a.m,q) :: l)=some ((b.m,q) :: l);rw[h1]
theorem twin_b (x:PV) (w:World) (h:BP w x) (hx:x.n<=1000000) :
  Calls Tryz.prog 7 #[x.v] w fun e w'=>∃ y:PV,e=.returned y.v/\y.n=x.n/\BP w' y/\Tw2 w w' w.heap.size y x/\Below w.heap.size w w':=by
 obtain⟨L,⟨h1,h2,h3,h4,h5,h6⟩,hno⟩:=h
 have hs:∀ u∈L.map Prod.fst,u.c.t.n<=100000000/\u.c.l.n<=100000000:=fun u hu=>by
  obtain⟨e,he,rfl⟩:=List.mem_map.1 hu;have:=h6 e he;exact⟨by have:=this.1;omega,by have:=this.2;omega⟩
 refine(twinPoly_any x (L.map Prod.fst) w h1 (by rw[List.length_map,h2]) hx fun u hu=>?_).mono fun e w' ⟨y,ts,he,hn,ht,hb⟩=>?_
 ·obtain⟨g1,g2⟩:=hs u hu;obtain⟨e,he,rfl⟩:=List.mem_map.1 hu;have h7:=h4 e he;unfold TO.ok at h7;split at h7
  ·exact⟨_,_,h7.t.rd,h7.l.rd,g1,g2⟩
  ·obtain⟨o1,o2,q1,q2,-⟩:=h7.ex;exact⟨o1,o2,q1,q2,g1,g2⟩
 ·obtain⟨r1,r2,r3⟩:=ht.rt
  have hlen:ts.length=(L.map Prod.snd).length:=by rw[ht.len,List.length_map,List.length_map]
  have get:∀ (i:Nat) (e:TO),(ts.zip (L.map Prod.snd))[i]?=some e->∃ e2 o1 o2,L[i]?=some e2/\e.2=e2.2/\e.1.m=e2.1.m/\Rd w e2.1.c.t.a e2.1.c.t.n o1/\Rd w e2.1.c.l.a e2.1.c.l.n o2/\TwF w' w.heap.size e.1.c e2.1.c o1 o2:=fun i e hi=>by
   obtain⟨t,q⟩:=e;obtain⟨i1,i2⟩:=zip_get hi;rw[List.getElem?_map] at i2;obtain⟨e2,e3,rfl⟩:=Option.map_eq_some_iff.1 i2;obtain⟨hm,o1,o2,g1,g2,g3⟩:=ht.each i t e2.1 i1 (by rw[List.getElem?_map,e3];rfl);exact⟨e2,o1,o2,e3,rfl,hm,g1,g2,g3⟩
  refine⟨y,he,hn,⟨ts.zip (L.map Prod.snd),⟨?_,?_,r3,fun e he=>?_,fun e he=>?_,fun e he=>?_⟩,?_⟩,⟨ts,_,ht,h1,by rw[List.length_map,h2],hs⟩,hb⟩
  ·rw[List.map_fst_zip (by omega)];exact r1
  ·rw[List.length_zip,<- hlen,Nat.min_self,r2]
  ·obtain⟨i,hi⟩:=List.mem_iff_getElem?.1 he;obtain⟨e2,o1,o2,g1,g2,-,g3,g4,g5⟩:=get i e hi;have h7:=h4 e2 (List.mem_of_getElem? g1);obtain⟨t,q⟩:=e;obtain⟨t2,q2⟩:=e2;have g2:q=q2:=g2;subst g2;unfold TO.ok at h7 ⊢
   cases q with
   | some q=>exact g5.k g3 g4 h7
   | none=>exact g5.b g3 g4 h7
  ·obtain⟨i,hi⟩:=List.mem_iff_getElem?.1 he;obtain⟨e2,o1,o2,g1,-,g2,-⟩:=get i e hi;rw[g2];exact h5 e2 (List.mem_of_getElem? g1)
  ·obtain⟨i,hi⟩:=List.mem_iff_getElem?.1 he;obtain⟨e2,o1,o2,g1,-,-,-,-,g5⟩:=get i e hi;have h8:=h6 e2 (List.mem_of_getElem? g1);exact⟨by rw[g5.top.n];exact h8.1,by rw[g5.low.n];exact h8.2⟩
  ·rw[show okP (ts.zip (L.map Prod.snd))=okP L by
    unfold okP
    rw[vals_same (L:=ts.zip (L.map Prod.snd)) (M:=L) (by rw[List.length_zip,hlen,Nat.min_self,List.length_map]) fun i e f he hf=>by
     obtain⟨e2,-,-,g1,g2,g3,-⟩:=get i e he;rw[hf] at g1;obtain rfl:=Option.some.inj g1
     exact⟨g3,g2⟩]]
   exact hno
abbrev OW (w:World) (lo:Nat) (v:Value) (Zs:List PV):Prop:=w.ownsRow lo 23 1 v Zs.length (Zs.map PV.v)
theorem OW.below {w w':World} {lo:Nat} {v:Value} {Zs:List PV} (h:OW w lo v Zs) (hb:Below w.heap.size w w'):OW w' lo v Zs:=by
 refine⟨h.1,h.2.imp id ?_⟩;rintro⟨g,cap,cur,hv,hlo,hg,h3⟩;exact⟨g,cap,cur,hv,hlo,(hb.block g (lt_of_block hg)).trans hg,h3⟩
theorem OW.own {w:World} {lo:Nat} {v:Value} {Zs:List PV} (h:OW w lo v Zs) {k:Nat} (hk:some k=v.ownBlock):lo<=k/\∃ cur,w.heap[k]?=some (.cells cur 23 (0,0)):=by
 rcases h.2 with ⟨hv,_⟩ | ⟨g,cap,cur,hv,hlo,hg,_⟩
 ·rw[hv] at hk;cases hk
 ·rw[hv] at hk;have hk:some k=some g:=hk
  cases hk
  exact⟨hlo,cur,hg⟩
theorem OW.cells {w:World} {lo:Nat} {v:Value} {Zs:List PV} (h:OW w lo v Zs):∃ a c,v=.slice a Zs.length c/\Zs.length<=c/\∀ i z,Zs[i]?=some z->∃ g,a=some ⟨g,0,none⟩/\w.cell? ⟨g,i,none⟩=some z.v:=by
 rcases h.2 with ⟨hv,h0⟩ | ⟨g,cap,cur,hv,hnc,_,hg,hl,hcs,htake⟩
 ·have hz:Zs=[]:=List.length_eq_zero_iff.1 h0;subst hz;exact⟨none,0,hv,zj,fun i b hi=>by simp at hi⟩
 ·refine⟨some ⟨g,0,none⟩,cap,hv,by omega,fun i z hi=>⟨g,rfl,?_⟩⟩;have hil:=(List.getElem?_eq_some_iff.1 hi).1;rw[cell_of_row _ _ _ _ _ _ ‹_›]
  have h1:(Zs.map PV.v)[i]?=some z.v:=by rw[List.getElem?_map,hi];rfl
  rw[<- htake,List.getElem?_take,if_pos (by omega),Array.getElem?_toList] at h1;exact h1
structure EQ (w:World) (lo lo2:Nat) (v:Value) (Rs:List (List Tm)):Prop where
 ex:∃ Zs:List PV,OW w lo2 v Zs/\Zs.length=Rs.length/\∀ (i:Nat) (z:PV) (R:List Tm),Zs[i]?=some z->Rs[i]?=some R->EP w lo z R
theorem EQ.nil (w:World) (lo lo2:Nat):EQ w lo lo2 (.slice none 0 0) []:=⟨[],World.ownsRow_nil _ _ _ _,rfl,fun i z R h=>by simp at h⟩
theorem EQ.below {w w':World} {lo lo2:Nat} {v:Value} {Rs:List (List Tm)} (h:EQ w lo lo2 v Rs) (hb:Below w.heap.size w w'):EQ w' lo lo2 v Rs:=by
 obtain⟨Zs,h1,h2,h3⟩:=h.ex;exact⟨Zs,h1.below hb,h2,fun i z R h4 h5=>(h3 i z R h4 h5).below hb⟩
theorem EQ.slice {w:World} {lo lo2:Nat} {v:Value} {Rs:List (List Tm)} (h:EQ w lo lo2 v Rs):∃ a c,v=.slice a Rs.length c:=by
 obtain⟨Zs,h1,h2,-⟩:=h.ex;obtain⟨a,c,e,-⟩:=h1.cells;exact⟨a,c,by rw[e,h2]⟩
theorem EQ.get {w:World} {lo lo2:Nat} {a:Option Addr} {n c:Nat} {Rs:List (List Tm)} (h:EQ w lo lo2 (.slice a n c) Rs) {i:Nat} (hi:i<Rs.length):∃ (g:Nat) (z:PV) (R:List Tm),a=some ⟨g,0,none⟩/\g<w.heap.size/\w.cell? ⟨g,i,none⟩=some z.v/\Rs[i]?=some R/\EP w lo z R:=by
 obtain⟨Zs,h1,h2,h3⟩:=h.ex;obtain⟨a',c',e,-,hc⟩:=h1.cells
 injection e with e1 e2 e3
 subst e1;obtain⟨z,hz⟩:∃ z,Zs[i]?=some z:=⟨_,List.getElem?_eq_getElem (by omega)⟩;obtain⟨R,hR⟩:∃ R,Rs[i]?=some R:=⟨_,List.getElem?_eq_getElem hi⟩;obtain⟨g,hg,hcell⟩:=hc i z hz;exact⟨g,z,R,hg,block_lt_of_cell hcell,hcell,hR,h3 i z R hz hR⟩
def rowS (T:TypeId):Bool:=T==23 || rowE T
structure NewS (w:World) (lo b:Nat) (R:List Tm):Prop where
 ex:∃ y:PV,Bxs w b 23 [y.v]/\EP w lo y R
theorem NewS.rows {w w':World} {lo b:Nat} {R:List Tm} (h:NewS w lo b R) (hs:∀ (b:Nat) (c:Array Value) (T:TypeId),w.heap[b]?=some (.cells c T (0,0))->rowS T=true->w'.heap[b]?=w.heap[b]?):NewS w' lo b R:=by
 obtain⟨y,h1,h2⟩:=h.ex;exact⟨y,(hs b _ _ h1 rfl).trans h1,h2.rows fun b c T h3 h4=>hs b c T h3 (by unfold rowS;rw[h4,Bool.or_true])⟩
theorem at4 (m:Mo) {i:Nat} (hi:i<4):[Value.int .u16 m.x,.int .u16 m.y,.int .u16 m.z,.int .u16 m.t][i]?=some (.int .u16 (m.at i)):=by
 match i,hi with
 | 0,_=>rfl
 | 1,_=>rfl
 | 2,_=>rfl
 | 3,_=>rfl
theorem rdegree_out (x:PV) (P:List Tm) (l:Int) (hl:l<0\/4<=l) (w:World) (hx:AP w x P) (hp:∀ t∈P,LQ t.2 900000) (hn:x.n<=1000000):Calls Tryz.prog 13 #[x.v,.int .i64 l] w fun e w'=>e=.returned (.int .i64 (-1))/\Below w.heap.size w w':=by
 have FT:=qh (rfit_any hx hp (by omega));obtain⟨xa,xn,xc⟩:=x;change Calls Tryz.prog 13 #[.slice xa xn xc,.int .i64 l] w _;clear hx hp hn;by_cases h:l<0
 ·go_enter Tryz.func13,Tryz.ntmps13;go_wp2_with fail
  with_reducible refine FT.o.mono ?_
  rintro e w1 ⟨⟨pa,pn,pc⟩,he,-,-,hb⟩;obtain rfl:e=.returned (.slice pa pn pc):=he;go_wp2_with fail
  go_ret;exact⟨rfl,hb⟩
 ·have h2:3<l:=by omega
  have h3:l>3:=by omega
  clear hl;go_enter Tryz.func13,Tryz.ntmps13;go_wp2_with fail
  with_reducible refine FT.o.mono ?_
  rintro e w1 ⟨⟨pa,pn,pc⟩,he,-,-,hb⟩;obtain rfl:e=.returned (.slice pa pn pc):=he;go_wp2_with fail
  go_ret;exact⟨rfl,hb⟩
theorem rdegree_k (li:Nat) (hi:li<4) (x:PV) (P:List Tm) (w:World) (hx:AP w x P) (hp:∀ t∈P,LQ t.2 900000) (hn:x.n<=1000000):Calls Tryz.prog 13 #[x.v,.int .i64 (li:Int)] w fun e w'=>e=.returned (.int .i64 (degP P li))/\Below w.heap.size w w':=by
 have HI:=qh hi
 have hi1:(li:Int)<4:=by omega
 have hi2:¬((li:Int)<0):=by omega
 have hi3:(0:Int)<=(li:Int):=by omega
 have hi4:¬((li:Int)>3):=by omega
 have hi5:¬((3:Int)<(li:Int)):=by omega
 have FT:=qh (rfit_any hx hp (by omega));have HNN:=qh hn;have HSM:=qh hx.small;obtain⟨xa,xn,xc⟩:=x;change Calls Tryz.prog 13 #[.slice xa xn xc,.int .i64 (li:Int)] w _;clear hi hx hp hn;go_enter Tryz.func13,Tryz.ntmps13;go_wp2_with fail
 with_reducible refine FT.o.mono ?_
 rintro e w1 ⟨⟨pa,pn,pc⟩,he,hp,hpn,hb⟩;obtain rfl:e=.returned (.slice pa pn pc):=he;have FZ:=qh hp;have HPN:=qh (show pn<=1000000 from zm hpn HNN.o);have HPL:=qh (show pn=P.length from hp.len);have KW:=qh hb;have KG:=qh (Below.refl w1.heap.size w1);clear hp hpn hb FT;go_wp2_with fail
 go_loopw [5,6] (fun s i wr=>∃ j:Nat,j<=pn/\i=.int .i64 j/\s=.int .i64 (degP (P.take j) li)/\Below w1.heap.size w1 wr) (fun _ i _=>pn-(intOf i).toNat)
 case atStart =>
  exact⟨0,Nat.zero_le _,rfl,rfl,KG.o⟩
 case round =>
  obtain⟨j,hj,rfl,rfl,hb0⟩:=hrel;have HJ:=qh hj;have KG:=qh hb0;clear hj hb0;by_cases hjn:j<pn
  ·have HJN:=qh hjn
   have hlt:(j:Int)<(pn:Int):=by omega
   obtain⟨t,q,pb,po,rfl,hre,-,htp⟩:=FZ.o.get HJN.o;have HPJ:=qh htp;have E1:=hre.below KG.o
   have cL:wr.cell? ⟨pb,po+j*8+4+li,none⟩=some (.int .u16 (t.m.at li:Int)):=by
    have h:=E1.cell (4+li) _ (at_cell _ _ _ _ _ HI.o);rwa [<- Nat.add_assoc] at h
   have cP:=E1.lt;have hs:t.m.at li<=65535:=at_small (HSM.o _ (List.mem_of_getElem? htp)) li;have eu:IntKind.i64.wrap ((t.m.at li:Nat):Int)=((t.m.at li:Nat):Int):=IntWalk.i64_in _ (by omega);have ek:IntKind.i64.wrap ((j:Int)+1)=(j:Int)+1:=IntWalk.i64_in _ (by have:=HJN.o;have:=HPN.o;omega);clear hjn hre htp E1 hs;go_wp2_with fail
   go_roundw
   case rel =>
    refine⟨j+1,by have:=HJN.o;omega,rfl,?_,KG.o⟩;rw[List.take_add_one,HPJ.o];show _=Value.int .i64 (degP (P.take j++[(t.m,q)]) li);rw[degP_snoc]
   case measure=>simp[intOf];have:=HJN.o;omega
  ·have hge:¬((j:Int)<(pn:Int)):=by omega
   have HJE:=qh (show j=pn by have:=HJ.o;omega);clear hjn;go_wp2_with fail
   go_ret;refine⟨?_,KW.o.trans (KG.o.mono KW.o.size)⟩;rw[List.take_of_length_le (by rw[HJE.o,HPL.o];exact zj)];rfl
theorem EQ.alloc {w:World} {lo lo2:Nat} {v:Value} {Rs:List (List Tm)} (h:EQ w lo lo2 v Rs) (o:Obj):EQ (w.alloc o) lo lo2 v Rs:=h.below (zk.alloc zj _)
theorem EP.alloc {w:World} {lo:Nat} {x:PV} {P:List Tm} (h:EP w lo x P) (o:Obj):EP (w.alloc o) lo x P:=h.below (zk.alloc zj _)
theorem rlead_nil (o:Int) (x:PV) (w:World) (hx:AP w x []) (hn:x.n<=1000000):Calls Tryz.prog 9 #[.int .u8 o,x.v] w fun e w'=>e=.returned (.tuple #[.agg #[.bool false,.slice none 0 0,.bool false,.slice none 0 0,.int .u16 0,.int .u16 0,.int .u16 0,.int .u16 0],.bool false])/\Below w.heap.size w w':=by
 obtain⟨⟨za,zn,zc⟩,hz,hzn,hct⟩:=rfit_w hx (fun t ht=>(by cases ht)) (by omega);obtain⟨V,hV⟩:∃ V,V=w.alloc (.cells #[.bool false,.slice none 0 0,.bool false,.slice none 0 0,.int .u16 0,.int .u16 0,.int .u16 0,.int .u16 0] 37):=⟨_,rfl⟩
 have hbV:Below w.heap.size w V:=by rw[hV];exact zk.alloc zj _
 have B4:=qh (show Bxs V w.heap.size 37 [.bool false,.slice none 0 0,.bool false,.slice none 0 0,.int .u16 0,.int .u16 0,.int .u16 0,.int .u16 0] by rw[hV];exact Bxs.new w 37 [.bool false,.slice none 0 0,.bool false,.slice none 0 0,.int .u16 0,.int .u16 0,.int .u16 0,.int .u16 0]);have CT:=qh (hct V hbV);obtain rfl:zn=0:=hz.len;have KG:=qh hbV;have HV:=qh hV;obtain⟨xa,xn,xc⟩:=x;clear hx hn hz hzn hct hbV hV;change Calls Tryz.prog 9 #[.int .u8 o,.slice xa xn xc] w _;go_enter Tryz.func9,Tryz.ntmps9
 go_upto_region 1 with (fail)
 rw[show w.alloc (.cells #[.bool false,.slice none 0 0,.bool false,.slice none 0 0,.int .u16 0,.int .u16 0,.int .u16 0,.int .u16 0] 37)=V from HV.o.symm];go_wp2_with fail
 with_reducible refine CT.o.mono ?_
 rintro e w1 ⟨he,hb⟩;obtain rfl:e=.returned (.slice za 0 zc):=he;have B4:=qh (B4.o.bl hb);have KG:=qk KG hb;clear hb CT;have c40:=B4.o.ce 0;have c41:=B4.o.ce 1;have c42:=B4.o.ce 2;have c43:=B4.o.ce 3;have c44:=B4.o.ce 4;have c45:=B4.o.ce 5;have c46:=B4.o.ce 6;have c47:=B4.o.ce 7;have c4f:=B4.o.fz;have c4l:=B4.o.lt;have HB:=qh (show Below w.heap.size w (put8 w1 w.heap.size (.bool false) (.slice none 0 0) (.bool false) (.slice none 0 0) (.int .u16 0) (.int .u16 0) (.int .u16 0) (.int .u16 0)) from put8_below KG.o zj ..);go_wp2_with fail
 exact bodyPost_ret (results_ct rfl _ _ _ _ _ _ _ rfl (put8_bxs B4.o ..) Tryz.underlying37 rfl (by kernel_rfl)) rfl ⟨rfl,HB.o⟩
end Pol
namespace Book
open Go.RowKit Go.Sort Go.FreshG Limb Pol
structure HG (w:World) (lo:Nat) (S:Nat->Prop) (L M:List HL):Prop where
 num:∀ x∈L,(∃ o,Limb.Own 128 w lo x.a x.n x.c o)/\x.n<=900000000
 row:∀ x∈M,(∃ o,OwnT w lo x.a x.n x.c o)/\x.n<=100000000
 at_:∀ x:HL,x∈L++M->∀ p:Addr,x.a=some p->S p.block
 nq:∀ x:HL,x∈L++M->x.q<=30000
 al:Aparts L
 am:Aparts M
theorem HG.nil (w:World) (lo:Nat) (S:Nat->Prop):HG w lo S [] []:=⟨fun x h=>(by cases h),fun x h=>(by cases h),fun x h=>(by cases h),fun x h=>(by cases h),List.Pairwise.nil,List.Pairwise.nil⟩
theorem HG.app {w:World} {lo:Nat} {S T U:Nat->Prop} {L M L2 M2:List HL} (h:HG w lo S L M) (g:HG w lo T L2 M2) (hS:∀ b,S b->U b) (hT:∀ b,T b->U b) (hd:∀ b,S b->¬T b):HG w lo U (L++L2) (M++M2) where
 num x hx:=(List.mem_append.1 hx).elim (h.num x) (g.num x)
 row x hx:=(List.mem_append.1 hx).elim (h.row x) (g.row x)
 at_ x hx p hp:=by
  rcases List.mem_append.1 hx with hx | hx <;> rcases List.mem_append.1 hx with hx | hx
  ·exact hS _ (h.at_ x (List.mem_append_left _ hx) p hp)
  ·exact hT _ (g.at_ x (List.mem_append_left _ hx) p hp)
  ·exact hS _ (h.at_ x (List.mem_append_right _ hx) p hp)
  ·exact hT _ (g.at_ x (List.mem_append_right _ hx) p hp)
 nq x hx:=by
  rcases List.mem_append.1 hx with hx | hx <;> rcases List.mem_append.1 hx with hx | hx
  ·exact h.nq x (List.mem_append_left _ hx)
  ·exact g.nq x (List.mem_append_left _ hx)
  ·exact h.nq x (List.mem_append_right _ hx)
  ·exact g.nq x (List.mem_append_right _ hx)
 al:=List.pairwise_append.2 ⟨h.al,g.al,fun x hx y hy p q hp hq e=>hd p.block (h.at_ x (List.mem_append_left _ hx) p hp) (by rw[e];exact g.at_ y (List.mem_append_left _ hy) q hq)⟩
 am:=List.pairwise_append.2 ⟨h.am,g.am,fun x hx y hy p q hp hq e=>hd p.block (h.at_ x (List.mem_append_right _ hx) p hp) (by rw[e];exact g.at_ y (List.mem_append_right _ hy) q hq)⟩
theorem HG.keep {w w':World} {lo:Nat} {S:Nat->Prop} {L M:List HL} (h:HG w lo S L M) (hk:∀ b,S b->w'.heap[b]?=w.heap[b]?):HG w' lo S L M where
 num x hx:=by
  obtain⟨⟨o,ho⟩,hn⟩:=h.num x hx;exact⟨⟨o,ho.keep fun p hp=>hk _ (h.at_ x (List.mem_append_left _ hx) p hp)⟩,hn⟩
 row x hx:=by
  obtain⟨⟨o,ho⟩,hn⟩:=h.row x hx;exact⟨⟨o,ho.keep fun p hp=>hk _ (h.at_ x (List.mem_append_right _ hx) p hp)⟩,hn⟩
 at_:=h.at_
 nq:=h.nq
 al:=h.al
 am:=h.am
theorem HG.mono {w:World} {lo lo':Nat} {S:Nat->Prop} {L M:List HL} (h:HG w lo S L M) (hl:lo'<=lo):HG w lo' S L M where
 num x hx:=by
  obtain⟨⟨o,ho⟩,hn⟩:=h.num x hx;exact⟨⟨o,ho.mono hl⟩,hn⟩
 row x hx:=by
  obtain⟨⟨o,ho⟩,hn⟩:=h.row x hx;exact⟨⟨o,ho.mono hl⟩,hn⟩
 at_:=h.at_
 nq:=h.nq
 al:=h.al
 am:=h.am
theorem BkS.apartG {w:World} {b base q lo:Nat} {S:Nat->Prop} {L M:List HL} (h:BkS w b base q L M) (hG:HG w lo S L M) (h0:0<L.length) (h1:0<M.length) (hk:L.length<=30000) (hkt:M.length<=30000) (hS:∀ b,S b->lo<=b/\b<base) (hlo:lo<=base) :
  Calls Tryz.prog 20 #[.pointer (some ⟨b,0,none⟩)] w fun e w'=>e=.returned (.bool true)/\Below lo w w':=by
 classical
 have hO:∀ x:HL,∃ o,x∈L->Limb.Own 128 w lo x.a x.n x.c o:=fun x=>by
  by_cases hx:x∈L
  ·obtain⟨o,ho⟩:=(hG.num x hx).1;exact⟨o,fun _=>ho⟩
  ·exact⟨fun _=>0,fun h=>absurd h hx⟩
 have hT:∀ x:HL,∃ o,x∈M->OwnT w lo x.a x.n x.c o:=fun x=>by
  by_cases hx:x∈M
  ·obtain⟨o,ho⟩:=(hG.row x hx).1;exact⟨o,fun _=>ho⟩
  ·exact⟨fun _=>.bool true,fun h=>absurd h hx⟩
 obtain⟨O,hO⟩:=Classical.axiomOfChoice hO;obtain⟨Ot,hT⟩:=Classical.axiomOfChoice hT
 refine h.apart h0 h1 hk hkt (fun x hx=>hG.nq x (List.mem_append_left _ hx)) (fun x hx=>hG.nq x (List.mem_append_right _ hx)) O Ot hO hT (fun x hx=>(hG.num x hx).2) (fun x hx=>(hG.row x hx).2)
  (fun x hx p hp=>hS _ (hG.at_ x hx p hp)) hlo hG.al hG.am fun x hx y hy p q hp hq e=>?_
 rcases(hO x hx).place with ⟨h,-⟩ | ⟨g,cur,ha,-,hg,-⟩
 ·rw[h] at hp;cases hp
 ·rcases(hT y hy).place with ⟨h,-⟩ | ⟨g2,cur2,ha2,-,hg2,-⟩
  ·rw[h] at hq;cases hq
  ·rw[ha] at hp;rw[ha2] at hq
   cases hp;cases hq
   change g=g2 at e;subst e;rw[hg] at hg2
   injection hg2 with hg2
   injection hg2 with _ hg2
   exact absurd hg2 (by decide)
theorem own_lt {w:World} {lo n c:Nat} {a:Option Addr} {o:Nat->Int} (h:Limb.Own 128 w lo a n c o) {p:Addr} (hp:a=some p):lo<=p.block/\p.block<w.heap.size:=(h.blk hp).2
theorem ownT_lt {w:World} {lo n c:Nat} {a:Option Addr} {o:Nat->Value} (h:OwnT w lo a n c o) {p:Addr} (hp:a=some p):lo<=p.block/\p.block<w.heap.size:=by
 rcases h.place with h0 | ⟨g,cur,ha,hbg,hg,hcap,hc⟩
 ·rw[h0.1] at hp;cases hp
 ·rw[ha] at hp
  cases hp
  exact⟨hbg,lt_of_block hg⟩
def Bw (lo hi b:Nat):Prop:=lo<=b/\b<hi
structure TOwn (w:World) (lo:Nat) (t:FV):Prop where
 top:∃ o,Limb.Own 128 w lo t.t.a t.t.n t.t.c o
 low:∃ o,Limb.Own 128 w lo t.l.a t.l.n t.l.c o
 ap:Apart2 t.t.a t.l.a
 n:t.t.n<=900000000/\t.l.n<=900000000
theorem TOwn.hg {w:World} {lo:Nat} {t:FV} (h:TOwn w lo t) {q:Nat} (hq:q+1<=30000):HG w lo (Bw lo w.heap.size) [⟨t.t.a,t.t.n,t.t.c,q⟩,⟨t.l.a,t.l.n,t.l.c,q+1⟩] [] where
 num x hx:=by
  rcases List.mem_cons.1 hx with rfl | hx
  ·exact⟨h.top,h.n.1⟩
  ·rw[List.mem_singleton.1 hx];exact⟨h.low,h.n.2⟩
 row x hx:=by cases hx
 at_ x hx p hp:=by
  rw[List.append_nil] at hx
  rcases List.mem_cons.1 hx with rfl | hx
  ·obtain⟨o,ho⟩:=h.top;exact own_lt ho hp
  ·rw[List.mem_singleton.1 hx] at hp;obtain⟨o,ho⟩:=h.low;exact own_lt ho hp
 nq x hx:=by
  rw[List.append_nil] at hx
  rcases List.mem_cons.1 hx with rfl | hx
  ·show q<=30000;omega
  ·rw[List.mem_singleton.1 hx];exact hq
 al:=List.pairwise_cons.2 ⟨fun y hy p q hp hq=>by rw[List.mem_singleton.1 hy] at hq;exact h.ap p q hp hq,List.pairwise_singleton _ _⟩
 am:=List.Pairwise.nil
theorem DF.town {w:World} {lo:Nat} {x:FV} {q:Rat} (h:DF w lo x q) (hl:LQ q 900000):TOwn w lo x:=⟨⟨_,h.t.own⟩,⟨_,h.l.own⟩,h.ap,by
 have:=h.k.len hl zj
 exact⟨by have:=this.1;omega,by have:=this.2;omega⟩⟩
theorem TwF.town {w:World} {lo:Nat} {t x:FV} {o1 o2:Nat->Int} (h:TwF w lo t x o1 o2) (h1:x.t.n<=100000000) (h2:x.l.n<=100000000):TOwn w lo t :=
 ⟨⟨_,by rw[h.top.n,h.top.c];exact h.top.own.less (Nat.le_succ _)⟩,⟨_,by rw[h.low.n,h.low.c];exact h.low.own.less (Nat.le_succ _)⟩,h.ap,by rw[h.top.n,h.low.n];omega⟩
theorem termsL_mem:∀ {ts:List TV} {q:Nat} {x:HL},x∈termsL ts q->∃ t∈ts,x.q<q+2*ts.length/\((x.a=t.c.t.a/\x.n=t.c.t.n/\x.c=t.c.t.c)\/(x.a=t.c.l.a/\x.n=t.c.l.n/\x.c=t.c.l.c))
 | [],_,_,h=>by cases h
 | t :: r,q,x,h=>by
  rcases List.mem_cons.1 h with rfl | h
  ·exact⟨t,List.mem_cons_self ..,by simp only[List.length_cons];omega,Or.inl ⟨rfl,rfl,rfl⟩⟩
  ·rcases List.mem_cons.1 h with rfl | h
   ·exact⟨t,List.mem_cons_self ..,by simp only[List.length_cons];omega,Or.inr ⟨rfl,rfl,rfl⟩⟩
   ·obtain⟨s,h1,h2,h3⟩:=termsL_mem h;exact⟨s,List.mem_cons_of_mem _ h1,by simp only[List.length_cons];omega,h3⟩
theorem blk_t {t:FV} {x:HL} (h:x.a=t.t.a/\x.n=t.t.n/\x.c=t.t.c\/x.a=t.l.a/\x.n=t.l.n/\x.c=t.l.c) {p:Addr} (hp:x.a=some p):FV.blk t p.block:=by
 rcases h with ⟨h,-⟩ | ⟨h,-⟩
 ·exact Or.inl ⟨p,h.symm.trans hp,rfl⟩
 ·exact Or.inr ⟨p,h.symm.trans hp,rfl⟩
theorem termsL_apart:∀ {ts:List TV} {q:Nat},(∀ t∈ts,Apart2 t.c.t.a t.c.l.a)->(ts.Pairwise fun t s=>FV.apart t.c s.c)->Aparts (termsL ts q)
 | [],_,_,_=>List.Pairwise.nil
 | t :: r,q,h,hp=>by
  obtain⟨h1,h2⟩:=List.pairwise_cons.1 hp;have hr:=termsL_apart (ts:=r) (q:=q+2) (fun s hs=>h s (List.mem_cons_of_mem _ hs)) h2
  have far:∀ y∈termsL r (q+2),∀ p:Addr,y.a=some p->¬FV.blk t.c p.block:=fun y hy p hp hb=>by
   obtain⟨s,hs,-,e⟩:=termsL_mem hy;exact h1 s hs _ hb (blk_t e hp)
  refine List.pairwise_cons.2 ⟨fun y hy p p2 e1 e2=>?_,List.pairwise_cons.2 ⟨fun y hy p p2 e1 e2 he=>?_,hr⟩⟩
  ·rcases List.mem_cons.1 hy with rfl | hy
   ·exact h t (List.mem_cons_self ..) p p2 e1 e2
   ·exact fun he=>far y hy p2 e2 (Or.inl ⟨p,e1,he⟩)
  ·exact far y hy p2 e2 (Or.inr ⟨p,e1,he⟩)
theorem terms_hg {w:World} {lo:Nat} {ts:List TV} {a:Option Addr} {n c:Nat} {q:Nat} {o:Nat->Value} (h:∀ t∈ts,TOwn w lo t.c) (hp:ts.Pairwise fun t s=>FV.apart t.c s.c) (hr:OwnT w lo a n c o) (hn:n<=100000000) (hq:q+2*ts.length<=30000) :
  HG w lo (Bw lo w.heap.size) (termsL ts q) [⟨a,n,c,q+2*ts.length⟩] where
 num x hx:=by
  obtain⟨t,ht,-,⟨e1,e2,e3⟩ | ⟨e1,e2,e3⟩⟩:=termsL_mem hx
  ·obtain⟨o,ho⟩:=(h t ht).top;exact⟨⟨o,by rw[e1,e2,e3];exact ho⟩,by rw[e2];exact(h t ht).n.1⟩
  ·obtain⟨o,ho⟩:=(h t ht).low;exact⟨⟨o,by rw[e1,e2,e3];exact ho⟩,by rw[e2];exact(h t ht).n.2⟩
 row x hx:=by rw[List.mem_singleton.1 hx];exact⟨⟨o,hr⟩,hn⟩
 at_ x hx p e:=by
  rcases List.mem_append.1 hx with hx | hx
  ·obtain⟨t,ht,-,⟨e1,e2,e3⟩ | ⟨e1,e2,e3⟩⟩:=termsL_mem hx
   ·obtain⟨o,ho⟩:=(h t ht).top;exact own_lt ho (e1.symm.trans e)
   ·obtain⟨o,ho⟩:=(h t ht).low;exact own_lt ho (e1.symm.trans e)
  ·rw[List.mem_singleton.1 hx] at e;exact ownT_lt hr e
 nq x hx:=by
  rcases List.mem_append.1 hx with hx | hx
  ·obtain⟨t,ht,hl,-⟩:=termsL_mem hx;omega
  ·rw[List.mem_singleton.1 hx];exact hq
 al:=termsL_apart (fun t ht=>(h t ht).ap) hp
 am:=List.pairwise_singleton _ _
theorem OT.ownT {w:World} {lo n c m:Nat} {a:Option Addr} {ts:List TV} (h:OT w lo (.slice a m c) ts) (hn:n<=m):∃ o,OwnT w lo a n c o:=by
 rcases h.2 with ⟨hv,h0⟩ | ⟨g,cap,cur,hv,hlo,hg,hnc,hcm,hcs,htake⟩
 ·injection hv with e1 e2 e3
  subst e1 e2 e3;exact⟨fun _=>.bool true,⟨by omega,Or.inl ⟨rfl,by omega,rfl⟩⟩⟩
 ·injection hv with e1 e2 e3
  subst e1 e2 e3;refine⟨fun i=>cur.getD i (.bool true),⟨by omega,Or.inr ⟨g,cur,rfl,hlo,hg,by omega,fun i hi=>?_⟩⟩⟩
  have hi2:i<cur.size:=by have:=Nat.mul_le_mul_right 8 (zm hn hnc);omega
  rw[Array.getElem?_eq_getElem hi2,Array.getD_eq_getD_getElem?,Array.getElem?_eq_getElem hi2];rfl
theorem DP.hg {w:World} {lo:Nat} {x:PV} {P:List Tm} (h:DP w lo x P) (hl:∀ t∈P,LQ t.2 900000) (hn:P.length<=10000) {q:Nat} (hq:q+2*P.length<=30000) :
  ∃ ts:List TV,RT w x.a ts/\ts.length=x.n/\x.n=P.length/\HG w lo (Bw lo w.heap.size) (termsL ts q) [⟨x.a,x.n,x.c,q+2*x.n⟩]:=by
 have hxn:=h.k.len;obtain⟨L,h1,h2,h3,h4⟩:=h.ex;obtain⟨xa,xn,xc⟩:=x;change xn=P.length at hxn;obtain⟨a',c',e,hc,hr⟩:=OT.slice h1;change Value.slice xa xn xc=_ at e
 injection e with e1 e2 e3
 subst e1 e3;obtain⟨o,ho⟩:=OT.ownT (n:=xn) h1 zj;refine⟨L.map Prod.fst,hr,e2.symm,hxn,?_⟩
 have hh:=terms_hg (q:=q) (fun t ht=>by
  obtain⟨e,he,rfl⟩:=List.mem_map.1 ht
  exact DF.town (h2 e he) (hl (e.1.m,e.2) (by rw[<- h4];exact List.mem_map.2 ⟨e,he,rfl⟩))) (List.pairwise_map.2 h3) ho (by omega) (by rw[<- e2];omega)
 rw[<- e2] at hh;exact hh
theorem TwP.hg {w0 w:World} {lo:Nat} {x:PV} {ts us:List TV} (h:TwP w0 w lo x ts us) (hs:∀ u∈us,u.c.t.n<=100000000/\u.c.l.n<=100000000) (hn:us.length<=10000) {q:Nat} (hq:q+2*us.length<=30000) :
  RT w x.a ts/\ts.length=x.n/\HG w lo (Bw lo w.heap.size) (termsL ts q) [⟨x.a,x.n,x.c,q+2*x.n⟩]:=by
 have hxn:=h.n;have hle:=h.len;obtain⟨xa,xn,xc⟩:=x;change xn=us.length at hxn;obtain⟨a',c',e,hc,hr⟩:=OT.slice h.row;change Value.slice xa (xn+1) xc=_ at e
 injection e with e1 e2 e3
 subst e1 e3;obtain⟨o,ho⟩:=OT.ownT (n:=xn) h.row (Nat.le_succ _);refine⟨⟨fun hne=>?_⟩,by show ts.length=xn;omega,?_⟩
 ·obtain⟨b,off,ha,hcc⟩:=hr.ex (by simp);exact⟨b,off,ha,fun i t hi=>hcc i t (by rw[List.getElem?_append_left (List.getElem?_eq_some_iff.1 hi).1];exact hi)⟩
 ·have hh:=terms_hg (q:=q) (fun t ht=>by
   obtain⟨i,hi⟩:=List.mem_iff_getElem?.1 ht;have hil:=(List.getElem?_eq_some_iff.1 hi).1;have hu:us[i]?=some us[i]:=List.getElem?_eq_getElem (by omega);obtain⟨-,o1,o2,-,-,hf⟩:=h.each i t _ hi hu;obtain⟨g1,g2⟩:=hs _ (List.mem_of_getElem? hu)
   exact TwF.town hf g1 g2) h.ap ho (by omega) (by omega)
  rw[show ts.length=xn by omega] at hh;exact hh
end Book
namespace Pol
open Go.RowKit Go.Sort Limb
theorem cell_keep {w w':World} {a:Addr} {v:Value} (h:w.cell? a=some v) (hb:Below w.heap.size w w'):w'.cell? a=some v:=(hb.cell (block_lt_of_cell h)).trans h
theorem NewT.below {w w':World} {lo b:Nat} {m:Mo} {q:Rat} (h:NewT w lo b m q) (hb:Below w.heap.size w w'):NewT w' lo b m q:=by
 obtain⟨y,h1,h2⟩:=h.ex;exact⟨y,h1.below hb h1.lt,h2.below hb⟩
def Bx8 (w:World) (b:Nat):Prop:=∃ v0 v1 v2 v3 v4 v5 v6 v7,Bxs w b 37 [v0,v1,v2,v3,v4,v5,v6,v7]
def GX (A:Nat) (Φ:World->Prop) (a b:World):Prop:=Only A a b/\(Bx8 a A->Bx8 b A)/\(Φ a->Φ b)
theorem GX.refl (A:Nat) (Φ:World->Prop) (w:World):GX A Φ w w:=⟨⟨rfl,rfl,rfl,zj,fun _ _ _=>rfl⟩,id,id⟩
theorem tup8 {c4 c5 c6 c7:Value} {x y:FV} (h:Value.tuple #[.agg #[.bool x.t.s,.slice x.t.a x.t.n x.t.c,.bool x.l.s,.slice x.l.a x.l.n x.l.c,c4,c5,c6,c7],.bool true]=.tuple #[.agg #[.bool y.t.s,.slice y.t.a y.t.n y.t.c,.bool y.l.s,.slice y.l.a y.l.n y.l.c,c4,c5,c6,c7],.bool true]):x=y:=FV.inj (by
 simp only[Value.tuple.injEq,Value.agg.injEq,Value.bool.injEq,Value.slice.injEq,Array.mk.injEq,List.cons.injEq] at h;obtain⟨⟨e1,⟨e2,e3,e4⟩,e5,⟨e6,e7,e8⟩,-⟩,-⟩:=h;show Value.agg #[.bool x.t.s,.slice x.t.a x.t.n x.t.c,.bool x.l.s,.slice x.l.a x.l.n x.l.c]=.agg #[.bool y.t.s,.slice y.t.a y.t.n y.t.c,.bool y.l.s,.slice y.l.a y.l.n y.l.c]
 rw[e1,e2,e3,e4,e5,e6,e7,e8])
theorem ER.get {w:World} {lo n c:Nat} {a:Option Addr} {L:List TE} (h:ER w lo (.slice a n c) L) {i:Nat} {e:TE} (hi:L[i]?=some e):∃ b o,a=some ⟨b,o,none⟩/\RE w b o i e.1:=by
 obtain⟨a2,c2,e2,-,hr⟩:=OT.slice h.row
 obtain rfl:a=a2:=by injection e2
 obtain⟨b,o,ha,hc⟩:=hr.one (fun h0=>by rw[List.map_eq_nil_iff.1 h0] at hi;simp at hi);exact⟨b,o,ha,hc i e.1 (by rw[List.getElem?_map,hi];rfl)⟩
theorem row_rows {w:World} {g n:Nat} {f:Nat->Value} (h:w.rowIs g 23 n f) (i:Nat) (v:Value):∀ (b:Nat) (c:Array Value) (T:TypeId),w.heap[b]?=some (.cells c T (0,0))->(T==37 || T==128)=true->(w.setCell ⟨g,i,none⟩ v).heap[b]?=w.heap[b]?:=fun b c T hb hT =>
 Below.heap_setCell _ _ _ _ fun e=>by
  have e:b=g:=e;subst e;obtain⟨cur,h2,-⟩:=h;rw[hb] at h2
  have:T=23:=by injection h2 with h2;injection h2
  subst this;exact absurd hT (by decide)
end Pol
namespace Book
open Go.RowKit Go.Sort Go.FreshG Limb Pol
abbrev book0:Array Value:=#[.int .i64 0,.slice none 0 0,.slice none 0 0,.slice none 0 0,.slice none 0 0,.slice none 0 0,.slice none 0 0,.slice none 0 0,.slice none 0 0,.slice none 0 0,.slice none 0 0,.slice none 0 0,.slice none 0 0]
theorem BkS.new (w:World):BkS (w.alloc (.cells book0 59)) w.heap.size w.heap.size 0 [] []:=by
 refine⟨⟨.slice none 0 0,.slice none 0 0,⟨?_,World.ownsRow_nil _ _ _ _,World.ownsRow_nil _ _ _ _,(fun h=>by cases h),(fun h=>by cases h),fun g h=>by cases h⟩,fun _=>rfl,fun _=>rfl⟩,zj,by rw[World.size_alloc];exact Nat.le_succ _⟩
 refine World.rowIs_alloc w _ 59 _ fun i hi=>?_
 have:i=0\/i=1\/i=2\/i=3\/i=4\/i=5\/i=6\/i=7\/i=8\/i=9\/i=10\/i=11\/i=12:=by
  have:i<13:=hi;omega
 rcases this with rfl | rfl | rfl | rfl | rfl | rfl | rfl | rfl | rfl | rfl | rfl | rfl | rfl <;> rfl
theorem RT.keepB {base:Nat} {w w':World} {a:Option Addr} {ts:List TV} (h:RT w a ts) (hk:KeepB base w w') (hf:∀ p,a=some p->p.block<base):RT w' a ts:=by
 refine⟨fun hn=>?_⟩;obtain⟨b,off,ha,hc⟩:=h.ex hn;exact⟨b,off,ha,fun i t hi j v hj=>(World.cell?_of_block (a:=⟨b,off+i*8+j,none⟩) (hk.bel.block b (hf _ ha))).trans (hc i t hi j v hj)⟩
theorem HG.keepB {base:Nat} {w w':World} {lo:Nat} {S:Nat->Prop} {L M:List HL} (h:HG w lo S L M) (hk:KeepB base w w') (hS:∀ b,S b->b<base):HG w' lo S L M:=h.keep fun b hb=>hk.bel.block b (hS b hb)
structure PG (w:World) (x:PV) (q:Nat) (ts:List TV) (lo hi:Nat) (S:Nat->Prop):Prop where
 rt:RT w x.a ts
 len:ts.length=x.n
 hg:HG w lo S (termsL ts q) [⟨x.a,x.n,x.c,q+2*x.n⟩]
 at_:∀ b,S b->b<hi
theorem PG.far {w:World} {x:PV} {q:Nat} {ts:List TV} {lo hi:Nat} {S:Nat->Prop} (h:PG w x q ts lo hi S):∀ p,x.a=some p->p.block<hi:=fun p hp=>h.at_ _ (h.hg.at_ ⟨x.a,x.n,x.c,q+2*x.n⟩ (by simp) p hp)
theorem PG.below {w w':World} {x:PV} {q:Nat} {ts:List TV} {lo hi:Nat} {S:Nat->Prop} (h:PG w x q ts lo hi S) (hb:Below w.heap.size w w') (hh:hi<=w.heap.size):PG w' x q ts lo hi S :=
 ⟨h.rt.below hb,h.len,h.hg.keep fun b hS=>hb.block b (Nat.lt_of_lt_of_le (h.at_ b hS) hh),h.at_⟩
structure BG (w:World) (b base q lo hi l m:Nat):Prop where
 ex:∃ L M,L.length=l/\M.length=m/\BkS w b base q L M/\HG w lo (Bw lo hi) L M
 lq:l+m=q
 h1:lo<=hi
 h2:hi<=base
def BGs (b base q lo hi l m:Nat) (w:World) (e:Ending) (w':World):Prop:=(∃ r,e=.returned r)/\BG w' b base q lo hi l m/\KeepB base w w'
theorem BG.new (w:World) {lo:Nat} (h:lo<=w.heap.size):BG (w.alloc (.cells book0 59)) w.heap.size w.heap.size 0 lo lo 0 0 :=
 ⟨⟨[],[],rfl,rfl,BkS.new w,HG.nil _ _ _⟩,rfl,zj,h⟩
theorem BG.step {w w':World} {b base q q' lo hi lo' hi':Nat} {L M L2 M2:List HL} {e:Ending} (hG:HG w lo (Bw lo hi) L M) (g:HG w lo' (Bw lo' hi') L2 M2) (lq:L.length+M.length=q) (h1:lo<=hi) (h2:hi<=lo') (h3:lo'<=hi') (h4:hi'<=base) (hq:L2.length+M2.length+q=q') (h:KeptS b base q' (L++L2) (M++M2) w e w') :
  BGs b base q' lo hi' (L.length+L2.length) (M.length+M2.length) w e w' :=
 ⟨h.1,⟨⟨L++L2,M++M2,List.length_append,List.length_append,h.2.1,(hG.app (g.mono (zm h1 h2)) (fun b hb=>⟨hb.1,by have:=hb.2;omega⟩) (fun b hb=>⟨by have:=hb.1;omega,hb.2⟩) (fun b hb hc=>by have:=hb.2;have:=hc.1;omega)).keepB h.2.2 fun b hb=>Nat.lt_of_lt_of_le hb.2 h4⟩,by omega,by omega,h4⟩,h.2.2⟩
theorem BG.poly {w:World} {b base q lo hi l m:Nat} (h:BG w b base q lo hi l m) {x:PV} {ts:List TV} {lo' hi':Nat} (g:PG w x q ts lo' hi' (Bw lo' hi')) (h2:hi<=lo') (h3:lo'<=hi') (h4:hi'<=base) (hq:q+2*x.n<=29990) :
  Calls Tryz.prog 17 #[.pointer (some ⟨b,0,none⟩),x.v] w (BGs b base (q+2*x.n+1) lo hi' (l+2*x.n) (m+1) w):=by
 obtain⟨L,M,rfl,rfl,hs,hg⟩:=h.ex;have hl:=h.lq
 refine(hs.poly x ts g.rt g.len (fun p hp=>Nat.lt_of_lt_of_le (g.far p hp) h4) (by omega) (by omega) (by omega)).mono fun e w' hk=>?_
 have h5:=BG.step hg g.hg hl h.h1 h2 h3 h4 (q':=q+2*x.n+1) (by rw[termsL_len,g.len];simp;omega) hk;rw[termsL_len,g.len] at h5;exact h5
structure FG (w:World) (x:FV) (q lo hi:Nat):Prop where
 hg:HG w lo (Bw lo hi) [⟨x.t.a,x.t.n,x.t.c,q⟩,⟨x.l.a,x.l.n,x.l.c,q+1⟩] []
theorem FG.keepB {base:Nat} {w w':World} {x:FV} {q lo hi:Nat} (h:FG w x q lo hi) (hk:KeepB base w w') (hh:hi<=base):FG w' x q lo hi:=⟨h.hg.keepB hk fun b hb=>Nat.lt_of_lt_of_le hb.2 hh⟩
theorem FG.below {w w':World} {x:FV} {q lo hi:Nat} (h:FG w x q lo hi) (hb:Below w.heap.size w w') (hh:hi<=w.heap.size):FG w' x q lo hi:=⟨h.hg.keep fun b hS=>hb.block b (Nat.lt_of_lt_of_le hS.2 hh)⟩
theorem TOwn.fg {w:World} {lo:Nat} {t:FV} (h:TOwn w lo t) {q:Nat} (hq:q+1<=30000):FG w t q lo w.heap.size:=⟨h.hg hq⟩
theorem fracL_eq (L:List HL) (q:Nat) (x:FV):fracL L q x.t.a x.t.n x.t.c x.l.a x.l.n x.l.c=L++[⟨x.t.a,x.t.n,x.t.c,q⟩,⟨x.l.a,x.l.n,x.l.c,q+1⟩]:=by
 unfold fracL;rw[List.append_assoc];rfl
theorem BG.apart {w:World} {b base q lo hi l m:Nat} (h:BG w b base q lo hi l m) (h0:0<l) (h1:0<m) (hq:q<=30000) :
  Calls Tryz.prog 20 #[.pointer (some ⟨b,0,none⟩)] w fun e w'=>e=.returned (.bool true)/\Below lo w w':=by
 obtain⟨L,M,rfl,rfl,hs,hg⟩:=h.ex;have hl:=h.lq;exact hs.apartG hg h0 h1 (by omega) (by omega) (fun b hb=>⟨hb.1,Nat.lt_of_lt_of_le hb.2 h.h2⟩) (zm h.h1 h.h2)
theorem Tw2.pg {w0 w:World} {lo:Nat} {y x:PV} (h:Tw2 w0 w lo y x) (hn:x.n<=10000) {q:Nat} (hq:q+2*x.n<=30000):∃ ts,PG w y q ts lo w.heap.size (Bw lo w.heap.size):=by
 obtain⟨ts,us,h1,h2,h3,h4⟩:=h;obtain⟨g1,g2,g3⟩:=TwP.hg h1 h4 (by omega) (q:=q) (by omega);exact⟨ts,g1,g2,g3,fun b hb=>hb.2⟩
structure GP (w:World) (x:PV) (q lo hi:Nat):Prop where
 ex:∃ ts,PG w x q ts lo hi (Bw lo hi)
 le:hi<=w.heap.size
 lh:lo<=hi
theorem GP.below {w w':World} {x:PV} {q lo hi:Nat} (h:GP w x q lo hi) (hb:Below w.heap.size w w'):GP w' x q lo hi:=by
 obtain⟨ts,g⟩:=h.ex;exact⟨⟨ts,g.below hb h.le⟩,zm h.le hb.size,h.lh⟩
structure GF (w:World) (x:FV) (q lo hi:Nat):Prop where
 ex:FG w x q lo hi
 le:hi<=w.heap.size
 lh:lo<=hi
theorem GF.below {w w':World} {x:FV} {q lo hi:Nat} (h:GF w x q lo hi) (hb:Below w.heap.size w w'):GF w' x q lo hi:=⟨h.ex.below hb h.le,zm h.le hb.size,h.lh⟩
theorem GF.keepB {base:Nat} {w w':World} {x:FV} {q lo hi:Nat} (h:GF w x q lo hi) (hk:KeepB base w w') (hh:hi<=base):GF w' x q lo hi:=⟨h.ex.keepB hk hh,zm h.le hk.bel.size,h.lh⟩
theorem Tw2.gp {w0 w:World} {lo:Nat} {y x:PV} (h:Tw2 w0 w lo y x) (hn:x.n<=10000) (hw:lo<=w.heap.size) {q:Nat} (hq:q+2*x.n<=30000):GP w y q lo w.heap.size:=⟨Tw2.pg h hn hq,zj,hw⟩
theorem TOwn.gf {w:World} {lo:Nat} {t:FV} (h:TOwn w lo t) (hw:lo<=w.heap.size) {q:Nat} (hq:q+1<=30000):GF w t q lo w.heap.size:=⟨h.fg hq,zj,hw⟩
theorem BG.polyP {w:World} {b base q lo hi l m:Nat} (h:BG w b base q lo hi l m) {x:PV} {lo' hi':Nat} (g:GP w x q lo' hi') (h2:hi<=lo') (h4:hi'<=base) (hq:q+2*x.n<=29990) :
  Calls Tryz.prog 17 #[.pointer (some ⟨b,0,none⟩),x.v] w (BGs b base (q+2*x.n+1) lo hi' (l+2*x.n) (m+1) w):=by
 obtain⟨ts,g1⟩:=g.ex;exact h.poly g1 h2 g.lh h4 hq
theorem BG.apartA {w:World} {b base q lo hi l m:Nat} (h:BG w b base q lo hi l m) (h1:0<m) (hq:q<=30000) :
  Calls Tryz.prog 20 #[.pointer (some ⟨b,0,none⟩)] w fun e w'=>e=.returned (.bool true)/\Below lo w w':=by
 by_cases h0:0<l
 ·exact h.apart h0 h1 hq
 ·classical
  obtain⟨L,M,rfl,rfl,hs,hg⟩:=h.ex;have hl:=h.lq;obtain rfl:L=[]:=List.length_eq_zero_iff.1 (by omega)
  have hT:∀ x:HL,∃ o,x∈M->OwnT w lo x.a x.n x.c o:=fun x=>by
   by_cases hx:x∈M
   ·obtain⟨o,ho⟩:=(hg.row x hx).1;exact⟨o,fun _=>ho⟩
   ·exact⟨fun _=>.bool true,fun h=>absurd h hx⟩
  obtain⟨Ot,hT⟩:=Classical.axiomOfChoice hT
  exact hs.apart0 h1 (by omega) (fun x hx=>hg.nq x (List.mem_append_right _ hx)) Ot hT (fun x hx=>(hg.row x hx).2) (fun x hx p hp=>by
   have h9:=hg.at_ x (List.mem_append_right _ hx) p hp
   exact⟨h9.1,Nat.lt_of_lt_of_le h9.2 h.h2⟩) (zm h.h1 h.h2) hg.am
theorem BG.termP {w:World} {b base q lo hi l m:Nat} (h:BG w b base q lo hi l m) {x:FV} {mo:Mo} {lo' hi':Nat} (g:GF w x q lo' hi') (h2:hi<=lo') (h4:hi'<=base) (hq:q+2<=29990) :
  Calls Tryz.prog 18 #[.pointer (some ⟨b,0,none⟩),TV.v ⟨x,mo⟩] w (BGs b base (q+2) lo hi' (l+2) m w):=by
 obtain⟨L,M,rfl,rfl,hs,hg⟩:=h.ex;have hl:=h.lq
 refine(hs.term (by omega) (by omega) ⟨x,mo⟩).mono fun e w' hk=>?_
 rw[fracL_eq] at hk;exact BG.step (M2:=[]) hg g.ex.hg hl h.h1 h2 g.lh h4 (q':=q+2) (by simp;omega) (by rw[List.append_nil];exact hk)
end Book
end Go.Proofs.YthacfgmdihcffaaGreatDoor
