/-
  The walk of reckonerref04.Lead.
-/
import Derived.Test.YtjcmanikkcfnmaaGreatDmO
import Derived.WalkMore
import Derived.OwnWalk
set_option linter.unusedSimpArgs false
set_option linter.unusedVariables false
set_option maxHeartbeats 16000000
set_option maxRecDepth 100000
namespace Go.Proofs.YtjcmanikkcfnmaaGreat.Pol
open Go.RowKit Go.Sort Go.Proofs.YtjcmanikkcfnmaaGreat.Limb
open Classical in
noncomputable def leastM {α:Type} (R:α→Prop) (μ:α→Nat):Nat:=if h:∃ m,(∃ s,R s∧μ s=m)∧∀ s,R s→m≤μ s then Classical.choose h else 0
theorem least_ex {α:Type} (R:α→Prop) (μ:α→Nat):∀ n s,R s→μ s=n→∃ m,(∃ s,R s∧μ s=m)∧∀ s,R s→m≤μ s:=by
 intro n
 induction n using Nat.strongRecOn with
 | ind n ih =>
  intro s hs h
  by_cases hl:∃ s',R s'∧μ s' < n
  ·obtain⟨s',h1,h2⟩:=hl;exact ih _ h2 s' h1 rfl
  ·exact⟨n,⟨s,hs,h⟩,fun s' h'=>Nat.le_of_not_lt fun hlt=>hl ⟨s',h',hlt⟩⟩
theorem least_at {α:Type} {R:α→Prop} {μ:α→Nat} (h:∃ s,R s):∃ s,R s∧μ s=leastM R μ:=by
 obtain⟨s,hs⟩:=h;have hx:=least_ex R μ _ s hs rfl;have h2:leastM R μ=Classical.choose hx:=dif_pos hx;rw[h2];exact(Classical.choose_spec hx).1
theorem least_le {α:Type} {R:α→Prop} {μ:α→Nat} {s:α} (h:R s):leastM R μ≤μ s:=by
 have hx:=least_ex R μ _ s h rfl;have h2:leastM R μ=Classical.choose hx:=dif_pos hx;rw[h2];exact(Classical.choose_spec hx).2 s h
def PP (w0 w:World) (lo:Nat) (x:PV) (P:List Tm):Prop:=KP w0 x P∨DP w lo x P
theorem PP.k {w0 w:World} {lo:Nat} {x:PV} {P:List Tm} (h:PP w0 w lo x P) (hb:Below w0.heap.size w0 w):KP w x P:=h.elim (fun h=>h.below hb) (fun h=>h.k)
theorem PP.below {w0 w w':World} {lo:Nat} {x:PV} {P:List Tm} (h:PP w0 w lo x P) (hb:Below w.heap.size w w'):PP w0 w' lo x P:=h.imp id fun h=>h.below hb
theorem PP.canon {w0 w:World} {lo:Nat} {x:PV} {P:List Tm} (h:PP w0 w lo x P):Canon P:=h.elim (fun h=>h.canon) (fun h=>h.canon)
theorem PP.small {w0 w:World} {lo:Nat} {x:PV} {P:List Tm} (h:PP w0 w lo x P):∀ t∈P,t.1.Small:=h.elim (fun h=>h.small) (fun h=>h.small)
theorem PP.rows {w0 w w':World} {lo:Nat} {x:PV} {P:List Tm} (h:PP w0 w lo x P) (hs:∀ (b:Nat) (c:Array Value) (T:TypeId),w.heap[b]?=some (.cells c T (0,0))→rowT T=true→w'.heap[b]?=w.heap[b]?):PP w0 w' lo x P:=h.imp id fun h=>h.rows hs
theorem OD.slice {w:World} {lo:Nat} {v:Value} {bs:List Nat} (h:OD w lo v bs):∃ a c,v=.slice a bs.length c∧∀ i b,bs[i]?=some b→∃ g,a=some ⟨g,0,none⟩∧w.cell? ⟨g,i,none⟩=some (ptr b):=by
 rcases h.2 with ⟨hv,h0⟩ | ⟨g,cap,cur,hv,hnc,_,hg,_,hcs,htake⟩
 ·have hz:bs=[]:=List.length_eq_zero_iff.1 h0;subst hz;exact⟨none,0,hv,fun i b hi=>by simp at hi⟩
 ·refine⟨some ⟨g,0,none⟩,cap,hv,fun i b hi=>⟨g,rfl,?_⟩⟩;have hil:=(List.getElem?_eq_some_iff.1 hi).1;rw[cell_of_row _ _ _ _ _ _ ‹_›]
  have h1:(bs.map ptr)[i]?=some (ptr b):=by rw[List.getElem?_map,hi];rfl
  rw[← htake,List.getElem?_take,if_pos (by omega),Array.getElem?_toList] at h1;exact h1
theorem OD.mono {w:World} {lo lo':Nat} {v:Value} {bs:List Nat} (h:OD w lo v bs) (hl:lo'≤lo):OD w lo' v bs:=by
 refine⟨h.1,h.2.imp id ?_⟩;rintro⟨g,cap,cur,hv,hlo,h3⟩;exact⟨g,cap,cur,hv,by omega,h3⟩
theorem set_rows {w:World} {b:Nat} {l:List Value} (hb:Bxs w b 58 l) (i:Nat) (v:Value):∀ (g:Nat) (c:Array Value) (T:TypeId),w.heap[g]?=some (.cells c T (0,0))→rowT T=true→(w.setCell ⟨b,i,none⟩ v).heap[g]?=w.heap[g]?:=fun g c T hg hT =>
 Below.heap_setCell _ _ _ _ fun e=>by
  have e:g=b:=e;subst e;have h2:w.heap[g]?=some (.cells l.toArray 58 (0,0)):=hb;rw[hg] at h2
  have:T=58:=by injection h2 with h2;injection h2
  subst this;exact absurd hT (by decide)
theorem DVS.store {w0 w:World} {lo:Nat} {v:Value} {es:List DvE} (h:DVS w0 w lo v es) {i:Nat} {e:DvE} (hi:es[i]?=some e) {z:PV} {O:List Tm} (hz:DP w lo z O) :
  DVS w0 (w.setCell ⟨e.1.b,9,none⟩ z.v) lo v (es.set i (⟨e.1.b,e.1.y,e.1.x,z⟩,e.2.1,O)):=by
 have he:=h.ok e (List.mem_of_getElem? hi);have hs:=set_rows he.bx 9 z.v;have hil:=(List.getElem?_eq_some_iff.1 hi).1
 have hbs:(es.set i ((⟨e.1.b,e.1.y,e.1.x,z⟩:DvR),e.2.1,O)).map (fun e=>e.1.b)=es.map fun e=>e.1.b:=by
  rw[List.map_set]
  refine List.ext_getElem? fun j=>?_
  rw[List.getElem?_set]
  split
  ·rename_i hij
   subst hij;rw[if_pos (by rw[List.length_map];exact hil),List.getElem?_map,hi]
   rfl
  ·rfl
 refine⟨?_,fun d hd=>?_,by rw[hbs];exact h.ap⟩
 ·rw[hbs];refine⟨h.row.1,h.row.2.imp id ?_⟩;rintro⟨g,cap,cur,hv,hlo,hg,h3⟩;refine⟨g,cap,cur,hv,hlo,(Below.heap_setCell _ _ _ _ fun e1=>?_).trans hg,h3⟩;have e1:g=e.1.b:=e1;have h2:w.heap[e.1.b]?=some (.cells _ 58 (0,0)):=he.bx;rw[← e1,hg] at h2
  injection h2 with h2
  injection h2 with _ h2
  exact absurd h2 (by decide)
 ·obtain⟨j,hj⟩:=List.mem_iff_getElem?.1 hd;rw[List.getElem?_set] at hj
  split at hj
  ·try rw[if_pos hil] at hj
   obtain rfl:_=d:=Option.some.inj hj;exact⟨he.ge,he.bx.put 9 _,he.le.kept fun b hb=>let ⟨_,h5⟩:=DF.blkc he.le hb;hs b _ _ h5 rfl,he.all,hz.rows hs⟩
  ·rename_i hij
   have hdm:=List.mem_of_getElem? hj;have hdo:=h.ok d hdm
   have hne:d.1.b≠e.1.b:=fun e1=>hij (by
    have h1:(es.map fun e=>e.1.b)[j]?=some d.1.b:=by rw[List.getElem?_map,hj];rfl
    have h2:(es.map fun e=>e.1.b)[i]?=some d.1.b:=by rw[List.getElem?_map,hi,e1];rfl
    have hjl:=(List.getElem?_eq_some_iff.1 h1).1;have hil':=(List.getElem?_eq_some_iff.1 h2).1;rw[List.getElem?_eq_getElem hjl] at h1;rw[List.getElem?_eq_getElem hil'] at h2
    exact(List.nodup_iff_pairwise_ne.1 h.ap |> fun hp=>by
     refine Classical.byContradiction fun hne=>?_
     rcases Nat.lt_or_gt_of_ne hne with hlt | hlt
     ·exact(List.pairwise_iff_getElem.1 hp _ _ hil' hjl hlt) ((Option.some.inj h2).trans (Option.some.inj h1).symm)
     ·exact(List.pairwise_iff_getElem.1 hp _ _ hjl hil' hlt) ((Option.some.inj h1).trans (Option.some.inj h2).symm)))
   exact⟨hdo.ge,hdo.bx.other hne _,hdo.le.kept fun b hb=>let ⟨_,h5⟩:=DF.blkc hdo.le hb;hs b _ _ h5 rfl,hdo.all,hdo.of.rows hs⟩
theorem ds_eq {o:Int}:∀ {l1 l2:List Dv},l1.map Prod.snd=l2.map Prod.snd→(∀ d∈l1,Lead (keyO o) d.2 d.1)→(∀ d∈l2,Lead (keyO o) d.2 d.1)→(∀ d∈l1,Canon d.2∧∀ t∈d.2,t.1.Small)→l1=l2
 | [],[],_,_,_,_=>rfl
 | [],_ :: _,h,_,_,_=>by simp at h
 | _ :: _,[],h,_,_,_=>by simp at h
 | (a,A) :: l1,(b,B) :: l2,h,h1,h2,h3=>by
  rw[List.map_cons,List.map_cons,List.cons.injEq] at h;obtain⟨e,h⟩:=h;have e:A=B:=e;subst e;obtain⟨hc,hs⟩:=h3 _ (List.mem_cons_self ..);have:=lead_uniq (keyO_key o) hc (fun t ht=>⟨(hs t ht).1,(hs t ht).2.1,(hs t ht).2.2.1,(hs t ht).2.2.2⟩) (h1 (a,A) (List.mem_cons_self ..)) (h2 (b,A) (List.mem_cons_self ..));have this:a=b:=this;subst this;rw[ds_eq h (fun d hd=>h1 d (List.mem_cons_of_mem _ hd)) (fun d hd=>h2 d (List.mem_cons_of_mem _ hd)) fun d hd=>h3 d (List.mem_cons_of_mem _ hd)]
theorem map_set_same {α β:Type} (f:α→β) {l:List α} {j:Nat} {a b:α} (h:l[j]?=some a) (hf:f b=f a):(l.set j b).map f=l.map f:=by
 refine List.ext_getElem? fun i=>?_
 rw[List.getElem?_map,List.getElem?_map,List.getElem?_set]
 by_cases hij:j=i
 ·subst hij;rw[if_pos rfl,if_pos (List.getElem?_eq_some_iff.1 h).1,h,Option.map_some,Option.map_some,hf]
 ·rw[if_neg hij]
theorem map_set_mod {α β:Type} (f:α→β) (g:β→β) {l:List α} {j:Nat} {a b:α} (h:l[j]?=some a) (hf:f b=g (f a)):(l.set j b).map f=(l.map f).modify j g:=by
 refine List.ext_getElem? fun i=>?_
 rw[List.getElem?_map,List.getElem?_set,List.getElem?_modify,List.getElem?_map]
 by_cases hij:j=i
 ·subst hij;rw[if_pos rfl,if_pos (List.getElem?_eq_some_iff.1 h).1,h,Option.map_some,Option.map_some,hf];simp
 ·rw[if_neg hij];simp[hij]
structure DivP (o:Int) (ds:List Dv) (Inv:DS→Prop) (μ:DS→Nat) (k kd nd n:Nat):Prop where
 lq:∀ s,Inv s→(∀ t∈s.p,LQ t.2 k)∧(∀ t∈s.r,LQ t.2 k)∧∀ q∈s.os,∀ t∈q,LQ t.2 k
 len:∀ s,Inv s→s.p.length≤n∧s.r.length≤n∧∀ q∈s.os,q.length≤n
 step:∀ s s',Inv s→Canon s.p→Canon s.r→(∀ q∈s.os,Canon q)→(∀ t∈s'.p,t.1.Small)→Step (keyO o) ds s s'→Inv s'∧μ s' < μ s
 dl:∀ d∈ds,(∀ t∈d.2,LQ t.2 kd)∧d.2.length≤nd∧Lead (keyO o) d.2 d.1
 hk:2*(k+2*kd+1)+8≤800000
 hkk:nd*(k+2*kd+5)≤900000
 hn:n≤400000
 hnd:nd≤100000
structure DivI (w0:World) (va:Value) (ds:List Dv) (Inv:DS→Prop) (pv rv:Value) (wr:World) (s:DS):Prop where
 ex:∃ (p r:PV) (es:List DvE),pv=p.v∧rv=r.v∧PP w0 wr w0.heap.size p s.p∧DP wr w0.heap.size r s.r∧DVS w0 wr w0.heap.size va es∧es.map (fun e=>e.2.1)=ds∧es.map (fun e=>e.2.2)=s.os
 inv:Inv s
 bel:Below w0.heap.size w0 wr
abbrev OQ (w:World) (lo:Nat) (v:Value) (Zs:List PV):Prop:=w.ownsRow lo 35 1 v Zs.length (Zs.map PV.v)
def DivR (w:World) (o:Int) (ds:List Dv) (Inv:DS→Prop) (e:Ending) (w':World):Prop :=
 (∃ (v:Value) (zs:List PV) (r:PV) (s:DS),e=.returned (.tuple #[v,r.v,.int .i64 0])∧OQ w' w.heap.size v zs∧zs.length=s.os.length∧(∀ (i:Nat) (z:PV) (q:List Tm),zs[i]?=some z→s.os[i]?=some q→DP w' w.heap.size z q)∧DP w' w.heap.size r s.r∧Inv s∧s.p=[]∧Below w.heap.size w w') ∨
 ∃ (s:DS) (t:Tm) (i:Nat) (d:Dv),e=.returned (.tuple #[.slice none 0 0,.slice none 0 0,.int .i64 3])∧Inv s∧Lead (keyO o) s.p t∧Takes ds t.1 i d∧Ovf d.2 [byT t d.1]∧Below w.heap.size w w'
theorem infoPq:(Tryz.prog.info? 35).map (fun i=>(i.zero,i.size,i.bytes))=some (some (.slice none 0 0),1,24):=by kernel_rfl
theorem OQ.own {w:World} {lo:Nat} {v:Value} {Zs:List PV} (h:OQ w lo v Zs) {k:Nat} (hk:some k=v.ownBlock):lo≤k∧∃ cur,w.heap[k]?=some (.cells cur 35 (0,0)):=by
 rcases h.2 with ⟨hv,_⟩ | ⟨g,cap,cur,hv,hlo,hg,_⟩
 ·rw[hv] at hk;cases hk
 ·rw[hv] at hk;have hk:some k=some g:=hk
  cases hk
  exact⟨hlo,cur,hg⟩
theorem OQ.other {w w':World} {lo:Nat} {v:Value} {Zs:List PV} (h:OQ w lo v Zs) (hg:w.grownBy w' v.ownBlock):∀ (b:Nat) (c:Array Value) (T:TypeId),w.heap[b]?=some (.cells c T (0,0))→(rowT T || T==58 || T==52)=true→w'.heap[b]?=w.heap[b]?:=fun b c T hb hT =>
 hg.block b (lt_of_block hb) fun e=>by
  obtain⟨_,c2,h5⟩:=h.own e;rw[hb] at h5
  have:T=35:=by injection h5 with h5;injection h5
  subst this;exact absurd hT (by decide)
theorem DVS.kept {w0 w w':World} {lo:Nat} {v:Value} {es:List DvE} (h:DVS w0 w lo v es) (hk:∀ (b:Nat) (c:Array Value) (T:TypeId),w.heap[b]?=some (.cells c T (0,0))→(rowT T || T==58 || T==52)=true→w'.heap[b]?=w.heap[b]?):DVS w0 w' lo v es:=by
 refine⟨⟨h.row.1,h.row.2.imp id ?_⟩,fun e he=>(h.ok e he).kept fun b c T hg hT=>hk b c T hg (by rw[hT];rfl),h.ap⟩;rintro⟨g,cap,cur,hv,hlo,hg,h3⟩;exact⟨g,cap,cur,hv,hlo,(hk g cur _ hg rfl).trans hg,h3⟩
theorem single_dp {V:World} {lo:Nat} {y:FV} {m:Mo} {q:Rat} (h:DF V lo y q) (hlo:lo≤V.heap.size) (hm:m.Small) (h0:q≠0):DP (V.alloc (.cells (TV.cells ⟨y,m⟩).toArray 32)) lo ⟨some ⟨V.heap.size,0,none⟩,1,1⟩ [(m,q)]:=by
 have hal:Below V.heap.size V (V.alloc (.cells (TV.cells ⟨y,m⟩).toArray 32)):=(Below.refl _ _).alloc (Nat.le_refl _) _;refine⟨⟨[(⟨y,m⟩,q)],?_,fun e he=>?_,List.pairwise_singleton _ _,rfl⟩,canon_single h0,fun t ht=>?_⟩
 ·show World.ownsRow _ _ _ _ _ _ _;exact World.ownsRow_lit (base:=lo) (e:=32) (size:=8) V (TV.cells ⟨y,m⟩).toArray 1 hlo (by decide) rfl
 ·rw[List.mem_singleton.1 he];exact h.below hal
 ·rw[List.mem_singleton.1 ht];exact hm
theorem off_pb {D:List Tm} {u:Tm} {kd ku nd:Nat} (hD:Canon D) (hu:u.2≠0) (h1:∀ t∈D,LQ t.2 kd) (hl:D.length≤nd) (h2:LQ u.2 ku) (hs:∀ t∈mulP D [u],t.1.Small):PB (mulP D [u]) nd (kd+ku+1) 65535:=by
 have hb1:PB [u] 1 ku 65535∨True:=Or.inr trivial;refine⟨?_,fun t ht=>?_,fun t ht=>hs t ht⟩
 ·unfold mulP;refine Nat.le_trans (nf_length _) ?_;rw[mulL_length,List.length_singleton,Nat.mul_one];exact hl
 ·have hc:=(mulP_canon D [u]).cf_mem ht;obtain⟨s,hs',e⟩:=mulP_mo ht;rw[cf_mulP1 D u e,hD.cf_mem hs'] at hc;rw[← hc];exact((h1 s hs').ls.mul h2.ls).lq (by omega) (by omega)
theorem divide_k (o:Int) (p:PV) (P:List Tm) (a:Option Addr) (c:Nat) (qs:List (PV × List Tm)) (ds:List Dv) (Inv:DS→Prop) (μ:DS→Nat) (k kd nd n:Nat) (w:World) (ho:o≤2) (hp:KP w p P) (hr:RS w a (qs.map Prod.fst)) (hq:∀ q∈qs,KP w q.1 q.2)
  (hds:ds.map Prod.snd=qs.map Prod.snd) (hP:DivP o ds Inv μ k kd nd n) (h0:Inv ⟨P,[],List.replicate ds.length []⟩) (hn:qs.length≤1000) :
  Calls Tryz.prog 5 #[.int .u8 o,p.v,.slice a qs.length c] w (DivR w o ds Inv):=by
 have hk:=hP.hk;have hkk:=hP.hkk;have hn4:=hP.hn;have hnd:=hP.hnd
 have hdq:∀ q∈qs,(∀ t∈q.2,LQ t.2 kd)∧q.2.length≤nd∧q.2≠[]:=fun q hqm=>by
  have h1:q.2∈ds.map Prod.snd:=by rw[hds];exact List.mem_map_of_mem hqm
  obtain⟨d,hd,e⟩:=List.mem_map.1 h1;obtain⟨g1,g2,g3⟩:=hP.dl d hd;rw[← e];exact⟨g1,g2,fun e=>by have:=g3.1;rw[e] at this;cases this⟩
 have hlen:=hP.len _ h0;have hlq:=hP.lq _ h0;have HP0:=qh hp;have CK:=qh (check_k hp (fun t ht=>(hlq.1 t ht).up (by omega)) (by rw[hp.len];have:=hlen.1;show P.length≤_;change P.length≤n at this;omega))
 have CN:=qh (fun (w1:World) (hb:Below w.heap.size w w1)=>con_l a c (qs.map Prod.fst) qs.length w1 (hr.below hb) (by rw[List.length_map];exact hn) (by rw[List.length_map];exact Nat.le_refl _)
  (fun i x hi hx w2 hb2=>by
   rw[List.getElem?_map] at hx;obtain⟨q,hq1,rfl⟩:=Option.map_eq_some_iff.1 hx;have hm:=List.mem_of_getElem? hq1;obtain⟨g1,g2,_⟩:=hdq q hm;have hkq:=((hq q hm).below hb).below hb2
   exact check_k hkq (fun t ht=>(g1 t ht).up (by omega)) (by rw[hkq.len];omega))
  (fun x hx=>by
   have:=(List.getElem?_eq_some_iff.1 hx).1;rw[List.length_map] at this
   omega))
 have DS0:=qh (fun (w1:World) (hb:Below w.heap.size w w1)=>divisors_ok o a c qs w1 (hr.below hb) hn fun q hm=>by
  obtain⟨g1,g2,g3⟩:=hdq q hm;have hkq:=(hq q hm).below hb
  exact⟨hkq,fun t ht=>(g1 t ht).up (by omega),by rw[hkq.len];omega,g3⟩)
 have HDP:=qh hP;have HDS:=qh hds;have HI0:=qh h0;have HQ:=qh hq;have HNQ:=qh hn;have HK:=qh hk;have HKK:=qh hkk;have HN4:=qh hn4;have HND:=qh hnd
 have hog:¬(2<o):=by omega
 obtain⟨nq,hnq⟩:∃ m,m=qs.length:=⟨_,rfl⟩;have HNL:=qh hnq;rw[← hnq];simp only[List.length_map,← hnq] at CN DS0;obtain⟨pa,pn,pc⟩:=p;change Calls Tryz.prog 5 #[.int .u8 o,.slice pa pn pc,.slice a nq c] w _;clear hk hkk hn4 hnd hdq hlen hlq hp hr hq hds hP h0 hn hnq ho;go_enter Tryz.func5,Tryz.ntmps5;go_wp2_with fail
 go_step3;go_wp2_with fail
 with_reducible refine CK.out.mono ?_
 rintro e w1 ⟨rfl,hb⟩;have KG:=qh hb;have C1:=qh (CN.out w1 hb);clear hb CK CN;go_wp2_with fail
 with_reducible refine C1.out.mono ?_
 rintro e w2 ⟨rfl,hb⟩;have KG:=qk KG hb;have hnn:¬(nq<nq):=Nat.lt_irrefl _;have D1:=qh (DS0.out w2 KG.out);clear hb C1 DS0;go_wp2_with fail
 with_reducible refine D1.out.mono ?_
 rintro e w3 ⟨va,es0,rfl,hdv,hqm,hle,hb⟩;have KG0:=qh KG.out;have KG:=qk KG hb
 have hdv':DVS w w3 w.heap.size va es0:=⟨OD.mono hdv.row KG0.out.size,fun e he=>by
  have h1:=hdv.ok e he
  have hm:(e.1.x,e.2.1.2)∈qs:=by rw[← hqm];exact List.mem_map_of_mem he
  exact⟨Nat.le_trans KG0.out.size h1.ge,h1.bx,h1.le.mono KG0.out.size,HQ.out _ hm,h1.of.mono KG0.out.size⟩,hdv.ap⟩
 have hde:es0.map (fun e=>e.2.1)=ds:=by
  refine ds_eq ?_ (fun d hd=>?_) (fun d hd=>(HDP.out.dl d hd).2.2) fun d hd=>?_
  ·rw[HDS.out,← hqm,List.map_map,List.map_map]
   rfl
  ·obtain⟨e,he,rfl⟩:=List.mem_map.1 hd;exact(hle e he).1
  ·obtain⟨e,he,rfl⟩:=List.mem_map.1 hd;exact⟨(hdv.ok e he).all.canon,(hdv.ok e he).all.small⟩
 have hoe:es0.map (fun e=>e.2.2)=List.replicate ds.length []:=by
  rw[← hde,List.length_map];refine List.eq_replicate_iff.2 ⟨List.length_map ..,fun x hx=>?_⟩;obtain⟨e,he,rfl⟩:=List.mem_map.1 hx;exact(hle e he).2
 have hel:es0.length=nq:=by rw[← List.length_map (f:=fun e:DvE=>(e.1.x,e.2.1.2)),hqm,HNL.out]
 have HDV:=qh hdv';have HDE:=qh hde;have HOE:=qh hoe;obtain⟨aa,ca,hva,_⟩:=hdv'.row.slice;rw[List.length_map,hel] at hva;subst hva;have HDL:=qh (show ds.length=nq by rw[← hde,List.length_map,hel]);have HKG3:=qh KG.out;clear hdv hdv' hqm hle hb D1 hde hoe hel hnn;go_wp2_with fail
 go_step3;go_wp2_with fail
 go_loopw [1,6,7] (fun pv qv rv wr=>qv=.slice none 0 0∧∃ s,DivI w (.slice aa nq ca) ds Inv pv rv wr s) (fun pv _ rv wr=>leastM (DivI w (.slice aa nq ca) ds Inv pv rv wr) μ)
 case atStart=>exact⟨rfl,⟨P,[],List.replicate ds.length []⟩,⟨⟨⟨pa,pn,pc⟩,⟨none,0,0⟩,es0,rfl,rfl,Or.inl HP0.out,DP.void _ _,HDV.out,HDE.out,HOE.out⟩,HI0.out,KG.out⟩⟩
 case round =>
  clear HDV HDE HOE HP0 KG KG0 HKG3;obtain⟨rfl,hrel⟩:=hrel;obtain⟨s,hs,hmu⟩:=least_at (μ:=μ) hrel;clear hrel;obtain⟨⟨p,r,es,rfl,rfl,hpp,hr,hdv,hde,hos⟩,hinv,hb0⟩:=hs;have HMU:=qh hmu;have HPP:=qh hpp;have HR:=qh hr;have HDV:=qh hdv;have HDE:=qh hde;have HOS:=qh hos;have HIN:=qh hinv;have KG:=qh hb0;have hlq:=HDP.out.lq s hinv;have hln:=HDP.out.len s hinv;have HLQ:=qh hlq;have HLN:=qh hln;have hpl:=(hpp.k hb0).len;obtain⟨pa,pn,pc⟩:=p;obtain⟨ra,rn,rc⟩:=r;have HPL:=qh (show pn=s.p.length from hpl);have HEL:=qh (show es.length=nq by rw[← HDL.out,← HDE.out,List.length_map])
  have HOC:=qh (show ∀ q∈s.os,Canon q from fun q hq=>by
   rw[← hos] at hq;obtain⟨e,he,rfl⟩:=List.mem_map.1 hq
   exact(hdv.ok e he).of.canon)
  clear hmu hpp hr hdv hde hos hinv hb0 hlq hln hpl
  by_cases hz:s.p=[]
  ·have HZ:=qh hz
   have hp0:¬((pn:Int)>0):=by have h:=HPL.out;rw[hz] at h;change pn=0 at h;omega
   have hp0':¬((0:Int)<(pn:Int)):=hp0;obtain⟨i1,hi,hz0,hz1,hz2⟩:=info_parts infoPq;clear hz;go_wp2_with fail
   go_loopw [6,98] (fun vq i wq=>∃ (j:Nat) (row:List PV),j≤nq∧i=.int .i64 j∧row=(es.map fun e=>e.1.z).take j∧OQ wq w.heap.size vq row∧DVS w wq w.heap.size (.slice aa nq ca) es∧DP wq w.heap.size ⟨ra,rn,rc⟩ s.r∧Below w.heap.size w wq) (fun _ i _=>nq-(intOf i).toNat)
   case atStart=>exact⟨0,[],Nat.zero_le _,rfl,rfl,World.ownsRow_nil _ _ _ _,HDV.out,HR.out,KG.out⟩
   case round =>
    clear KG HDV HR;obtain⟨j,row,hj,rfl,hre,hrow,hdv,hr,hb0⟩:=hrel;have HRE:=qh hre;have HRL:=qh (show row.length=j by rw[hre,List.length_take,List.length_map,HEL.out];omega);clear hre;have HJ:=qh hj;have HRW:=qh hrow;have HDV:=qh hdv;have HR:=qh hr;have KG:=qh hb0;clear hj hrow hdv hr hb0
    by_cases hjn:j<nq
    ·have HJN:=qh hjn;obtain⟨e,he⟩:∃ e,es[j]?=some e:=⟨_,List.getElem?_eq_getElem (by rw[HEL.out];exact hjn)⟩;obtain⟨a2,c2,h2,hcell⟩:=HDV.out.row.slice;obtain⟨g,hg,hc⟩:=hcell j e.1.b (by rw[List.getElem?_map,he];rfl)
     obtain rfl:aa=a2:=by injection h2
     subst hg;have HOK:=qh (HDV.out.ok e (List.mem_of_getElem? he));have HE:=qh he;obtain⟨⟨b,yy,⟨xa,xn,xc⟩,⟨za,zn,zc⟩⟩,⟨⟨⟨dm,dq⟩,D⟩,O⟩⟩:=e
     have hlt:(j:Int)<(nq:Int):=by omega
     have ek:IntKind.i64.wrap ((j:Int)+1)=(j:Int)+1:=IntWalk.i64_in _ (by have:=HNQ.out;have:=HNL.out;omega);have hc9:wr.cell? ⟨b,9,none⟩=some (.slice za zn zc):=HOK.out.bx.cell (i:=9) rfl;have hbl:b<wr.heap.size:=HOK.out.bx.lt;have hbf:=HOK.out.bx.fz;change wr.cell? ⟨g,j,none⟩=some (.pointer (some ⟨b,0,none⟩)) at hc;clear he h2 hcell hjn;go_wp2_with (first | (at_builtin;refine wpList_append_own _ rfl _ _ 36 rfl w.heap.size 35 i1 _ 1 24 Tryz.underlying36 hi hz0 hz1 hz2 rfl (by decide) _ _ _ rfl (HRW.out.alloc _) ⟨wr.heap.size,0,none⟩ 1 1 [.slice za zn zc] rfl rfl (fun j u hj=>by match j,hj with | 0,hj=>simp at hj;subst hj;simp[Addr.add]) (fun u hu=>by rw[List.mem_singleton.1 hu];rfl) (by rw[HRL.out];have:=HJN.out;have:=HNL.out;have:=HNQ.out;unfold maxLen;omega) (by rw[HRL.out];have:=HJN.out;have:=HNL.out;have:=HNQ.out;omega) (by have:=KG.out.size;simp;omega) ?_))
     intro v' w5 hown hgrow _;have hal:Below wr.heap.size wr (wr.alloc (.cells #[.slice za zn zc] 35)):=(Below.refl _ _).alloc (Nat.le_refl _) _;have HRA:OQ (wr.alloc (.cells #[.slice za zn zc] 35)) w.heap.size _ row:=HRW.out.alloc _;have hoth:=HRA.other hgrow
     have HRW5:=qh (show OQ w5 w.heap.size v' (row++[⟨za,zn,zc⟩]) by
      show w5.ownsRow _ _ _ _ _ _;rw[List.length_append,List.map_append]
      exact hown)
     have HRE5:=qh (show row++[⟨za,zn,zc⟩]=(es.map fun e=>e.1.z).take (j+1) by
      rw[List.take_add_one,List.getElem?_map,HE.out,HRE.out]
      rfl)
     have HDV5:=qh ((HDV.out.below hal).kept hoth);have HR5:=qh ((HR.out.below hal).rows fun b c T h1 h2=>hoth b c T h1 (by rw[h2];rfl));have KG5:=qh (show Below w.heap.size w w5 from(KG.out.alloc KG.out.size _).grown hgrow (by have:=KG.out.size;simp;omega) fun k hk=>(HRW.out.own hk.symm).1);clear hown hgrow hal HRA hoth;go_wp2_with fail
     go_roundw
     case rel=>exact⟨j+1,_,by have:=HJN.out;omega,rfl,HRE5.out,HRW5.out,HDV5.out,HR5.out,KG5.out⟩
     case measure=>simp[intOf];have:=HJN.out;omega
    ·have hge:¬((j:Int)<(nq:Int)):=by omega
     have HRW:=qh (show OQ wr w.heap.size _ (es.map fun e=>e.1.z) by
      have h:=HRW.out;rw[HRE.out] at h
      rwa [List.take_of_length_le (by rw[List.length_map,HEL.out];omega)] at h)
     clear hjn;go_wp2_with fail
     try rw[Exit.noGoto_ret]
     go_ret3;refine Or.inl ⟨_,_,⟨ra,rn,rc⟩,s,rfl,HRW.out,?_,fun i z q h1 h2=>?_,HR.out,HIN.out,HZ.out,KG.out⟩
     ·rw[← HOS.out,List.length_map,List.length_map]
     ·rw[← HOS.out,List.getElem?_map] at h2;rw[List.getElem?_map] at h1;obtain⟨e,he,rfl⟩:=Option.map_eq_some_iff.1 h1;rw[he] at h2;obtain rfl:e.2.2=q:=Option.some.inj h2;exact(HDV.out.ok e (List.mem_of_getElem? he)).of
  ·have hpos:(pn:Int)>0:=by have h:=HPL.out;have:=List.length_pos_iff.2 hz;omega
   have hpos':(0:Int)<(pn:Int):=hpos;have LD:=qh (lead_k o ⟨pa,pn,pc⟩ s.p wr (HPP.out.k KG.out).any (fun t ht=>(HLQ.out.1 t ht).up (by have:=HK.out;omega)) (by have:=HPL.out;have:=HLN.out.1;have:=HN4.out;show pn≤_;omega) hz);clear hz;go_wp2_with fail
   with_reducible refine LD.out.mono ?_
   rintro e w4 ⟨yy,⟨tm,tq⟩,rfl,hy,hld,hb⟩;have HLD:=qh hld;have HY:=qh (hy.mono KG.out.size);have HPP:=qh (HPP.out.below hb);have HR:=qh (HR.out.below hb);have HDV:=qh (HDV.out.below hb);have KG:=qk KG hb;have HTS:=qh (show tm.Small from HPP.out.small _ hld.1);have HTZ:=qh (show tq≠0 from HPP.out.canon.non _ hld.1);have HTQ:=qh (show LQ tq k from HLQ.out.1 _ hld.1);clear hy hld hb LD
   go_upto_region 8 with (fail)
   obtain⟨V,hV⟩:∃ V,V=w4.alloc (.cells #[.bool yy.t.s,.slice yy.t.a yy.t.n yy.t.c,.bool yy.l.s,.slice yy.l.a yy.l.n yy.l.c,.int .u16 tm.x,.int .u16 tm.y,.int .u16 tm.z,.int .u16 tm.t] 32):=⟨_,rfl⟩
   have hbV:Below w4.heap.size w4 V:=by rw[hV];exact(Below.refl _ _).alloc (Nat.le_refl _) _
   have B10:=qh (show Bxs V w4.heap.size 32 [.bool yy.t.s,.slice yy.t.a yy.t.n yy.t.c,.bool yy.l.s,.slice yy.l.a yy.l.n yy.l.c,.int .u16 tm.x,.int .u16 tm.y,.int .u16 tm.z,.int .u16 tm.t] by rw[hV];exact Bxs.new w4 32 [.bool yy.t.s,.slice yy.t.a yy.t.n yy.t.c,.bool yy.l.s,.slice yy.l.a yy.l.n yy.l.c,.int .u16 tm.x,.int .u16 tm.y,.int .u16 tm.z,.int .u16 tm.t]);obtain⟨A10,hA10⟩:∃ A,A=w4.heap.size:=⟨_,rfl⟩;rw[← hV,← hA10];rw[← hA10] at B10;have HPP:=qh (HPP.out.below hbV);have HR:=qh (HR.out.below hbV);have HDV:=qh (HDV.out.below hbV);have HY:=qh (HY.out.below hbV);have KG:=qk KG hbV;clear hV hbV hA10;go_wp2_with fail
   go_loopw [1,6,7,51] (fun pv qv rv i wi=>pv=.slice pa pn pc∧qv=.slice none 0 0∧rv=.slice ra rn rc∧∃ j:Nat,j≤nq∧i=.int .i64 j∧PP w wi w.heap.size ⟨pa,pn,pc⟩ s.p∧DP wi w.heap.size ⟨ra,rn,rc⟩ s.r∧DVS w wi w.heap.size (.slice aa nq ca) es∧Bxs wi A10 32 [.bool yy.t.s,.slice yy.t.a yy.t.n yy.t.c,.bool yy.l.s,.slice yy.l.a yy.l.n yy.l.c,.int .u16 tm.x,.int .u16 tm.y,.int .u16 tm.z,.int .u16 tm.t]∧DF wi w.heap.size yy tq∧(∀ (i:Nat) (d:Dv),i<j→ds[i]?=some d→¬d.1.1.stands tm)∧Below w.heap.size w wi) (fun _ _ _ i _=>nq-(intOf i).toNat)
   case atStart=>exact⟨rfl,rfl,rfl,0,Nat.zero_le _,rfl,HPP.out,HR.out,HDV.out,B10.out,HY.out,fun i d h=>absurd h (Nat.not_lt_zero _),KG.out⟩
   case round =>
    clear HPP HR HDV B10 HY KG;obtain⟨rfl,rfl,rfl,j,hj,rfl,hpp,hr,hdv,hb10,hy,hno,hb0⟩:=hrel;have HJ:=qh hj;have HPP:=qh hpp;have HR:=qh hr;have HDV:=qh hdv;have B10:=qh hb10;have HY:=qh hy;have HNO:=qh hno;have KG:=qh hb0;clear hj hpp hr hdv hb10 hy hno hb0
    by_cases hjn:j<nq
    ·have HJN:=qh hjn;obtain⟨e,he⟩:∃ e,es[j]?=some e:=⟨_,List.getElem?_eq_getElem (by rw[HEL.out];exact hjn)⟩;obtain⟨a2,c2,h2,hcell⟩:=HDV.out.row.slice;obtain⟨g,hg,hc⟩:=hcell j e.1.b (by rw[List.getElem?_map,he];rfl)
     obtain rfl:aa=a2:=by injection h2
     subst hg;have HOK:=qh (HDV.out.ok e (List.mem_of_getElem? he));have HE:=qh he;obtain⟨⟨b,dy,⟨xa,xn,xc⟩,⟨za,zn,zc⟩⟩,⟨⟨⟨dm,dq⟩,D⟩,O⟩⟩:=e;have HDJ:=qh (show ds[j]?=some ((dm,dq),D) by rw[← HDE.out,List.getElem?_map,HE.out];rfl);have HOJ:=qh (show s.os[j]?=some O by rw[← HOS.out,List.getElem?_map,HE.out];rfl);obtain⟨g1,g2,g3⟩:=HDP.out.dl _ (List.mem_of_getElem? HDJ.out);have HD1:=qh (show ∀ t∈D,LQ t.2 kd from g1);have HD2:=qh (show D.length≤nd from g2);have HD3:=qh (show Lead (keyO o) D (dm,dq) from g3);have HXK:=qh (show KP w ⟨xa,xn,xc⟩ D from HOK.out.all);have HDZ:=qh (show dq≠0 from HXK.out.canon.non _ g3.1);have HDS1:=qh (show dm.Small from HXK.out.small _ g3.1);have HDQ:=qh (show LQ dq kd from g1 _ g3.1)
     have hlt:(j:Int)<(nq:Int):=by omega
     have ek:IntKind.i64.wrap ((j:Int)+1)=(j:Int)+1:=IntWalk.i64_in _ (by have:=HNQ.out;have:=HNL.out;omega);have HEK:=qh ek;change wr.cell? ⟨g,j,none⟩=some (.pointer (some ⟨b,0,none⟩)) at hc;clear he h2 hcell hjn g1 g2 g3
     by_cases hst:dm.stands tm
     ·have HST:=qh hst;have IN:=qh (into_y b dy dq dm ⟨xa,xn,xc⟩ ⟨za,zn,zc⟩ yy tq tm wr HOK.out.bx HTS.out HDS1.out hst HOK.out.le.k HY.out.k (HDQ.out.up (by have:=HK.out;omega)) (HTQ.out.up (by have:=HK.out;omega)) HDZ.out HTZ.out);clear hst;have d00:=B10.out.cell (i:=0) rfl;have d01:=B10.out.cell (i:=1) rfl;have d02:=B10.out.cell (i:=2) rfl;have d03:=B10.out.cell (i:=3) rfl;have d04:=B10.out.cell (i:=4) rfl;have d05:=B10.out.cell (i:=5) rfl;have d06:=B10.out.cell (i:=6) rfl;have d07:=B10.out.cell (i:=7) rfl;have d0f:=B10.out.fz;have d0l:=B10.out.lt;go_wp2_with fail
      with_reducible refine IN.out.mono ?_
      rintro e w5 ⟨⟨ua,un,uc⟩,he,hu,hb⟩;obtain rfl:e=.returned (.tuple #[.slice ua un uc,.bool true]):=he;have HU:=qh (hu.mono KG.out.size);have HPP:=qh (HPP.out.below hb);have HR:=qh (HR.out.below hb);have HDV:=qh (HDV.out.below hb);have KG:=qk KG hb;clear hu hb IN hc d00 d01 d02 d03 d04 d05 d06 d07 d0f d0l;have HOK:=qh (HDV.out.ok _ (List.mem_of_getElem? HE.out));have hlqu:LQ (byT (tm,tq) (dm,dq)).2 (k+kd):=lq_by HDZ.out HTQ.out HDQ.out;have HLU:=qh hlqu;have HUZ:=qh (show(byT (tm,tq) (dm,dq)).2≠0 from byT_ne HTZ.out HDZ.out)
      have MU:=qh (mul_oB ⟨xa,xn,xc⟩ ⟨ua,un,uc⟩ D [byT (tm,tq) (dm,dq)] kd (k+kd) w5 (HXK.out.below KG.out) HU.out.k HD1.out (fun t ht=>by rw[List.mem_singleton.1 ht];exact HLU.out)
       (by rw[List.length_singleton];have:=HK.out;omega) (by rw[List.length_singleton,Nat.mul_one];have:=HD2.out;have:=HND.out;omega) (by have:=HD2.out;have:=HND.out;omega) (by rw[List.length_singleton];decide))
      have c8:w5.cell? ⟨b,8,none⟩=some (.slice xa xn xc):=HOK.out.bx.cell (i:=8) rfl;have cf:=HOK.out.bx.fz;have cl:=HOK.out.bx.lt;clear hlqu;go_wp2_with fail
      with_reducible refine MU.out.mono ?_
      rintro e w6 (⟨⟨oa,on,oc⟩,he,hnov,hoff,hb⟩ | ⟨rfl,hov,hb⟩)
      ·obtain rfl:e=.returned (.tuple #[.slice oa on oc,.int .i64 0]):=he;have HOF:=qh (hoff.mono KG.out.size);have HPP:=qh (HPP.out.below hb);have HR:=qh (HR.out.below hb);have HDV:=qh (HDV.out.below hb);have HU:=qh (HU.out.below hb);have KG:=qk KG hb;clear hnov hoff hb MU c8 cf cl;have HOK:=qh (HDV.out.ok _ (List.mem_of_getElem? HE.out));have HOL:=qh (show(∀ t∈O,LQ t.2 k)∧O.length≤n from⟨HLQ.out.2.2 O (List.mem_of_getElem? HOJ.out),HLN.out.2.2 O (List.mem_of_getElem? HOJ.out)⟩)
       have AD:=qh (add_any ⟨za,zn,zc⟩ ⟨ua,un,uc⟩ O [byT (tm,tq) (dm,dq)] (k+kd) w6 HOK.out.of.k.any HU.out.k.any (show zn≤1000000 by have h:zn=O.length:=HOK.out.of.k.len;have:=HOL.out.2;have:=HN4.out;omega) (show un≤1000000 by have h:un=1:=HU.out.k.len;omega) (fun t ht=>(HOL.out.1 t ht).up (by omega)) (fun t ht=>by rw[List.mem_singleton.1 ht];exact HLU.out)
        (by have:=HK.out;omega) (by rw[List.length_singleton];have:=HOL.out.2;have:=HN4.out;omega))
       have c9:w6.cell? ⟨b,9,none⟩=some (.slice za zn zc):=HOK.out.bx.cell (i:=9) rfl;have cf:=HOK.out.bx.fz;have cl:=HOK.out.bx.lt;go_wp2_with fail
       with_reducible refine AD.out.mono ?_
       rintro e w7 ⟨⟨qa,qn,qc⟩,he,hq,hb⟩;obtain rfl:e=.returned (.slice qa qn qc):=he;have HQQ:=qh (hq.mono KG.out.size);have HPP:=qh (HPP.out.below hb);have HR:=qh (HR.out.below hb);have HDV:=qh (HDV.out.below hb);have HOF:=qh (HOF.out.below hb);have KG:=qk KG hb;clear hq hb AD c9 cf cl;have HOK:=qh (HDV.out.ok _ (List.mem_of_getElem? HE.out));have c9:w7.cell? ⟨b,9,none⟩=some (.slice za zn zc):=HOK.out.bx.cell (i:=9) rfl;have cf:=HOK.out.bx.fz;have cl:=HOK.out.bx.lt
       go_upto_region 17 with (fail)
       clear c9 cf cl;obtain⟨U,hU⟩:∃ U,U=w7.setCell ⟨b,9,none⟩ (.slice qa qn qc):=⟨_,rfl⟩;have hrows:=set_rows HOK.out.bx 9 (.slice qa qn qc);have HPP:=qh (show PP w U w.heap.size ⟨pa,pn,pc⟩ s.p by rw[hU];exact HPP.out.rows hrows);have HR:=qh (show DP U w.heap.size ⟨ra,rn,rc⟩ s.r by rw[hU];exact HR.out.rows hrows);have HOF:=qh (show DP U w.heap.size ⟨oa,on,oc⟩ (mulP D [byT (tm,tq) (dm,dq)]) by rw[hU];exact HOF.out.rows hrows);have HDV:=qh (show DVS w U w.heap.size (.slice (some ⟨g,0,none⟩) nq ca) (es.set j (⟨b,dy,⟨xa,xn,xc⟩,⟨qa,qn,qc⟩⟩,((dm,dq),D),addP O [byT (tm,tq) (dm,dq)])) by rw[hU];exact HDV.out.store HE.out HQQ.out);have KG:=qh (show Below w.heap.size w U by rw[hU];exact KG.out.setCell HOK.out.ge _);rw[← hU];clear hU hrows;have hpb:=off_pb (nd:=nd) HXK.out.canon HUZ.out HD1.out HD2.out HLU.out HOF.out.small
       have SB:=qh (psub_any ⟨pa,pn,pc⟩ ⟨oa,on,oc⟩ s.p (mulP D [byT (tm,tq) (dm,dq)]) (k+2*kd+1) nd U (HPP.out.k KG.out).any HOF.out.k.any (by have:=HPL.out;have:=HLN.out.1;have:=HN4.out;show pn≤_;omega) (show on≤1000000 by have h:on=(mulP D [byT (tm,tq) (dm,dq)]).length:=HOF.out.k.len;have:=hpb.len;have:=HND.out;omega)
        (fun t ht=>(HLQ.out.1 t ht).up (by omega)) (hpb.up (Nat.le_refl _) (by omega) (Nat.le_refl _)) (Nat.le_trans HK.out (by decide)) HKK.out (by have:=HLN.out.1;have:=HN4.out;have:=HND.out;omega))
       clear hpb;go_wp2_with fail
       with_reducible refine SB.out.mono ?_
       rintro e w8 ⟨⟨na,nn,nc⟩,he,hnp,hb⟩;obtain rfl:e=.returned (.slice na nn nc):=he;have HNP:=qh (hnp.mono KG.out.size);have HR:=qh (HR.out.below hb);have HDV:=qh (HDV.out.below hb);have KG:=qk KG hb;clear hnp hb SB;have HSI:=qh (HDP.out.step s (hitS s (tm,tq) j ((dm,dq),D)) HIN.out HPP.out.canon HR.out.canon HOC.out HNP.out.small (Step.hit HLD.out ⟨HDJ.out,HST.out,HNO.out⟩))
       have HNEW:=qh (show DivI w (.slice (some ⟨g,0,none⟩) nq ca) ds Inv (.slice na nn nc) (.slice ra rn rc) w8 (hitS s (tm,tq) j ((dm,dq),D)) from
        ⟨⟨⟨na,nn,nc⟩,⟨ra,rn,rc⟩,_,rfl,rfl,Or.inr HNP.out,HR.out,HDV.out,(by refine(map_set_same (fun e:DvE=>e.2.1) HE.out ?_).trans HDE.out;rfl),(by refine(map_set_mod (fun e:DvE=>e.2.2) (fun q=>addP q [byT (tm,tq) (dm,dq)]) HE.out ?_).trans ?_;all_goals first | (rw[HOS.out];rfl) | rfl)⟩,HSI.out.1,KG.out⟩)
       go_wp2_with fail
       go_roundw
       case rel=>exact⟨rfl,_,HNEW.out⟩
       case measure=>exact Nat.lt_of_le_of_lt (least_le (μ:=μ) HNEW.out) (HMU.out▸HSI.out.2)
      ·have KG:=qk KG hb;have HOV:=qh hov;clear hov hb MU c8 cf cl;go_wp2_with fail
       try rw[Exit.noGoto_ret]
       go_ret3;exact Or.inr ⟨s,(tm,tq),j,((dm,dq),D),rfl,HIN.out,HLD.out,⟨HDJ.out,HST.out,HNO.out⟩,HOV.out,KG.out⟩
     ·have HST:=qh hst;have IN:=qh (into_n b dy dq dm ⟨xa,xn,xc⟩ ⟨za,zn,zc⟩ yy tq tm wr HOK.out.bx HTS.out HDS1.out hst HOK.out.le.k HY.out.k (HDQ.out.up (by have:=HK.out;omega)) (HTQ.out.up (by have:=HK.out;omega)) HDZ.out);clear hst;have d00:=B10.out.cell (i:=0) rfl;have d01:=B10.out.cell (i:=1) rfl;have d02:=B10.out.cell (i:=2) rfl;have d03:=B10.out.cell (i:=3) rfl;have d04:=B10.out.cell (i:=4) rfl;have d05:=B10.out.cell (i:=5) rfl;have d06:=B10.out.cell (i:=6) rfl;have d07:=B10.out.cell (i:=7) rfl;have d0f:=B10.out.fz;have d0l:=B10.out.lt;go_wp2_with fail
      with_reducible refine IN.out.mono ?_
      rintro e w5 ⟨rfl,hb⟩;have HPP:=qh (HPP.out.below hb);have HR:=qh (HR.out.below hb);have HDV:=qh (HDV.out.below hb);have B10:=qh (B10.out.below hb B10.out.lt);have HY:=qh (HY.out.below hb);have KG:=qk KG hb;clear hb IN hc d00 d01 d02 d03 d04 d05 d06 d07 d0f d0l;go_wp2_with fail
      go_roundw
      case rel =>
       refine⟨rfl,rfl,rfl,j+1,by have:=HJN.out;omega,rfl,HPP.out,HR.out,HDV.out,B10.out,HY.out,fun i d hi hd=>?_,KG.out⟩
       by_cases hij:i<j
       ·exact HNO.out i d hij hd
       ·obtain rfl:i=j:=by omega
        rw[HDJ.out] at hd;obtain rfl:((dm,dq),D)=d:=Option.some.inj hd;exact HST.out
      case measure=>simp[intOf];have:=HJN.out;omega
    ·have hge:¬((j:Int)<(nq:Int)):=by omega
     have HNN:=qh (show ∀ d∈ds,¬d.1.1.stands tm from fun d hd=>by
      obtain⟨i,hi⟩:=List.mem_iff_getElem?.1 hd
      exact HNO.out i d (by have h1:=(List.getElem?_eq_some_iff.1 hi).1;have:=HDL.out;omega) hi)
     clear hjn;obtain⟨V1,hV1⟩:∃ V,V=wr.alloc (.cells #[.bool yy.t.s,.slice yy.t.a yy.t.n yy.t.c,.bool yy.l.s,.slice yy.l.a yy.l.n yy.l.c,.int .u16 tm.x,.int .u16 tm.y,.int .u16 tm.z,.int .u16 tm.t] 32):=⟨_,rfl⟩
     have hb1:Below wr.heap.size wr V1:=by rw[hV1];exact(Below.refl _ _).alloc (Nat.le_refl _) _
     have HS1:=qh (show DP V1 w.heap.size ⟨some ⟨wr.heap.size,0,none⟩,1,1⟩ [(tm,tq)] by rw[hV1];exact single_dp HY.out KG.out.size HTS.out HTZ.out);have HR1:=qh (HR.out.below hb1)
     have AD:=qh (add_any ⟨ra,rn,rc⟩ ⟨some ⟨wr.heap.size,0,none⟩,1,1⟩ s.r [(tm,tq)] k V1 HR1.out.k.any HS1.out.k.any (show rn≤1000000 by have h:rn=s.r.length:=HR1.out.k.len;have:=HLN.out.2.1;have:=HN4.out;omega) (by show 1≤1000000;decide) HLQ.out.2.1 (fun t ht=>by rw[List.mem_singleton.1 ht];exact HTQ.out)
      (by have:=HK.out;omega) (by rw[List.length_singleton];have:=HLN.out.2.1;have:=HN4.out;omega))
     have HV1:=qh hV1;have HPP:=qh (HPP.out.below hb1);have HDV:=qh (HDV.out.below hb1);have HY:=qh (HY.out.below hb1);have HB1:=qh hb1;clear hV1 hb1;have d00:=B10.out.cell (i:=0) rfl;have d01:=B10.out.cell (i:=1) rfl;have d02:=B10.out.cell (i:=2) rfl;have d03:=B10.out.cell (i:=3) rfl;have d04:=B10.out.cell (i:=4) rfl;have d05:=B10.out.cell (i:=5) rfl;have d06:=B10.out.cell (i:=6) rfl;have d07:=B10.out.cell (i:=7) rfl;have d0f:=B10.out.fz;have d0l:=B10.out.lt;go_wp2_with fail
     rw[show wr.alloc (.cells #[.bool yy.t.s,.slice yy.t.a yy.t.n yy.t.c,.bool yy.l.s,.slice yy.l.a yy.l.n yy.l.c,.int .u16 tm.x,.int .u16 tm.y,.int .u16 tm.z,.int .u16 tm.t] 32)=V1 from HV1.out.symm];with_reducible refine AD.out.mono ?_
     rintro e w5 ⟨⟨qa,qn,qc⟩,he,hq,hb⟩;obtain rfl:e=.returned (.slice qa qn qc):=he;have B10:=qh ((B10.out.below HB1.out B10.out.lt).below hb (Nat.lt_of_lt_of_le B10.out.lt HB1.out.size));have KG:=qh (KG.out.trans (HB1.out.mono KG.out.size));have HNR:=qh (hq.mono KG.out.size);have HPP:=qh (HPP.out.below hb);have HDV:=qh (HDV.out.below hb);have HY:=qh (HY.out.below hb);have KG:=qk KG hb;clear hq hb AD d00 d01 d02 d03 d04 d05 d06 d07 d0f d0l;obtain⟨V2,hV2⟩:∃ V,V=w5.alloc (.cells #[.bool yy.t.s,.slice yy.t.a yy.t.n yy.t.c,.bool yy.l.s,.slice yy.l.a yy.l.n yy.l.c,.int .u16 tm.x,.int .u16 tm.y,.int .u16 tm.z,.int .u16 tm.t] 32):=⟨_,rfl⟩
     have hb2:Below w5.heap.size w5 V2:=by rw[hV2];exact(Below.refl _ _).alloc (Nat.le_refl _) _
     have HS2:=qh (show DP V2 w.heap.size ⟨some ⟨w5.heap.size,0,none⟩,1,1⟩ [(tm,tq)] by rw[hV2];exact single_dp HY.out KG.out.size HTS.out HTZ.out);have KG2:=qh (KG.out.trans (hb2.mono KG.out.size));have HPP2:=qh (HPP.out.below hb2);have HDV2:=qh (HDV.out.below hb2);have HNR2:=qh (HNR.out.below hb2)
     have SB:=qh (psub_any ⟨pa,pn,pc⟩ ⟨some ⟨w5.heap.size,0,none⟩,1,1⟩ s.p [(tm,tq)] k 1 V2 (HPP2.out.k KG2.out).any HS2.out.k.any (by have:=HPL.out;have:=HLN.out.1;have:=HN4.out;show pn≤_;omega) (by show 1≤1000000;decide)
      HLQ.out.1 ⟨Nat.le_refl _,fun t ht=>by rw[List.mem_singleton.1 ht];exact HTQ.out,fun t ht=>by rw[List.mem_singleton.1 ht];exact HTS.out⟩ (by have:=HK.out;omega) (by have:=HK.out;omega) (by have:=HLN.out.1;have:=HN4.out;omega))
     have HV2:=qh hV2;clear hV2 hb2;have d00:=B10.out.cell (i:=0) rfl;have d01:=B10.out.cell (i:=1) rfl;have d02:=B10.out.cell (i:=2) rfl;have d03:=B10.out.cell (i:=3) rfl;have d04:=B10.out.cell (i:=4) rfl;have d05:=B10.out.cell (i:=5) rfl;have d06:=B10.out.cell (i:=6) rfl;have d07:=B10.out.cell (i:=7) rfl;have d0f:=B10.out.fz;have d0l:=B10.out.lt;go_wp2_with fail
     rw[show w5.alloc (.cells #[.bool yy.t.s,.slice yy.t.a yy.t.n yy.t.c,.bool yy.l.s,.slice yy.l.a yy.l.n yy.l.c,.int .u16 tm.x,.int .u16 tm.y,.int .u16 tm.z,.int .u16 tm.t] 32)=V2 from HV2.out.symm];with_reducible refine SB.out.mono ?_
     rintro e w8 ⟨⟨na,nn,nc⟩,he,hnp,hb⟩;obtain rfl:e=.returned (.slice na nn nc):=he;have HNP:=qh (hnp.mono KG2.out.size);have HNR:=qh (HNR2.out.below hb);have HDV:=qh (HDV2.out.below hb);have KG:=qh (KG2.out.trans (hb.mono KG2.out.size));clear hnp hb SB d00 d01 d02 d03 d04 d05 d06 d07 d0f d0l;have HSI:=qh (HDP.out.step s (restS s (tm,tq)) HIN.out HPP.out.canon HR1.out.canon HOC.out HNP.out.small (Step.rest HLD.out HNN.out));go_wp2_with fail
     go_roundw
     case rel =>
      exact⟨rfl,restS s (tm,tq),⟨⟨⟨na,nn,nc⟩,⟨qa,qn,qc⟩,es,rfl,rfl,Or.inr HNP.out,HNR.out,HDV.out,HDE.out,HOS.out⟩,HSI.out.1,KG.out⟩⟩
     case measure =>
      have h1:=least_le (μ:=μ) (show DivI w (.slice aa nq ca) ds Inv _ _ _ (restS s (tm,tq)) from⟨⟨⟨na,nn,nc⟩,⟨qa,qn,qc⟩,es,rfl,rfl,Or.inr HNP.out,HNR.out,HDV.out,HDE.out,HOS.out⟩,HSI.out.1,KG.out⟩);have h2:=HMU.out;have h3:=HSI.out.2;exact Nat.lt_of_le_of_lt h1 (h2▸h3)
def tinyQ (q:Rat):Bool:=decide (q.num.natAbs<1000000000)&&decide (q.den<1000000000)
theorem tinyQ_lq {q:Rat} (h:tinyQ q=true):LQ q 1:=by
 unfold tinyQ at h;rw[Bool.and_eq_true] at h;have h1:=of_decide_eq_true h.1;have h2:=of_decide_eq_true h.2
 have hl:∀ m:Nat,m<1000000000→lenB m≤1:=fun m hm=>by
  by_cases h0:m=0
  ·rw[h0,lenB_zero];omega
  ·rw[lenB_pos h0,Nat.div_eq_of_lt hm,lenB_zero];omega
 exact⟨hl _ h1,hl _ (by rw[Int.natAbs_natCast];exact h2)⟩
theorem OQ.row {w:World} {lo:Nat} {v:Value} {zs:List PV} (h:OQ w lo v zs):∃ a c,v=.slice a zs.length c∧RS w a zs∧(∀ i z,zs[i]?=some z→∃ g,a=some ⟨g,0,none⟩∧w.cell? ⟨g,i,none⟩=some z.v):=by
 rcases h.2 with ⟨hv,h0⟩ | ⟨g,cap,cur,hv,hnc,_,hg,_,hcs,htake⟩
 ·have hz:zs=[]:=List.length_eq_zero_iff.1 h0;subst hz;exact⟨none,0,hv,RS.nil _ _,fun i b hi=>by simp at hi⟩
 ·have hc:∀ i z,zs[i]?=some z→w.cell? ⟨g,i,none⟩=some z.v:=fun i z hi=>by
   have hil:=(List.getElem?_eq_some_iff.1 hi).1;rw[cell_of_row _ _ _ _ _ _ ‹_›]
   have h1:(zs.map PV.v)[i]?=some z.v:=by rw[List.getElem?_map,hi];rfl
   rw[← htake,List.getElem?_take,if_pos (by omega),Array.getElem?_toList] at h1;exact h1
  exact⟨some ⟨g,0,none⟩,cap,hv,⟨fun _=>⟨g,0,rfl,fun i z hi=>by rw[Nat.zero_add];exact hc i z hi⟩⟩,fun i z hi=>⟨g,rfl,hc i z hi⟩⟩
theorem RS.new (w:World) (qs:List PV):RS (w.alloc (.cells (qs.map PV.v).toArray 35)) (some ⟨w.heap.size,0,none⟩) qs:=⟨fun _=>⟨w.heap.size,0,rfl,fun i p hi=>by
 have h:=(Bxs.new w 35 (qs.map PV.v)).cell (i:=i) (v:=p.v) (by rw[List.getElem?_map,hi];rfl);rw[Nat.zero_add]
 exact h⟩⟩
def One (w:World) (J:List Tm→List Tm→Prop) (e:Ending) (w':World):Prop :=
 ∃ (g c:Nat) (z:PV) (zq:List Tm) (r:PV) (R:List Tm),e=.returned (.tuple #[.slice (some ⟨g,0,none⟩) 1 c,r.v,.int .i64 0])∧w'.cell? ⟨g,0,none⟩=some z.v∧DP w' w.heap.size z zq∧DP w' w.heap.size r R∧J zq R∧Below w.heap.size w w'
structure ER (w:World) (lo:Nat) (v:Value) (L:List TE):Prop where
 row:OT w lo v (L.map Prod.fst)
 num:∀ e∈L,EF w lo e.1.c e.2
theorem ER.nil {w:World} {lo:Nat}:ER w lo (.slice none 0 0) []:=⟨World.ownsRow_nil _ _ _ _,fun _ h=>(by cases h)⟩
theorem ER.below {w w':World} {lo:Nat} {v:Value} {L:List TE} (h:ER w lo v L) (hb:Below w.heap.size w w'):ER w' lo v L:=⟨OT.below h.row hb,fun e he=>(h.num e he).below hb⟩
theorem ER.mono {w:World} {lo lo':Nat} {v:Value} {L:List TE} (h:ER w lo v L) (hl:lo'≤lo):ER w lo' v L:=⟨OT.mono h.row hl,fun e he=>(h.num e he).mono hl⟩
theorem ER.slice {w:World} {lo:Nat} {v:Value} {L:List TE} (h:ER w lo v L):∃ x:PV,v=x.v∧x.n=L.length:=by
 obtain⟨a,c,e,-,-⟩:=OT.slice h.row;exact⟨⟨a,L.length,c⟩,by rw[e,List.length_map],rfl⟩
theorem ER.alloc {w:World} {lo:Nat} {v:Value} {L:List TE} (h:ER w lo v L) (o:Obj):ER (w.alloc o) lo v L:=h.below ((Below.refl _ _).alloc (Nat.le_refl _) o)
theorem EF.alloc {w:World} {lo:Nat} {x:FV} {q:Rat} (h:EF w lo x q) (o:Obj):EF (w.alloc o) lo x q:=h.below ((Below.refl _ _).alloc (Nat.le_refl _) o)
theorem _root_.Go.RowKit.Below.ofAlloc {B:Nat} {w w':World} {o:Obj} (h:Below B (w.alloc o) w') (hb:B≤w.heap.size):Below B w w':=((Below.refl _ _).alloc hb o).trans h
def rowE (T:TypeId):Bool:=T==32 || T==44
theorem EF.rows {w w':World} {lo:Nat} {x:FV} {q:Rat} (h:EF w lo x q) (hs:∀ (b:Nat) (c:Array Value) (T:TypeId),w.heap[b]?=some (.cells c T (0,0))→rowE T=true→w'.heap[b]?=w.heap[b]?):EF w' lo x q:=h.kept fun b hb=>by
 rcases hb with hb | hb
 ·obtain⟨cur,h5⟩:=own_blkc h.t.own hb;exact hs b _ _ h5 rfl
 ·obtain⟨cur,h5⟩:=own_blkc h.l.own hb;exact hs b _ _ h5 rfl
theorem ER.rows {w w':World} {lo:Nat} {v:Value} {L:List TE} (h:ER w lo v L) (hs:∀ (b:Nat) (c:Array Value) (T:TypeId),w.heap[b]?=some (.cells c T (0,0))→rowE T=true→w'.heap[b]?=w.heap[b]?):ER w' lo v L:=by
 refine⟨⟨h.row.1,h.row.2.imp id ?_⟩,fun e he=>(h.num e he).rows hs⟩;rintro⟨g,cap,cur,hv,hlo,hgk,h3⟩;exact⟨g,cap,cur,hv,hlo,(hs g _ _ hgk rfl).trans hgk,h3⟩
structure NewT (w:World) (lo b:Nat) (m:Mo) (q:Rat):Prop where
 ex:∃ y:FV,Bxs w b 32 (TV.cells ⟨y,m⟩)∧EF w lo y q
theorem NewT.rows {w w':World} {lo b:Nat} {m:Mo} {q:Rat} (h:NewT w lo b m q) (hs:∀ (b:Nat) (c:Array Value) (T:TypeId),w.heap[b]?=some (.cells c T (0,0))→rowE T=true→w'.heap[b]?=w.heap[b]?):NewT w' lo b m q:=by
 obtain⟨y,h1,h2⟩:=h.ex;exact⟨y,(hs b _ _ h1 rfl).trans h1,h2.rows hs⟩
structure EP (w:World) (lo:Nat) (x:PV) (P:List Tm):Prop where
 ex:∃ L:List TE,ER w lo x.v L∧L.map tm=P
 canon:Canon P
 small:∀ t∈P,t.1.Small
theorem EP.k {w:World} {lo:Nat} {x:PV} {P:List Tm} (h:EP w lo x P):KP w x P:=by
 obtain⟨L,h1,h4⟩:=h.ex;obtain⟨a,c,e,hc,hr⟩:=OT.slice h1.row;obtain⟨xa,xn,xc⟩:=x;simp only[PV.v,Value.slice.injEq] at e;obtain⟨rfl,rfl,rfl⟩:=e;exact⟨⟨L,hr,(List.length_map ..).symm,fun e he=>(h1.num e he).k,h4⟩,hc,h.canon,h.small⟩
theorem EP.below {w w':World} {lo:Nat} {x:PV} {P:List Tm} (h:EP w lo x P) (hb:Below w.heap.size w w'):EP w' lo x P:=by
 obtain⟨L,h1,h4⟩:=h.ex;exact⟨⟨L,h1.below hb,h4⟩,h.canon,h.small⟩
theorem EP.mono {w:World} {lo lo':Nat} {x:PV} {P:List Tm} (h:EP w lo x P) (hl:lo'≤lo):EP w lo' x P:=by
 obtain⟨L,h1,h4⟩:=h.ex;exact⟨⟨L,h1.mono hl,h4⟩,h.canon,h.small⟩
theorem EP.rows {w w':World} {lo:Nat} {x:PV} {P:List Tm} (h:EP w lo x P) (hs:∀ (b:Nat) (c:Array Value) (T:TypeId),w.heap[b]?=some (.cells c T (0,0))→rowE T=true→w'.heap[b]?=w.heap[b]?):EP w' lo x P:=by
 obtain⟨L,h1,h2⟩:=h.ex;exact⟨⟨L,h1.rows hs,h2⟩,h.canon,h.small⟩
theorem EP.nil {w:World} {lo:Nat}:EP w lo ⟨none,0,0⟩ []:=⟨⟨[],ER.nil,rfl⟩,Canon.nil,fun _ h=>(by cases h)⟩
theorem dn_grown {w w':World} {lo lo':Nat} {x:NV} {z:Int} {v:Value} {ts:List TV} (h:DN w lo x z) (ho:OT w lo' v ts) (hg:w.grownBy w' v.ownBlock):DN w' lo x z:=by
 refine⟨h.s,h.n,⟨h.own.le,h.own.place.imp id fun ⟨g,cur,ha,hlo,hc,hr⟩=>⟨g,cur,ha,hlo,?_,hr⟩,h.own.rng⟩⟩;refine(hg.block g (lt_of_block hc) fun e=>?_).trans hc
 rcases ho.2 with ⟨hv,-⟩ | ⟨g2,cap,cur2,hv,-,hg2,-⟩
 ·rw[hv] at e;cases e
 ·rw[hv] at e;have e:some g=some g2:=e
  injection e with e
  subst e;rw[hc] at hg2
  cases hg2
theorem EF.grown {w w':World} {lo lo':Nat} {x:FV} {q:Rat} {v:Value} {ts:List TV} (h:EF w lo x q) (ho:OT w lo' v ts) (hg:w.grownBy w' v.ownBlock):EF w' lo x q:=⟨dn_grown h.t ho hg,dn_grown h.l ho hg⟩
theorem tv_one (t:TV):∀ u∈TV.cells t,u.oneCell'=true:=by
 intro u hu;simp only[TV.cells,List.mem_cons,List.mem_nil_iff,or_false] at hu
 rcases hu with rfl | rfl | rfl | rfl | rfl | rfl | rfl | rfl <;> rfl
theorem info8P:(Tryz.prog.info? 32).map (fun i=>(i.zero,i.size,i.bytes))=some (some (.agg #[.bool false,.slice none 0 0,.bool false,.slice none 0 0,.int .u16 0,.int .u16 0,.int .u16 0,.int .u16 0]),8,72):=by kernel_rfl
theorem wpList_pushE {ops:Array Oper} {rest:List Oper} {oo:Oper} {ac:Act} {Q:Exit→Act→World→Prop} (hgd:oo.guard=none) (s x:Operand)
  (ho:oo.op=.call { callee:=.builtin .append,args:=#[s,x],argTypes:=#[35,35] })
  {w:World} {lo:Nat} {v:Value} {L:List TE} (hs:ac.eval s=v) (h:ER w lo v L) (hn:L.length≤1000000000) (hb:lo≤w.heap.size)
  {gs:Nat} {t:TV} {q:Rat} {m c:Nat} (hx:ac.eval x=.slice (some ⟨gs,0,none⟩) m c) (hc:Bxs w gs 32 t.cells) (hq:EF w lo t.c q) (hm:m=1)
  (hK:∀ (z:PV) w',ER w' lo z.v (L++[(t,q)])→Below lo w w'→wpList Tryz.prog ops Q rest (ac.put oo.dst z.v) w'):wpList Tryz.prog ops Q (oo :: rest) ac w:=by
 subst hm;obtain⟨i0,hi,hz0,hz1,hz2⟩:=info_parts info8P;refine wpList_append_own _ hgd s x 35 ho lo 32 i0 _ 8 72 Tryz.underlying35 hi hz0 hz1 hz2 rfl (by decide) v _ _ hs h.row ⟨gs,0,none⟩ 1 c (TV.cells t) hx rfl (fun j u hj=>?_) (tv_one t) ?_ ?_ hb ?_
 ·rw[Addr.add_lit,Nat.zero_add];exact hc.cell hj
 ·rw[List.length_map];unfold maxLen;omega
 ·rw[List.length_map];omega
 ·intro v' w' hown hg _
  have e1:(L++[(t,q)]).map Prod.fst=L.map Prod.fst++[t]:=by rw[List.map_append];rfl
  have e2:(L.map Prod.fst++[t]).flatMap TV.cells=(L.map Prod.fst).flatMap TV.cells++TV.cells t:=by rw[List.flatMap_append,List.flatMap_cons,List.flatMap_nil,List.append_nil]
  have hr:OT w' lo v' ((L++[(t,q)]).map Prod.fst):=by
   rw[e1];show w'.ownsRow _ _ _ _ _ _;rw[e2,List.length_append];exact hown
  have hE:ER w' lo v' (L++[(t,q)]):=⟨hr,fun e he=>by
   rcases List.mem_append.1 he with he | he
   ·exact(h.num e he).grown h.row hg
   ·rw[List.mem_singleton.1 he];exact hq.grown h.row hg⟩
  obtain⟨z,rfl,-⟩:=hE.slice;exact hK z w' hE ((Below.refl _ _).grown hg hb (fun g hg=>(World.ownsRow.lt h.row g hg).1))
theorem KP.get {w:World} {a:Option Addr} {n c:Nat} {P:List Tm} (h:KP w ⟨a,n,c⟩ P) {i:Nat} (hi:i<n):∃ (t:TV) (q:Rat) (b o:Nat),a=some ⟨b,o,none⟩∧RE w b o i t∧KF w t.c q∧P[i]?=some (t.m,q):=by
 obtain⟨L,h1,h2,h3,h4⟩:=h.ex;have hl:L.length=n:=h2;obtain⟨e,he⟩:∃ e,L[i]?=some e:=⟨_,List.getElem?_eq_getElem (by rw[hl];exact hi)⟩;obtain⟨b,o,ha,hc⟩:=(show RT w a (L.map Prod.fst) from h1).one (fun h0=>by rw[List.map_eq_nil_iff.1 h0] at he;simp at he);exact⟨e.1,e.2,b,o,ha,hc i e.1 (by rw[List.getElem?_map,he];rfl),h3 e (List.mem_of_getElem? he),by rw[← h4,List.getElem?_map,he];rfl⟩
structure Bt (W w:World):Prop where
 b:Below W.heap.size W w
theorem Bt.below {W w w':World} (h:Bt W w) (hb:Below w.heap.size w w'):Bt W w':=⟨h.b.trans (hb.mono h.b.size)⟩
theorem rfit_w {w:World} {x:PV} {P:List Tm} (h:AP w x P) (hq:∀ t∈P,LQ t.2 900000) (hn:x.n≤1000000000):∃ y:PV,KP w y P∧y.n≤x.n∧∀ W,Below w.heap.size w W→Calls Tryz.prog 47 #[x.v] W fun e w'=>e=.returned y.v∧Below W.heap.size W w':=by
 rcases h with h | ⟨h,rfl⟩
 ·exact⟨x,h,Nat.le_refl _,fun W hb=>rfit_k (h.below hb) hq hn⟩
 ·exact⟨⟨none,0,0⟩,KP.nil _ _ _,Nat.zero_le _,fun W hb=>rfit_b (h.below hb) hn⟩
theorem put4_ef {w:World} {lo b:Nat} {x:FV} {q:Rat} {t:TypeId} {u0 u1 u2 u3:Value} (h:EF w lo x q) (hb:Bxs w b t [u0,u1,u2,u3]) (ht:44≠t) (v0 v1 v2 v3:Value):EF (put4 w b v0 v1 v2 v3) lo x q :=
 (((h.setBxs hb ht 0 v0).setBxs (hb.put 0 v0) ht 1 v1).setBxs ((hb.put 0 v0).put 1 v1) ht 2 v2).setBxs (((hb.put 0 v0).put 1 v1).put 2 v2) ht 3 v3
theorem rtwinV {w:World} {c:FV} {p:Rat} (h1:AF w c p) (b1:LF c 900000) (hq:LQ p 900000):Calls Tryz.prog 48 #[c.v] w (RKV w p):=by
 obtain⟨V,hV⟩:∃ V,V=(w.alloc (.cells #[.bool c.t.s,.slice c.t.a c.t.n c.t.c,.bool c.l.s,.slice c.l.a c.l.n c.l.c] 28)).alloc (.cells #[.bool false,.slice none 0 0,.bool false,.slice none 0 0] 28):=⟨_,rfl⟩
 have hbV:Below w.heap.size w V:=by rw[hV];exact((Below.refl _ _).alloc (Nat.le_refl _) _).alloc (by go_size) _
 have B1:=qh (show Bxs V w.heap.size 28 [.bool c.t.s,.slice c.t.a c.t.n c.t.c,.bool c.l.s,.slice c.l.a c.l.n c.l.c] by rw[hV];exact(Bxs.new w 28 [.bool c.t.s,.slice c.t.a c.t.n c.t.c,.bool c.l.s,.slice c.l.a c.l.n c.l.c]).alloc _)
 have B2:=qh (show Bxs V (w.heap.size+1) 28 [.bool false,.slice none 0 0,.bool false,.slice none 0 0] by
  have h:=Bxs.new (w.alloc (.cells #[.bool c.t.s,.slice c.t.a c.t.n c.t.c,.bool c.l.s,.slice c.l.a c.l.n c.l.c] 28)) 28 [.bool false,.slice none 0 0,.bool false,.slice none 0 0];rw[World.size_alloc] at h
  rw[hV];exact h)
 have CN:=qh (show Calls Tryz.prog 84 #[.agg #[.bool c.t.s,.slice c.t.a c.t.n c.t.c,.bool c.l.s,.slice c.l.a c.l.n c.l.c]] V _ from rnegV (h1.below hbV) b1);have HQ:=qh (show LQ (-p) 900000 from⟨by rw[Rat.neg_num,Int.natAbs_neg];exact hq.t,by rw[Rat.neg_den];exact hq.l⟩);have KG:=qh hbV;have HV:=qh hV;obtain⟨A2,hA2⟩:∃ A,A=w.heap.size+1:=⟨_,rfl⟩;have HA2:=qh hA2;rw[← hA2] at B2;clear hV hbV h1 b1 hq hA2;change Calls Tryz.prog 48 #[.agg #[.bool c.t.s,.slice c.t.a c.t.n c.t.c,.bool c.l.s,.slice c.l.a c.l.n c.l.c]] w _;go_enter Tryz.func48,Tryz.ntmps48;have c10:=B1.out.cell (i:=0) rfl;have c11:=B1.out.cell (i:=1) rfl;have c12:=B1.out.cell (i:=2) rfl;have c13:=B1.out.cell (i:=3) rfl
 go_upto_region 1 with (fail)
 rw[show(w.alloc (.cells #[.bool c.t.s,.slice c.t.a c.t.n c.t.c,.bool c.l.s,.slice c.l.a c.l.n c.l.c] 28)).alloc (.cells #[.bool false,.slice none 0 0,.bool false,.slice none 0 0] 28)=V from HV.out.symm,show w.heap.size+1=A2 from HA2.out.symm];go_wp2_with fail
 with_reducible refine CN.out.mono ?_
 rintro e w1 ⟨d,rfl,hd,hb⟩;have ND:=qh hd;have B2:=qh (B2.out.below hb B2.out.lt);have KG:=qk KG hb;have CN:=qh (show Calls Tryz.prog 84 #[.agg #[.bool d.t.s,.slice d.t.a d.t.n d.t.c,.bool d.l.s,.slice d.l.a d.l.n d.l.c]] w1 _ from rnegV ND.out.k.any (ND.out.k.len HQ.out (Nat.le_refl _)));rw[Rat.neg_neg] at CN;clear hd hb c10 c11 c12 c13;go_wp2_with fail
 with_reducible refine CN.out.mono ?_
 rintro e w2 ⟨d2,rfl,hd,hb⟩;have ND:=qh hd;have B2:=qh (B2.out.below hb B2.out.lt);have KG2:=qh (KG.out.trans (hb.mono KG.out.size));have HSZ:=qh KG.out.size;clear hd hb CN;have c20:=B2.out.cell (i:=0) rfl;have c21:=B2.out.cell (i:=1) rfl;have c22:=B2.out.cell (i:=2) rfl;have c23:=B2.out.cell (i:=3) rfl;have c2f:=B2.out.fz;have c2l:=B2.out.lt;have HF:=qh (show EF (put4 w2 A2 (.bool d2.t.s) (.slice d2.t.a d2.t.n d2.t.c) (.bool d2.l.s) (.slice d2.l.a d2.l.n d2.l.c)) w.heap.size d2 p from put4_ef (ND.out.mono HSZ.out) B2.out (by decide) ..);go_wp2_with fail
 exact bodyPost_ret (results_cell rfl _ _ _ _ _ _ _ rfl (put4_bxs B2.out ..) Tryz.underlying28 rfl (by kernel_rfl)) rfl ⟨d2,rfl,HF.out,put4_below KG2.out (by rw[HA2.out];omega) ..⟩
theorem scaleL_get {P:List Tm} {r:Rat} {k:Nat} {m:Mo} {q:Rat} (h:P[k]?=some (m,q)):(scaleL r P)[k]?=some (m,q*r):=by
 unfold scaleL;rw[List.getElem?_map,h]
 rfl
theorem scale_small {P:List Tm} {r:Rat} (hc:Canon P) (h:∀ t∈P,t.1.Small):∀ t∈scaleP r P,t.1.Small:=by
 intro t ht
 by_cases hr:r=0
 ·rw[hr,scaleP_zero] at ht;cases ht
 ·rw[scaleP_map hc hr] at ht;obtain⟨u,hu,rfl⟩:=List.mem_map.1 ht;exact h u hu
theorem rscale_any (x:PV) (P:List Tm) (c:FV) (r:Rat) (w:World) (hx:AP w x P) (hq:∀ t∈P,LQ t.2 900000) (hxn:x.n≤1000000) (ac:AF w c r) (lc:LF c 900000) (lr:LQ r 900000) :
  Calls Tryz.prog 20 #[x.v,c.v] w fun e w'=>∃ y:PV,e=.returned y.v∧EP w' w.heap.size y (scaleP r P)∧Below w.heap.size w w':=by
 obtain⟨⟨za,zn,zc⟩,hz,hzn,hct⟩:=rfit_w hx hq (by omega);obtain⟨V,hV⟩:∃ V,V=w.alloc (.cells #[.bool c.t.s,.slice c.t.a c.t.n c.t.c,.bool c.l.s,.slice c.l.a c.l.n c.l.c] 28):=⟨_,rfl⟩
 have hbV:Below w.heap.size w V:=by rw[hV];exact(Below.refl _ _).alloc (Nat.le_refl _) _
 have B1:=qh (show Bxs V w.heap.size 28 [.bool c.t.s,.slice c.t.a c.t.n c.t.c,.bool c.l.s,.slice c.l.a c.l.n c.l.c] by rw[hV];exact Bxs.new w 28 [.bool c.t.s,.slice c.t.a c.t.n c.t.c,.bool c.l.s,.slice c.l.a c.l.n c.l.c]);have CT:=qh (hct V hbV);have AC:=qh (ac.below hbV);have LC:=qh lc;have LR:=qh lr;have FZ:=qh hz;have HQ:=qh hq;have KG:=qh hbV;have HV:=qh hV;have HZN:=qh (show zn≤1000000 from Nat.le_trans hzn hxn);have HPL:=qh (show zn=P.length from hz.len);obtain⟨xa,xn,xc⟩:=x;clear hV hbV hx ac lc lr hxn hzn hct hz hq;change Calls Tryz.prog 20 #[.slice xa xn xc,.agg #[.bool c.t.s,.slice c.t.a c.t.n c.t.c,.bool c.l.s,.slice c.l.a c.l.n c.l.c]] w _;go_enter Tryz.func20,Tryz.ntmps20;go_wp2_with fail
 rw[show w.alloc (.cells #[.bool c.t.s,.slice c.t.a c.t.n c.t.c,.bool c.l.s,.slice c.l.a c.l.n c.l.c] 28)=V from HV.out.symm];with_reducible refine CT.out.mono ?_
 rintro e w1 ⟨he,hb⟩;obtain rfl:e=.returned (.slice za zn zc):=he;have B1:=qh (B1.out.below hb B1.out.lt);have KG:=qk KG hb;have CF:=qh (show Calls Tryz.prog 49 #[.agg #[.bool c.t.s,.slice c.t.a c.t.n c.t.c,.bool c.l.s,.slice c.l.a c.l.n c.l.c]] w1 _ from rfitQ (x:=c) (AC.out.below hb) LC.out);clear hb CT AC LC;have c10:=B1.out.cell (i:=0) rfl;have c11:=B1.out.cell (i:=1) rfl;have c12:=B1.out.cell (i:=2) rfl;have c13:=B1.out.cell (i:=3) rfl;go_wp2_with fail
 with_reducible refine CF.out.mono ?_
 rintro e w2 ⟨d,rfl,hd,hb⟩;have NC:=qh hd;have B1:=qh (B1.out.below hb B1.out.lt);have KG:=qk KG hb;have HLD:=qh (show LF d 900000 from hd.len LR.out (Nat.le_refl _));clear hd hb CF c10 c11 c12 c13;have c10:=B1.out.cell (i:=0) rfl;have c11:=B1.out.cell (i:=1) rfl;have c12:=B1.out.cell (i:=2) rfl;have c13:=B1.out.cell (i:=3) rfl;have c1f:=B1.out.fz;have c1l:=B1.out.lt
 go_upto_region 3 with (fail)
 obtain⟨W,hW⟩:∃ W,W=put4 w2 w.heap.size (.bool d.t.s) (.slice d.t.a d.t.n d.t.c) (.bool d.l.s) (.slice d.l.a d.l.n d.l.c):=⟨_,rfl⟩;have NC:=qh (show KF W d r by rw[hW];exact put4_kf NC.out B1.out rfl rfl rfl rfl rfl rfl rfl);have KG:=qh (show Below w.heap.size w W by rw[hW];exact put4_below KG.out (Nat.le_refl _) ..);have B1:=qh (show Bxs W w.heap.size 28 [.bool d.t.s,.slice d.t.a d.t.n d.t.c,.bool d.l.s,.slice d.l.a d.l.n d.l.c] by rw[hW];exact put4_bxs B1.out ..);unfold put4 at hW;rw[← hW];clear hW c10 c11 c12 c13 c1f c1l;obtain⟨sg,hsg⟩:∃ c,c=cmpZ r.num 0:=⟨_,rfl⟩;have HSG:=qh hsg.symm;have HLW:=qh KG.out.size;have HGS:=qh (show(sg != 0)=decide (r≠0) by rw[hsg];exact sg_ne);clear hsg;go_wp2_with fail
 go_loopw [5,6] (fun o i wr=>∃ (k:Nat) (y:PV) (L:List TE),o=y.v∧i=.int .i64 k∧k≤zn∧ER wr W.heap.size y.v L∧L.map tm=(scaleL r P).take k∧(0<k→r≠0)∧Below W.heap.size W wr) (fun _ i _=>zn-(intOf i).toNat)
 case atStart=>exact⟨0,⟨none,0,0⟩,[],rfl,rfl,Nat.zero_le _,ER.nil,rfl,fun h=>absurd h (Nat.lt_irrefl _),Below.refl _ _⟩
 case round =>
  obtain⟨k,⟨oa,on,oc⟩,L,ho,rfl,hkz,her,hL,hk0,hb0⟩:=hrel;obtain rfl:_=Value.slice oa on oc:=ho;have HKZ:=qh hkz;have ERR:=qh her;have HL:=qh hL;have HK0:=qh hk0;have KW:=qh (show Bt W wr from⟨hb0⟩);have B1:=qh (B1.out.below hb0 B1.out.lt);have NC:=qh (NC.out.below hb0);have KG:=qk KG hb0;have HOL:=qh (show L.length≤zn by have h:=congrArg List.length hL;rw[List.length_map,List.length_take] at h;omega);clear hkz her hL hk0 hb0
  by_cases hkl:k<zn
  ·have HKL:=qh hkl
   have hkl2:(k:Int)<(zn:Int):=by omega
   have CS:=qh (show Calls Tryz.prog 45 #[.agg #[.bool d.t.s,.slice d.t.a d.t.n d.t.c,.bool d.l.s,.slice d.l.a d.l.n d.l.c]] wr _ from rsignV (x:=d) NC.out.any HLD.out);rw[HSG.out] at CS;clear hkl;have c10:=B1.out.cell (i:=0) rfl;have c11:=B1.out.cell (i:=1) rfl;have c12:=B1.out.cell (i:=2) rfl;have c13:=B1.out.cell (i:=3) rfl;go_wp2_with fail
   with_reducible refine CS.out.mono ?_
   rintro e w3 ⟨rfl,hb⟩;have ERR:=qh (ERR.out.below hb);have NC:=qh (NC.out.below hb);have KW:=qh (KW.out.below hb);have B1:=qh (B1.out.below hb B1.out.lt);have KG:=qk KG hb;clear hb CS c10 c11 c12 c13
   by_cases hr:r=0
   ·have g0:(sg != 0)=false:=by rw[HGS.out];exact decide_eq_false fun h=>h hr
    have g1:sg=0:=by simpa using g0
    have HK:=qh (show k=0 from Nat.eq_zero_of_not_pos fun h=>HK0.out h hr);have HR:=qh hr;clear hr;go_wp2_with fail
    go_ret;refine⟨⟨oa,on,oc⟩,rfl,⟨⟨L,ERR.out.mono HLW.out,?_⟩,scaleP_canon _ _,?_⟩,KG.out⟩
    ·rw[HL.out,HK.out,HR.out,scaleP_zero];rfl
    ·rw[HR.out,scaleP_zero];intro t ht;cases ht
   ·have g0:(sg != 0)=true:=by rw[HGS.out];exact decide_eq_true hr
    have g1:¬(sg=0):=by simpa using g0
    have HR:=qh hr;obtain⟨t,q,pb,po,rfl,hre,hnf,htp⟩:=FZ.out.get HKL.out;have E1:=qh (hre.below KG.out);have NF:=qh (hnf.below KG.out);have HTP:=qh htp;have HLF:=qh (show LF t.c 900000 from hnf.len (HQ.out _ (List.mem_of_getElem? htp)) (Nat.le_refl _));have HLO:=qh KW.out.b.size;clear hr hre hnf htp
    go_upto_region 7 with (fail)
    refine FS.wp_region_fresh 15 [] (FS.spOf [(7,FS.Sp.made (fun x:FV=>x.v) (fun x w'=>EF w' w3.heap.size x (q*r)) FV.blk),(14,FS.Sp.made (fun b:Nat=>Value.slice (some ⟨b,0,none⟩) 1 1) (fun b w'=>NewT w' w3.heap.size b t.m (q*r)) (fun _ _=>False))])
     (fun w'=>Below w3.heap.size w3 w') (by kernel_rfl) (by kernel_rfl) (by kernel_rfl)
     (FS.spOf_cons (FS.Sp.made_keeps _ (fun _ _ _ h _ hk=>h.kept hk) (FS.notTaken (by kernel_rfl))) (FS.spOf_cons (FS.Sp.made_keepsR _ rowE (fun _ _ _ h hs=>h.rows hs) (by kernel_rfl) (FS.notTaken (by kernel_rfl))) (FS.spOf_nil))) (fun _ _ h hb=>h.trans (hb.mono h.size)) ((Below.refl _ _).drew) ?_
    simp only[List.append_eq,List.cons_append,List.nil_append,List.take_succ_cons,List.take_zero,List.drop_succ_cons,List.drop_zero]
    iterate 7
     refine FS.wpF_reads rfl rfl rfl ?_ (fun w' hw'=>?_) ?_;rotate_left
     ·have hb':=hw'.world;have hn:=HKL.out;obtain⟨hs0,hs1,hs2,hs3,hs4,hs5,hs6,hs7⟩:=(E1.out.below hb').eight;have hs0:=(B1.out.below hb' B1.out.lt).cell (i:=0) rfl;have hs1:=(B1.out.below hb' B1.out.lt).cell (i:=1) rfl;have hs2:=(B1.out.below hb' B1.out.lt).cell (i:=2) rfl;have hs3:=(B1.out.below hb' B1.out.lt).cell (i:=3) rfl;have hsf:=(B1.out.below hb' B1.out.lt).fz;have hsl:=(B1.out.below hb' B1.out.lt).lt;clear hw';go_simp
      try rfl
     conv=>arg 10;simp only[Act.put,zq0,zq1,zq2]
    refine FS.wpF_spec rfl rfl rfl (fun w' hw'=>?_) ?_
    ·have hb':=hw'.world;refine FS.gives_of (FS.PM (fun x:FV=>x.v) (fun x w'=>EF w' w3.heap.size x (q*r)) FV.blk w'.heap.size) ?_ (fun _ _ h=>h.post (fun _ _=>FV.inj));go_simp;have CT:=(show Calls Tryz.prog 50 #[.agg #[.bool t.c.t.s,.slice t.c.t.a t.c.t.n t.c.t.c,.bool t.c.l.s,.slice t.c.l.a t.c.l.n t.c.l.c],.agg #[.bool d.t.s,.slice d.t.a d.t.n d.t.c,.bool d.l.s,.slice d.l.a d.l.n d.l.c]] w' _ from rmulV (x:=t.c) (y:=d) (NF.out.below hb').any HLF.out (NC.out.below hb').any HLD.out);refine CT.mono ?_;rintro e w'' ⟨za,rfl,ho,hb⟩;exact⟨_,rfl,⟨za,rfl,ho.mono hb'.size,ho.blks⟩,hb⟩
    rintro _ ⟨y7,rfl⟩
    conv=>arg 10;simp only[Act.put,zq0,zq1,zq2]
    iterate 6
     refine FS.wpF_reads rfl rfl rfl ?_ (fun w' hw'=>?_) ?_;rotate_left
     ·have hb':=hw'.world;have hn:=HKL.out;obtain⟨hs0,hs1,hs2,hs3,hs4,hs5,hs6,hs7⟩:=(E1.out.below hb').eight;clear hw';go_simp
      try rfl
     conv=>arg 10;simp only[Act.put,zq0,zq1,zq2]
    refine FS.wpF_spec rfl rfl rfl (fun w' hw'=>?_) ?_
    ·have hb':=hw'.world;refine FS.gives_of (FS.PM (fun b:Nat=>Value.slice (some ⟨b,0,none⟩) 1 1) (fun b w'=>NewT w' w3.heap.size b t.m (q*r)) (fun _ _=>False) w'.heap.size) ?_ (fun _ _ h=>h.post (fun _ _ h=>by cases h;rfl));go_simp;have f7:=FS.made_of (val:=(fun x:FV=>x.v)) (Φ:=fun x w'=>EF w' w3.heap.size x (q*r)) (fun _ _=>FV.inj) (hw'.fact2 13 7 (by kernel_rfl) (by kernel_rfl));exact⟨⟨w'.heap.size,rfl,⟨⟨y7,Bxs.new w' _ (TV.cells ⟨y7,t.m⟩),f7.alloc _⟩⟩,fun _ h=>False.elim h⟩,(Below.refl _ _).alloc (Nat.le_refl _) _⟩
    rintro _ ⟨y14,rfl⟩
    conv=>arg 10;simp only[Act.put,zq0,zq1,zq2]
    refine FS.wpF_nil (fun w101 hb hF=>?_);obtain⟨⟨yy104,hB,hE⟩⟩:=FS.made_of (val:=(fun b:Nat=>Value.slice (some ⟨b,0,none⟩) 1 1)) (Φ:=fun b w'=>NewT w' w3.heap.size b t.m (q*r)) (fun _ _ h=>by cases h;rfl) (hF.all 14);have NB102:=qh hB;have NE103:=qh hE;clear hB hE;clear hF;have NF:=qh (NF.out.below hb);have NC:=qh (NC.out.below hb);have ERR:=qh (ERR.out.below hb);have KW:=qh (KW.out.below hb);have B1:=qh (B1.out.below hb B1.out.lt);have KG:=qk KG hb;clear hb;go_wp2_with (first | (at_builtin;refine wpList_pushE (t:=⟨yy104,t.m⟩) rfl _ _ rfl rfl ERR.out (by have:=HOL.out;have:=HZN.out;omega) KW.out.b.size rfl NB102.out (NE103.out.mono HLO.out) rfl ?_))
    intro z9 w9 her9 hb9;obtain⟨za9,zn9,zc9⟩:=z9;have ER9:=qh her9;have HB9:=qh hb9;clear her9 hb9;have ek1:IntKind.i64.wrap ((k:Int)+1)=(k:Int)+1:=IntWalk.i64_in _ (by have:=HKL.out;have:=HZN.out;omega);go_wp2_with fail
    go_roundw
    case rel =>
     refine⟨k+1,⟨za9,zn9,zc9⟩,L++[(⟨yy104,t.m⟩,q*r)],rfl,rfl,HKL.out,ER9.out,?_,fun _=>HR.out,KW.out.b.trans HB9.out⟩;rw[List.map_append,HL.out,List.take_add_one,scaleL_get HTP.out]
     rfl
    case measure=>simp[intOf];have:=HKL.out;omega
  ·have HKE:=qh (show k=zn by have:=HKZ.out;omega)
   have hge:¬((k:Int)<(zn:Int)):=by omega
   clear hkl;go_wp2_with fail
   go_ret;refine⟨⟨oa,on,oc⟩,rfl,⟨⟨L,ERR.out.mono HLW.out,?_⟩,scaleP_canon _ _,scale_small FZ.out.canon FZ.out.small⟩,KG.out⟩;rw[HL.out,HKE.out,HPL.out]
   by_cases hr:r=0
   ·have h0:P.length=0:=Nat.eq_zero_of_not_pos fun h=>HK0.out (by rw[HKE.out,HPL.out];exact h) hr
    rw[hr,scaleP_zero,h0]
    rfl
   ·rw[scaleP_map FZ.out.canon hr,List.take_of_length_le (by unfold scaleL;rw[List.length_map];exact Nat.le_refl _)]
theorem rmono_mul (a b:Mo) (w:World) (h:(a.mul b).Small):Calls Tryz.prog 55 #[Mo.v a,Mo.v b] w fun e w'=>e=.returned (.tuple #[Mo.v (a.mul b),.int .i64 0])∧Below w.heap.size w w':=by
 obtain⟨h1,h2,h3,h4⟩:=h;change a.x+b.x≤65535 at h1;change a.y+b.y≤65535 at h2;change a.z+b.z≤65535 at h3;change a.t+b.t≤65535 at h4
 have hs:∀ m:Mo,m.Small→Mono.Small (fun i=>((m.at i:Nat):Int)):=fun m hm i hi=>by
  obtain⟨g1,g2,g3,g4⟩:=hm
  match i,hi with
  | 0,_=>exact⟨Int.natCast_nonneg _,by show(m.x:Int)≤_;omega⟩
  | 1,_=>exact⟨Int.natCast_nonneg _,by show(m.y:Int)≤_;omega⟩
  | 2,_=>exact⟨Int.natCast_nonneg _,by show(m.z:Int)≤_;omega⟩
  | 3,_=>exact⟨Int.natCast_nonneg _,by show(m.t:Int)≤_;omega⟩
 have hB:Mono.mulB (fun i=>((a.at i:Nat):Int)) (fun i=>((b.at i:Nat):Int))=true:=decide_eq_true (by
  show(a.x:Int)+b.x≤65535∧(a.y:Int)+b.y≤65535∧(a.z:Int)+b.z≤65535∧(a.t:Int)+b.t≤65535
  omega)
 refine(Mono.rmul_any (fun i=>((a.at i:Nat):Int)) (fun i=>((b.at i:Nat):Int)) w (hs a ⟨by omega,by omega,by omega,by omega⟩) (hs b ⟨by omega,by omega,by omega,by omega⟩)).mono ?_;rintro e w' ⟨rfl,hb⟩;refine⟨?_,hb⟩;unfold Mono.mulE Mono.mulM;simp only[hB,if_true]
 rfl
theorem rmono_mulX (a b:Mo) (w:World) (ha:a.Small) (hb:b.Small) (h:¬(a.mul b).Small):Calls Tryz.prog 55 #[Mo.v a,Mo.v b] w fun e w'=>e=.returned (.tuple #[.agg #[.int .u16 0,.int .u16 0,.int .u16 0,.int .u16 0],.int .i64 3])∧Below w.heap.size w w':=by
 have hs:∀ m:Mo,m.Small→Mono.Small (fun i=>((m.at i:Nat):Int)):=fun m hm i hi=>by
  obtain⟨g1,g2,g3,g4⟩:=hm
  match i,hi with
  | 0,_=>exact⟨Int.natCast_nonneg _,by show(m.x:Int)≤_;omega⟩
  | 1,_=>exact⟨Int.natCast_nonneg _,by show(m.y:Int)≤_;omega⟩
  | 2,_=>exact⟨Int.natCast_nonneg _,by show(m.z:Int)≤_;omega⟩
  | 3,_=>exact⟨Int.natCast_nonneg _,by show(m.t:Int)≤_;omega⟩
 have hB:Mono.mulB (fun i=>((a.at i:Nat):Int)) (fun i=>((b.at i:Nat):Int))=false:=decide_eq_false (by
  show ¬((a.x:Int)+b.x≤65535∧(a.y:Int)+b.y≤65535∧(a.z:Int)+b.z≤65535∧(a.t:Int)+b.t≤65535);intro h2;refine h ⟨?_,?_,?_,?_⟩
  ·show a.x+b.x≤65535;omega
  ·show a.y+b.y≤65535;omega
  ·show a.z+b.z≤65535;omega
  ·show a.t+b.t≤65535;omega)
 refine(Mono.rmul_any (fun i=>((a.at i:Nat):Int)) (fun i=>((b.at i:Nat):Int)) w (hs a ha) (hs b hb)).mono ?_;rintro e w' ⟨rfl,hb⟩;refine⟨?_,hb⟩;unfold Mono.mulE Mono.mulM;simp only[hB]
 rfl
theorem rmono_div (a b:Mo) (w:World) (ha:a.Small) (hb:b.Small) (h:b.stands a):Calls Tryz.prog 52 #[Mo.v a,Mo.v b] w fun e w'=>e=.returned (.tuple #[Mo.v (a.quo b),.bool true])∧Below w.heap.size w w':=by
 obtain⟨h1,h2,h3,h4⟩:=h
 have hB:Mono.divB (fun i=>((a.at i:Nat):Int)) (fun i=>((b.at i:Nat):Int))=true:=decide_eq_true (by
  show(b.x:Int)≤a.x∧(b.y:Int)≤a.y∧(b.z:Int)≤a.z∧(b.t:Int)≤a.t
  omega)
 refine(Mono.rdiv_any (fun i=>((a.at i:Nat):Int)) (fun i=>((b.at i:Nat):Int)) w (moS ha) (moS hb)).mono ?_;rintro e w' ⟨rfl,hb⟩;refine⟨?_,hb⟩
 have e0:(a.x:Int)-b.x=((a.x-b.x:Nat):Int):=by omega
 have e1:(a.y:Int)-b.y=((a.y-b.y:Nat):Int):=by omega
 have e2:(a.z:Int)-b.z=((a.z-b.z:Nat):Int):=by omega
 have e3:(a.t:Int)-b.t=((a.t-b.t:Nat):Int):=by omega
 show Ending.returned (.tuple #[.agg #[.int .u16 (Mono.divM _ _ 0),.int .u16 (Mono.divM _ _ 1),.int .u16 (Mono.divM _ _ 2),.int .u16 (Mono.divM _ _ 3)],.bool (Mono.divB _ _)])=.returned (.tuple #[.agg #[.int .u16 ((a.x-b.x:Nat):Int),.int .u16 ((a.y-b.y:Nat):Int),.int .u16 ((a.z-b.z:Nat):Int),.int .u16 ((a.t-b.t:Nat):Int)],.bool true]);rw[hB,Mono.div_true hB,Mono.div_true hB,Mono.div_true hB,Mono.div_true hB,← e0,← e1,← e2,← e3]
 rfl
theorem rmono_divN (a b:Mo) (w:World) (ha:a.Small) (hb:b.Small) (h:¬b.stands a):Calls Tryz.prog 52 #[Mo.v a,Mo.v b] w fun e w'=>e=.returned (.tuple #[.agg #[.int .u16 0,.int .u16 0,.int .u16 0,.int .u16 0],.bool false])∧Below w.heap.size w w':=by
 have hB:Mono.divB (fun i=>((a.at i:Nat):Int)) (fun i=>((b.at i:Nat):Int))=false:=decide_eq_false (by
  show ¬((b.x:Int)≤a.x∧(b.y:Int)≤a.y∧(b.z:Int)≤a.z∧(b.t:Int)≤a.t);intro h2
  exact h ⟨by omega,by omega,by omega,by omega⟩)
 refine(Mono.rdiv_any (fun i=>((a.at i:Nat):Int)) (fun i=>((b.at i:Nat):Int)) w (moS ha) (moS hb)).mono ?_;rintro e w' ⟨rfl,hb⟩;refine⟨?_,hb⟩;rw[hB,Mono.divB_false hB]
 rfl
theorem rdivV {w:World} {x y:FV} {p q:Rat} (h1:KF w x p) (b1:LF x 900000) (h2:KF w y q) (b2:LF y 900000) (hz:q≠0):Calls Tryz.prog 53 #[x.v,y.v] w fun e w'=>∃ z:FV,e=.returned (.tuple #[z.v,.int .i64 0])∧EF w' w.heap.size z (p/q)∧Below w.heap.size w w':=by
 obtain⟨x1,x2⟩:=x;obtain⟨y1,y2⟩:=y;obtain⟨s1,a1,n1,c1⟩:=x1;obtain⟨s2,a2,n2,c2⟩:=x2;obtain⟨s3,a3,n3,c3⟩:=y1;obtain⟨s4,a4,n4,c4⟩:=y2;obtain⟨⟨e1,e2,r1,l1⟩,⟨e3,e4,r2,l2⟩⟩:=h1;obtain⟨⟨e5,e6,r3,l3⟩,⟨e7,e8,r4,l4⟩⟩:=h2;simp only at e1 e2 e3 e4 e5 e6 e7 e8;subst e1 e2 e3 e4 e5 e6 e7 e8;obtain⟨g1,g2⟩:=b1;obtain⟨g3,g4⟩:=b2;refine(rfdiv_ok _ a1 _ c1 _ _ a2 _ c2 _ _ a3 _ c3 _ _ a4 _ c4 _ w p q (valF_canon p).symm (valF_canon q).symm r1 g1 l1 r2 g2 l2 r3 g3 l3 r4 g4 l4 (okF_canon p) (okF_canon q) hz).mono ?_;rintro e w' ⟨b1,d1,b2,d2,rfl,o1,o2,hb⟩;exact⟨⟨⟨_,b1,_,d1⟩,⟨_,b2,_,d2⟩⟩,rfl,⟨⟨rfl,rfl,o1⟩,⟨rfl,rfl,o2⟩⟩,hb⟩
theorem KP.at_ {w:World} {b o n c:Nat} {P:List Tm} (h:KP w ⟨some ⟨b,o,none⟩,n,c⟩ P) {i:Nat} (hi:i<n):∃ (t:TV) (q:Rat),RE w b o i t∧KF w t.c q∧P[i]?=some (t.m,q):=by
 obtain⟨t,q,b',o',e,h1,h3,h2⟩:=h.get hi
 obtain⟨rfl,rfl⟩:b=b'∧o=o':=by injection e with e;injection e with e1 e2;exact⟨e1,e2⟩
 exact⟨t,q,h1,h3,h2⟩
theorem put8_ef {w:World} {lo b:Nat} {x:FV} {q:Rat} {t:TypeId} {l:List Value} (h:EF w lo x q) (hb:Bxs w b t l) (ht:44≠t) (v0 v1 v2 v3 v4 v5 v6 v7:Value):EF (put8 w b v0 v1 v2 v3 v4 v5 v6 v7) lo x q :=
 (((((((h.setBxs hb ht 0 v0).setBxs (hb.put 0 v0) ht 1 v1).setBxs ((hb.put 0 v0).put 1 v1) ht 2 v2).setBxs (((hb.put 0 v0).put 1 v1).put 2 v2) ht 3 v3).setBxs ((((hb.put 0 v0).put 1 v1).put 2 v2).put 3 v3) ht 4 v4).setBxs (((((hb.put 0 v0).put 1 v1).put 2 v2).put 3 v3).put 4 v4) ht 5 v5).setBxs ((((((hb.put 0 v0).put 1 v1).put 2 v2).put 3 v3).put 4 v4).put 5 v5) ht 6 v6).setBxs (((((((hb.put 0 v0).put 1 v1).put 2 v2).put 3 v3).put 4 v4).put 5 v5).put 6 v6) ht 7 v7
theorem rlead_any (o:Int) (x:PV) (P:List Tm) (w:World) (hx:AP w x P) (hq:∀ t∈P,LQ t.2 900000) (hn:x.n≤1000000) (hne:P≠[]) :
  Calls Tryz.prog 19 #[.int .u8 o,x.v] w fun e w'=>∃ (y:FV) (t:Tm),e=.returned (.tuple #[TV.v ⟨y,t.1⟩,.bool true])∧EF w' w.heap.size y t.2∧Lead (keyO o) P t∧Below w.heap.size w w':=by
 obtain⟨⟨za,zn,zc⟩,hz,hzn,hct⟩:=rfit_w hx hq (by omega);obtain⟨V,hV⟩:∃ V,V=w.alloc (.cells #[.bool false,.slice none 0 0,.bool false,.slice none 0 0,.int .u16 0,.int .u16 0,.int .u16 0,.int .u16 0] 32):=⟨_,rfl⟩
 have hbV:Below w.heap.size w V:=by rw[hV];exact(Below.refl _ _).alloc (Nat.le_refl _) _
 have B4:=qh (show Bxs V w.heap.size 32 [.bool false,.slice none 0 0,.bool false,.slice none 0 0,.int .u16 0,.int .u16 0,.int .u16 0,.int .u16 0] by rw[hV];exact Bxs.new w 32 [.bool false,.slice none 0 0,.bool false,.slice none 0 0,.int .u16 0,.int .u16 0,.int .u16 0,.int .u16 0]);have CT:=qh (hct V hbV);have FZ:=qh hz;have HQ:=qh hq;have HN:=qh (show zn≤1000000 from Nat.le_trans hzn hn);have HL:=qh (show zn=P.length from hz.len);have HNE:=qh hne;have KG:=qh hbV;have HV:=qh hV;obtain⟨xa,xn,xc⟩:=x;clear hx hq hn hne hz hzn hct hbV hV;change Calls Tryz.prog 19 #[.int .u8 o,.slice xa xn xc] w _;go_enter Tryz.func19,Tryz.ntmps19
 go_upto_region 1 with (fail)
 rw[show w.alloc (.cells #[.bool false,.slice none 0 0,.bool false,.slice none 0 0,.int .u16 0,.int .u16 0,.int .u16 0,.int .u16 0] 32)=V from HV.out.symm];go_wp2_with fail
 with_reducible refine CT.out.mono ?_
 rintro e w1 ⟨he,hb⟩;obtain rfl:e=.returned (.slice za zn zc):=he;have B4:=qh (B4.out.below hb B4.out.lt);have KG:=qk KG hb;have HPOS:=qh (show 0<zn by rw[HL.out];exact List.length_pos_iff.2 HNE.out);obtain⟨t0,q0,pb,po,rfl,hre,hnf,htp⟩:=FZ.out.get HPOS.out;have E0:=qh (hre.below KG.out);have HT0:=qh htp;have HK0:=qh hnf
 have h0:¬((zn:Int)=0):=by have:=HPOS.out;omega
 have HP0:(0:Int)<(zn:Int):=by have:=HPOS.out;omega
 clear hb CT hre hnf htp;obtain⟨c0,c1,c2,c3,c4,c5,c6,c7⟩:=E0.out.eight;simp only[Nat.zero_mul,Nat.add_zero] at c0 c1 c2 c3 c4 c5 c6 c7
 go_upto_region 5 with (fail)
 obtain⟨U,hU⟩:∃ U,U=w1.alloc (.cells #[.bool t0.c.t.s,.slice t0.c.t.a t0.c.t.n t0.c.t.c,.bool t0.c.l.s,.slice t0.c.l.a t0.c.l.n t0.c.l.c,.int .u16 t0.m.x,.int .u16 t0.m.y,.int .u16 t0.m.z,.int .u16 t0.m.t] 32):=⟨_,rfl⟩
 have hbU:Below w1.heap.size w1 U:=by rw[hU];exact(Below.refl _ _).alloc (Nat.le_refl _) _
 have B6:=qh (show Bxs U w1.heap.size 32 [.bool t0.c.t.s,.slice t0.c.t.a t0.c.t.n t0.c.t.c,.bool t0.c.l.s,.slice t0.c.l.a t0.c.l.n t0.c.l.c,.int .u16 t0.m.x,.int .u16 t0.m.y,.int .u16 t0.m.z,.int .u16 t0.m.t] by rw[hU];exact Bxs.new w1 32 [.bool t0.c.t.s,.slice t0.c.t.a t0.c.t.n t0.c.t.c,.bool t0.c.l.s,.slice t0.c.l.a t0.c.l.n t0.c.l.c,.int .u16 t0.m.x,.int .u16 t0.m.y,.int .u16 t0.m.z,.int .u16 t0.m.t]);obtain⟨A2,hA2⟩:∃ A,A=w1.heap.size:=⟨_,rfl⟩;have HA2:=qh (show w.heap.size≤A2 by rw[hA2];exact KG.out.size);have HAN:=qh (show w.heap.size≠A2 by have:=B4.out.lt;omega);have B4:=qh (B4.out.below hbU B4.out.lt);have KG:=qk KG hbU;rw[← hU,← hA2];rw[← hA2] at B6;clear hU hbU hA2 c0 c1 c2 c3 c4 c5 c6 c7 h0 HP0 E0;go_wp2_with fail
 go_loopw [7] (fun i wr=>∃ (j:Nat) (t:TV) (k:Nat) (q:Rat),1≤j∧j≤zn∧i=.int .i64 j∧k<zn∧KF w t.c q∧P[k]?=some (t.m,q)∧(∀ (i:Nat) (u:Tm),P[i]?=some u→i<j→keyO o u.1≤keyO o t.m)∧Bxs wr A2 32 [.bool t.c.t.s,.slice t.c.t.a t.c.t.n t.c.t.c,.bool t.c.l.s,.slice t.c.l.a t.c.l.n t.c.l.c,.int .u16 t.m.x,.int .u16 t.m.y,.int .u16 t.m.z,.int .u16 t.m.t]∧Bxs wr w.heap.size 32 [.bool false,.slice none 0 0,.bool false,.slice none 0 0,.int .u16 0,.int .u16 0,.int .u16 0,.int .u16 0]∧Below w.heap.size w wr) (fun i _=>zn-(intOf i).toNat)
 case atStart =>
  refine⟨1,t0,0,q0,Nat.le_refl _,HPOS.out,rfl,HPOS.out,HK0.out,HT0.out,fun i u h1 h2=>?_,B6.out,B4.out,KG.out⟩
  obtain rfl:i=0:=by omega
  rw[HT0.out] at h1;obtain rfl:=Option.some.inj h1;exact Int.le_refl _
 case round =>
  obtain⟨j,t,k,q,hj1,hj,rfl,hkn,hkf,hpk,hmax,hB6,hB4,hb0⟩:=hrel;have HJ1:=qh hj1;have HJ:=qh hj;have HKN:=qh hkn;have HKF:=qh hkf;have HPK:=qh hpk;have HMX:=qh hmax;have B6:=qh hB6;have B4:=qh hB4;have KG:=qh hb0;clear hj1 hj hkn hkf hpk hmax hB6 hB4 hb0;have HST:=qh (show t.m.Small from FZ.out.small _ (List.mem_of_getElem? HPK.out))
  by_cases hjn:j<zn
  ·have HJN:=qh hjn
   have hjn2:(j:Int)<(zn:Int):=by omega
   obtain⟨u,uq,hre,hku,hup⟩:=FZ.out.at_ hjn;have HKU:=qh hku;have HU:=qh hup;have HRE:=qh hre;have E1:=qh (hre.below KG.out);have HSU:=qh (show u.m.Small from FZ.out.small _ (List.mem_of_getElem? hup));obtain⟨cv,hcv⟩:∃ c,c=Mono.cmpZ (keyO o u.m) (keyO o t.m):=⟨_,rfl⟩;have HCV:=qh hcv;have ek:IntKind.i64.wrap ((j:Int)+1)=(j:Int)+1:=IntWalk.i64_in _ (by have:=HJN.out;have:=HN.out;omega);clear hup hcv hre hku hjn
   go_upto_region 8 with (fail)
   refine FS.wp_region_fresh 9 [] (FS.spOf [(8,FS.Sp.know (.int .i64 cv))])
    (fun w'=>Below wr.heap.size wr w') (by kernel_rfl) (by kernel_rfl) (by kernel_rfl)
    (FS.spOf_cons (FS.Sp.know_keeps _ _) (FS.spOf_nil)) (fun _ _ h hb=>h.trans (hb.mono h.size)) ((Below.refl _ _).drew) ?_
   simp only[List.append_eq,List.cons_append,List.nil_append,List.take_succ_cons,List.take_zero,List.drop_succ_cons,List.drop_zero]
   iterate 8
    refine FS.wpF_reads rfl rfl rfl ?_ (fun w' hw'=>?_) ?_;rotate_left
    ·have hb':=hw'.world;obtain⟨hs0,hs1,hs2,hs3,hs4,hs5,hs6,hs7⟩:=(E1.out.below hb').eight;have hs0:=(B6.out.below hb' B6.out.lt).cell (i:=0) rfl;have hs1:=(B6.out.below hb' B6.out.lt).cell (i:=1) rfl;have hs2:=(B6.out.below hb' B6.out.lt).cell (i:=2) rfl;have hs3:=(B6.out.below hb' B6.out.lt).cell (i:=3) rfl;have hs4:=(B6.out.below hb' B6.out.lt).cell (i:=4) rfl;have hs5:=(B6.out.below hb' B6.out.lt).cell (i:=5) rfl;have hs6:=(B6.out.below hb' B6.out.lt).cell (i:=6) rfl;have hs7:=(B6.out.below hb' B6.out.lt).cell (i:=7) rfl;have hsf:=(B6.out.below hb' B6.out.lt).fz;have hsl:=(B6.out.below hb' B6.out.lt).lt;clear hw';go_simp
     try rfl
    conv=>arg 10;simp only[Act.put,zq0,zq1,zq2]
   refine FS.wpF_spec rfl rfl rfl (fun w' hw'=>?_) ?_
   ·have hb':=hw'.world;refine FS.gives_of (FS.PK (.int .i64 cv)) ?_ (fun _ _ h=>h.post);go_simp;have CT:=(show Calls Tryz.prog 46 #[.int .u8 o,.agg #[.int .u16 u.m.x,.int .u16 u.m.y,.int .u16 u.m.z,.int .u16 u.m.t],.agg #[.int .u16 t.m.x,.int .u16 t.m.y,.int .u16 t.m.z,.int .u16 t.m.t]] w' _ from rcmpV o u.m t.m w' HSU.out HST.out);rw[show Mono.cmpZ (keyO o u.m) (keyO o t.m)=cv from HCV.out.symm] at CT;refine CT.mono ?_;rintro e w'' ⟨rfl,hb⟩;exact⟨_,rfl,rfl,hb⟩
   rintro _ rfl
   conv=>arg 10;simp only[Act.put,zq0,zq1,zq2]
   refine FS.wpF_nil (fun w101 hb hF=>?_);clear hF;have B6:=qh (B6.out.below hb B6.out.lt);have B4:=qh (B4.out.below hb B4.out.lt);have KG:=qk KG hb;clear hb
   by_cases hcp:cv>0
   ·have hcq:0<cv:=hcp;have HCP:=qh hcp;have E1:=qh (HRE.out.below KG.out);obtain⟨c0,c1,c2,c3,c4,c5,c6,c7⟩:=E1.out.eight;have cf:=B6.out.fz;have cl:=B6.out.lt;have c50:=B6.out.cell (i:=0) rfl;have c51:=B6.out.cell (i:=1) rfl;have c52:=B6.out.cell (i:=2) rfl;have c53:=B6.out.cell (i:=3) rfl;have c54:=B6.out.cell (i:=4) rfl;have c55:=B6.out.cell (i:=5) rfl;have c56:=B6.out.cell (i:=6) rfl;have c57:=B6.out.cell (i:=7) rfl;go_wp2_with fail
    go_roundw
    case rel =>
     refine⟨j+1,u,j,uq,by omega,by have:=HJN.out;omega,rfl,HJN.out,HKU.out,HU.out,fun i v h1 h2=>?_,put8_bxs B6.out ..,?_,put8_below KG.out HA2.out ..⟩
     ·have h3:keyO o t.m<keyO o u.m:=cmpZ_dec.1 (by rw[← HCV.out];exact HCP.out)
      by_cases h4:i<j
      ·have:=HMX.out i v h1 h4;omega
      ·obtain rfl:i=j:=by omega
       rw[HU.out] at h1;obtain rfl:=Option.some.inj h1;exact Int.le_refl _
     ·exact((((((((B4.out.other HAN.out _).other HAN.out _).other HAN.out _).other HAN.out _).other HAN.out _).other HAN.out _).other HAN.out _).other HAN.out _)
    case measure=>simp[intOf];have:=HJN.out;omega
   ·have hcq:¬(0<cv):=hcp;have HCP:=qh hcp;go_wp2_with fail
    go_roundw
    case rel =>
     refine⟨j+1,t,k,q,by omega,by have:=HJN.out;omega,rfl,HKN.out,HKF.out,HPK.out,fun i v h1 h2=>?_,B6.out,B4.out,KG.out⟩
     by_cases h4:i<j
     ·exact HMX.out i v h1 h4
     ·obtain rfl:i=j:=by omega
      rw[HU.out] at h1;obtain rfl:=Option.some.inj h1
      have h3:¬(keyO o t.m<keyO o u.m):=fun h=>HCP.out (by rw[HCV.out];exact cmpZ_dec.2 h)
      show keyO o u.m≤_;omega
    case measure=>simp[intOf];have:=HJN.out;omega
  ·have hge:¬((j:Int)<(zn:Int)):=by omega
   have hmem:=List.mem_of_getElem? HPK.out
   have HLD:=qh (show Lead (keyO o) P (t.m,q) from⟨hmem,fun v hv=>by
    obtain⟨i,h⟩:=List.mem_iff_getElem?.1 hv
    exact HMX.out i v h (by have h8:=(List.getElem?_eq_some_iff.1 h).1;have h5:=HL.out;have h9:=HJ.out;omega)⟩)
   have NT:=qh (HKF.out.below KG.out);have HQT:=qh (show LQ q 900000 from HQ.out _ hmem);have HLT:=qh (show LF t.c 900000 from NT.out.len HQT.out (Nat.le_refl _));have HSZ:=qh KG.out.size;clear hjn hmem
   go_upto_region 10 with (fail)
   go_upto_region 10 with (fail)
   refine FS.wp_region_fresh 6 [] (FS.spOf [(2,FS.Sp.made (fun x:FV=>x.v) (fun x w'=>EF w' wr.heap.size x q) FV.blk)])
    (fun w'=>Below wr.heap.size wr w') (by kernel_rfl) (by kernel_rfl) (by kernel_rfl)
    (FS.spOf_cons (FS.Sp.made_keeps _ (fun _ _ _ h _ hk=>h.kept hk) (FS.notTaken (by kernel_rfl))) (FS.spOf_nil)) (fun _ _ h hb=>h.trans (hb.mono h.size)) ((Below.refl _ _).drew) ?_
   simp only[List.append_eq,List.cons_append,List.nil_append,List.take_succ_cons,List.take_zero,List.drop_succ_cons,List.drop_zero]
   iterate 2
    refine FS.wpF_reads rfl rfl rfl ?_ (fun w' hw'=>?_) ?_;rotate_left
    ·have hb':=hw'.world;have hs0:=(B6.out.below hb' B6.out.lt).cell (i:=0) rfl;have hs1:=(B6.out.below hb' B6.out.lt).cell (i:=1) rfl;have hs2:=(B6.out.below hb' B6.out.lt).cell (i:=2) rfl;have hs3:=(B6.out.below hb' B6.out.lt).cell (i:=3) rfl;have hs4:=(B6.out.below hb' B6.out.lt).cell (i:=4) rfl;have hs5:=(B6.out.below hb' B6.out.lt).cell (i:=5) rfl;have hs6:=(B6.out.below hb' B6.out.lt).cell (i:=6) rfl;have hs7:=(B6.out.below hb' B6.out.lt).cell (i:=7) rfl;have hsf:=(B6.out.below hb' B6.out.lt).fz;have hsl:=(B6.out.below hb' B6.out.lt).lt;clear hw';go_simp
     try rfl
    conv=>arg 10;simp only[Act.put,zq0,zq1,zq2]
   refine FS.wpF_spec rfl rfl rfl (fun w' hw'=>?_) ?_
   ·have hb':=hw'.world;refine FS.gives_of (FS.PM (fun x:FV=>x.v) (fun x w'=>EF w' wr.heap.size x q) FV.blk w'.heap.size) ?_ (fun _ _ h=>h.post (fun _ _=>FV.inj));go_simp;have CT:=(show Calls Tryz.prog 48 #[.agg #[.bool t.c.t.s,.slice t.c.t.a t.c.t.n t.c.t.c,.bool t.c.l.s,.slice t.c.l.a t.c.l.n t.c.l.c]] w' _ from rtwinV (c:=t.c) (NT.out.below hb').any HLT.out HQT.out);refine CT.mono ?_;rintro e w'' ⟨za,rfl,ho,hb⟩;exact⟨_,rfl,⟨za,rfl,ho.mono hb'.size,ho.blks⟩,hb⟩
   rintro _ ⟨y2,rfl⟩
   conv=>arg 10;simp only[Act.put,zq0,zq1,zq2]
   iterate 3
    refine FS.wpF_reads rfl rfl rfl ?_ (fun w' hw'=>?_) ?_;rotate_left
    ·have hb':=hw'.world;have hs0:=(B6.out.below hb' B6.out.lt).cell (i:=0) rfl;have hs1:=(B6.out.below hb' B6.out.lt).cell (i:=1) rfl;have hs2:=(B6.out.below hb' B6.out.lt).cell (i:=2) rfl;have hs3:=(B6.out.below hb' B6.out.lt).cell (i:=3) rfl;have hs4:=(B6.out.below hb' B6.out.lt).cell (i:=4) rfl;have hs5:=(B6.out.below hb' B6.out.lt).cell (i:=5) rfl;have hs6:=(B6.out.below hb' B6.out.lt).cell (i:=6) rfl;have hs7:=(B6.out.below hb' B6.out.lt).cell (i:=7) rfl;have hsf:=(B6.out.below hb' B6.out.lt).fz;have hsl:=(B6.out.below hb' B6.out.lt).lt;clear hw';go_simp
     try rfl
    conv=>arg 10;simp only[Act.put,zq0,zq1,zq2]
   refine FS.wpF_nil (fun w101 hb hF=>?_);have N102:=qh (show EF w101 wr.heap.size y2 q from(FS.made_of (val:=(fun x:FV=>x.v)) (Φ:=fun x w'=>EF w' wr.heap.size x q) (fun _ _=>FV.inj) (hF.all 2)));clear hF;have NT:=qh (NT.out.below hb);have B6:=qh (B6.out.below hb B6.out.lt);have B4:=qh (B4.out.below hb B4.out.lt);have KG:=qk KG hb;clear hb;have HD:=qh (show EF (put8 w101 w.heap.size (.bool y2.t.s) (.slice y2.t.a y2.t.n y2.t.c) (.bool y2.l.s) (.slice y2.l.a y2.l.n y2.l.c) (.int .u16 t.m.x) (.int .u16 t.m.y) (.int .u16 t.m.z) (.int .u16 t.m.t)) w.heap.size y2 q from put8_ef (N102.out.mono HSZ.out) B4.out (by decide) ..);have HB:=qh (show Below w.heap.size w (put8 w101 w.heap.size (.bool y2.t.s) (.slice y2.t.a y2.t.n y2.t.c) (.bool y2.l.s) (.slice y2.l.a y2.l.n y2.l.c) (.int .u16 t.m.x) (.int .u16 t.m.y) (.int .u16 t.m.z) (.int .u16 t.m.t)) from put8_below KG.out (Nat.le_refl _) ..);have c40:=B4.out.cell (i:=0) rfl;have c41:=B4.out.cell (i:=1) rfl;have c42:=B4.out.cell (i:=2) rfl;have c43:=B4.out.cell (i:=3) rfl;have c44:=B4.out.cell (i:=4) rfl;have c45:=B4.out.cell (i:=5) rfl;have c46:=B4.out.cell (i:=6) rfl;have c47:=B4.out.cell (i:=7) rfl;have c4f:=B4.out.fz;have c4l:=B4.out.lt;go_wp2_with fail
   exact bodyPost_ret (results_ct rfl _ _ _ _ _ _ _ rfl (put8_bxs B4.out ..) Tryz.underlying32 rfl (by kernel_rfl)) rfl ⟨y2,t.m,rfl,q,HD.out,HLD.out,HB.out⟩
end Go.Proofs.YtjcmanikkcfnmaaGreat.Pol
