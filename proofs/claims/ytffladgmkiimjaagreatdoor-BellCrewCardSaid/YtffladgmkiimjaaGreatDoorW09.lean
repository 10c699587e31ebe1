/- A COMMUNICATION of a goroutine that is alone, or beside goroutines of  .. -/
import Derived.Test.YtffladgmkiimjaaGreatDoorW08
import Derived.Conc.Beside
import Derived.Lone
import Derived.Calls
import Derived.Conc.Events
set_option linter.all false
set_option maxHeartbeats 100000000
set_option maxRecDepth 1000000
open Array renaming mem_append → Gf,getElem?_setIfInBounds_self_of_lt → a8,getElem?_setIfInBounds_ne → aA,getElem?_eq_getElem → aM,replicate → aV,getD_eq_getD_getElem? → aW,getElem?_eq_some_iff → ak,getElem?_setIfInBounds → bA,mem_of_getElem? → eL,empty_append → eO,getElem?_map → jW,all_eq_true' → jX,getElem?_push → kN,getElem?_modify → o8
open Bool renaming and_eq_true → aD,false_eq_true → bw
open Classical renaming byContradiction → eR
open Go renaming Goroutine → aB,Program → aI,TypeId → aZ,Value → aj,World → ar,Frame → bL,Addr → cU,Question → dE,FuncId → dR,runtimePanic → eo,Event → fQ,zeroValue → iI,underlying → iL,Sem → ic,communicate → mC,CommCase → mI,step → ni,unsupported → qJ,MapEntry → tU,behindNumber → uI,choose → zU
open Go.Conc renaming mem_ofEvents → Bg,runT_crowd_go → CD,solo_eq_crowd → nj,crowd → qK,solo → wG
open Go.Frame renaming enter → eh
open Go.Instr renaming mapUpdate → Ab,loadAt → Be,findKey → CJ,indexAt → j5,findAsking → jm,index → mH,checkKey → nB
open Go.MemAct renaming ofEvent → fM
open Go.MemOp renaming ofEvents → ij
open Go.Mode renaming plain → l6
open Go.Sem renaming runT → dD
open Go.World renaming setCell → j3
open List renaming getElem_mem → bO,mem_cons → bR,length_pos_iff → cQ,getElem?_eq_getElem → dg,mem_toArray → eI,not_mem_nil → gh,mem_filter → jd,range_succ → sQ,getD_eq_getElem?_getD → wI
open Nat renaming le_trans → aN,le_refl → ax,lt_of_lt_of_le → bB,zero_add → cJ,eq_zero_or_pos → iO,add_assoc → np
open Option renaming map_some → dI,map_eq_some_iff → eD
open Option.some renaming inj → bg
open Pure renaming pure → eH
namespace Go.Lag
open Go.Conc
def ld(gs:Array aB):Prop:=∀g∈gs,g.status≠.blocked
theorem lV{gs:Array aB}(h:ld gs)(r:Nat)(b:Bool):partners gs r b=[]:=by
 unfold partners;rw[List.flatMap_eq_nil_iff];rintro⟨g,i⟩ hx
 have hg:g∈gs:=by
  have:(g,i)∈gs.toList.zipIdx:=by simpa using hx
  exact Array.mem_toList_iff.1 (List.fst_mem_of_mem_zipIdx this)
 have:=h g hg;dsimp only;split
 ·rename_i e _;exact absurd e this
 ·rfl
theorem Gi{gs:Array aB}(h:ld gs)(w:ar)(c:mI):ways w gs c=ways w #[] c:=by
 unfold ways;simp only[lV h,lV (gs:=#[]) (by intro g hg;simp at hg)]
theorem Py[uq]{lw w:ar}(V:jk lw w)(c:mI):ways w #[] c=ways lw #[] c:=by
 unfold ways;split
 ·rename_i r _;rcases V.at_ r with h|⟨h1,o,h2,h3⟩
  ·rw[h]
  ·rw[h1,h2]
   have:∀cap buf cl s r tm,o≠.chan cap buf cl s r tm:=by
    intro cap buf cl s r tm e;subst e;cases h3
   cases o<;>first|rfl|exact absurd rfl (this _ _ _ _ _ _)
 ·rfl
theorem JO(w:ar)(c:mI):ways w #[] c=[]∨ways w #[] c=[.sendClosed]∨ways w #[] c=[.buffer]∨ways w #[] c=[.closed]:=by
 unfold ways;have e:∀r b,partners #[] r b=[]:=fun r b=>lV (by intro g hg;simp at hg) r b;simp only[e];split
 ·split
  ·split
   ·simp
   ·split<;>simp
  ·split
   ·simp
   ·split<;>simp
  ·simp
 ·simp
theorem Pz{w:ar}{c:mI}(h:ways w #[] c≠[]):∃r cap buf cl s rc tm,c.chan=.chan (some r)∧w.heap[r]?=some (Obj.chan cap buf cl s rc tm):=by
 unfold ways at h;split at h
 ·rename_i r hr;split at h
  ·rename_i h1 _;exact⟨r,_,_,_,_,_,_,hr,h1⟩
  ·rename_i h1 _;exact⟨r,_,_,_,_,_,_,hr,h1⟩
  ·exact absurd rfl h
 ·exact absurd rfl h
theorem ME{P:aI}(ready:List (Nat × mI × List Way))(h1:∀y∈ready,y.2.2.length=1)(hne:ready≠[])(w:ar) :
  (do
   let a ←zU (.select ready.length);let (k,c,ws):=ready.getD a (0,default,[])
   let b ←zU (.extern "which waiting goroutine is the partner" ws.length)
   pure (k,c,ws.getD b .closed):ic (Nat × mI × Way)).run P w =
  (if ready.length≤1 then .ok ((ready.getD 0 (0,default,[])).1,(ready.getD 0 (0,default,[])).2.1,(ready.getD 0 (0,default,[])).2.2.getD 0 .closed) w
   else .ok ((ready.getD (w.tape w.drawn (.select ready.length) % ready.length) (0,default,[])).1,(ready.getD (w.tape w.drawn (.select ready.length) % ready.length) (0,default,[])).2.1,(ready.getD (w.tape w.drawn (.select ready.length) % ready.length) (0,default,[])).2.2.getD 0 .closed) { w with drawn:=w.drawn+1 }):=by
 have hl:0<ready.length:=cQ.2 hne
 have key:∀a,a<ready.length→(ready.getD a (0,default,[])).2.2.length=1:=fun a ha=>by
  rw[wI,dg ha];exact h1 _ (bO ha)
 by_cases hn:ready.length≤1
 ·rw[if_pos hn];have:=key 0 hl;simp only[zU,bind,Sem.bind,Sem.run,Question.forced,hn,decide_true,if_true,this];simp[pure,Sem.run]
 ·rw[if_neg hn];have:=key (w.tape w.drawn (.select ready.length) % ready.length) (Nat.mod_lt _ hl);simp only[zU,bind,Sem.bind,Sem.run,Question.forced,hn,decide_false,Question.cut];simp only[bw,if_false,this];simp[pure,Sem.run]
def UO(B:Nat)(op:MemOp):Prop:=op.g=0∧∃r n m,r<B∧(op.act=.send r n∨op.act=.sendDone r n∨op.act=.recv r n m∨op.act=.recvDone r n∨op.act=.recvClosed r)
theorem any_congr{f f':mI→Bool}(h:∀c,f c=f' c)(cs:Array mI):cs.any f=cs.any f':=by rw[funext h]
theorem tX{rest:Rest}(h:rest.timers = #[])(cs:Array mI)(w:ar):waitingAt rest cs w=some w:=by
 unfold waitingAt
 have:timerAhead rest w.os.mono cs=false:=by
  unfold timerAhead;rw[h];rw[Array.any_eq_false];intro i hi;split<;>simp
 rw[this];rfl
section
variable{P:aI}{lw w:ar}
structure Xt[uq](P:aI)(g:aB)(cs:Array mI)(b:Bool)(sh:CommShape)(lw w:ar)(ops:Array MemOp)(g':aB)(ep w':ar)(k:Nat):Prop where
 gok:zY g'
 dy:g'.dying=none
 run:g'.status=.running
 base:Base lw ep w' k #[]
 lists:∀op∈ops,UO lw.heap.size op
 many:∀(gs:Array aB) (rest:Rest),ld gs→rest.timers = #[]→∀τ d,Agree k lw.tape lw.drawn τ d→mC P rest gs 0 g cs b sh (dx w τ d)=(.next { world:=dx w' τ (d+k),gs:=gs.setIfInBounds 0 g',rest:=rest },ops)
theorem Lt[uq](T:Quiet P){d0:aB}(hd0:d0.status≠.blocked){rest0:Rest}(IZ:rest0.timers = #[])(cN:dB lw)(V:jk lw w)
  {g:aB} (hg:zY g) (hgd:g.dying=none) (hgr:g.status=.running) {cs:Array mI} {b:Bool} {sh:CommShape} {m':Machine} {ops:Array MemOp} (hl:mC P rest0 #[d0] 0 g cs b sh lw=(.next m',ops)) :
  ∃g' ep,m'={ world:=ep,gs:=#[g'],rest:=rest0 }∧(g'.status=.blocked∨∃w' k,Xt P g cs b sh lw w ops g' ep w' k):=by
 have XQ:ld #[d0]:=by intro x hx;simp at hx;rw[hx];exact hd0
 have e0:∀c,ways lw #[d0] c=ways lw #[] c:=fun c=>Gi XQ lw c;have e1:∀(gs:Array aB) (qs:ld gs) τ d c,ways (dx w τ d) gs c=ways lw #[] c:=fun gs qs τ d c=>(Gi qs _ c).trans (Py (rS V τ d) c);unfold mC at hl
 extract_lets put illMade me other ready pick at hl
 have hrw:∀y∈ready,y.2.2.length=1:=by
  intro y hy;obtain⟨h1,h2⟩:=jd.1 hy;obtain⟨⟨c,k⟩,hc,rfl⟩:=List.mem_map.1 h1;dsimp only at h2 ⊢;rcases JO lw c with h|h|h|h<;>rw[e0,h] at h2 ⊢<;>first|rfl|simp at h2
 split at hl
 ·cases hl
 rename_i Zn;have KO:∀(τ:Nat→dE→Nat) (d:Nat) (f:mI→Bool),(∀c,f c=illMade c)→¬cs.any f=true:=fun τ d f hf hc=>Zn ((any_congr (fun c=>(hf c).symm) cs).trans hc)
 by_cases XI:ready.isEmpty=true
 ·
  have far:∀(gs:Array aB) (rest:Rest) (qs:ld gs) (ht:rest.timers = #[]) τ d,mC P rest gs 0 g cs b sh (dx w τ d) =
    if b=true then(.next { world:=dx w τ d,gs:=gs.setIfInBounds 0 { g with status:=.blocked,offers:=some (cs,sh) },rest:=rest },#[])
    else(.next { world:=dx w τ d,gs:=gs.setIfInBounds 0 (g.finishComm P cs sh (-1) undef false),rest:=rest },#[]):=by
   intro gs rest qs ht τ d;unfold mC
   extract_lets put' zi Ir ready' pick'
   have hr:ready'=ready:=by simp only[ready,ready',e0,e1 gs qs]
   refine(if_neg (KO τ d _ fun c=>?_)).trans ?_
   ·simp only[illMade,zi];split
    ·rfl
    ·rename_i r _;rcases(rS V τ d).at_ r with h|⟨h1,o,h2,h3⟩
     ·rw[h]
     ·rw[h1,h2];cases o<;>first|rfl|cases h3
    ·rfl
   ·rw[hr,if_pos XI,tX ht]
  rw[if_pos XI,tX IZ] at hl;cases b with
  |true=>
   simp only[if_true] at hl;cases hl;exact⟨_,_,rfl,.inl rfl⟩
  |false=>
   simp only[bw,if_false,put] at hl;cases hl;exact⟨_,_,rfl,.inr ⟨w,0,⟨⟨hg.frame.finish _,hg.callers,.inl rfl⟩,hgd,rfl,Hj cN V,by simp,fun gs rest qs ht τ d _=>by rw[far gs rest qs ht];rfl⟩⟩⟩
 ·have hne:ready≠[]:=by simpa using XI
  have V9:∃n y,y∈ready∧pick.run P lw=.ok (y.1,y.2.1,y.2.2.getD 0 .closed) { lw with drawn:=lw.drawn+n }∧∀x:ar,(∀i,i<n→x.tape (x.drawn+i)=lw.tape (lw.drawn+i))→pick.run P x=.ok (y.1,y.2.1,y.2.2.getD 0 .closed) { x with drawn:=x.drawn+n }:=by
   have hr:=fun x=>ME (P:=P) ready hrw hne x;have hl0:0<ready.length:=cQ.2 hne
   have hin:∀a,a<ready.length→ready.getD a (0,default,[])∈ready:=fun a ha=>by
    rw[wI,dg ha];exact bO ha
   by_cases hn:ready.length≤1
   ·refine⟨0,ready.getD 0 (0,default,[]),hin 0 hl0,?_,fun x _=>?_⟩
    ·exact(hr lw).trans (if_pos hn)
    ·exact(hr x).trans (if_pos hn)
   ·refine⟨1,ready.getD (lw.tape lw.drawn (.select ready.length) % ready.length) (0,default,[]),hin _ (Nat.mod_lt _ hl0),?_,fun x hx=>?_⟩
    ·exact(hr lw).trans (if_neg hn)
    ·have h0:x.tape x.drawn=lw.tape lw.drawn:=hx 0 (by omega);refine(hr x).trans ((if_neg hn).trans ?_);rw[h0]
  obtain⟨n,y,hy,hp,hpx⟩:=V9;rw[if_neg XI,hp] at hl
  have JD:y.2.2=ways lw #[] y.2.1:=by
   obtain⟨h1,_⟩:=jd.1 hy;obtain⟨⟨c,k⟩,hc,rfl⟩:=List.mem_map.1 h1;exact e0 c
  obtain⟨k,c,ws⟩:=y;dsimp only at JD hl hp hpx
  obtain⟨r,cap,buf,cl,sent,abE,tm,hcc,hh⟩:=Pz (w:=lw) (c:=c) (by
   intro e;have:=hrw _ hy;dsimp only at this;rw[JD,e] at this
   cases this)
  have hh2:w.heap[r]?=some (Obj.chan cap buf cl sent abE tm):=by
   rcases V.at_ r with h'|⟨h',_⟩
   ·rw[←h'];exact hh
   ·rw[hh] at h';cases h'
  have hb:∀mZ w₁:ar,mZ.tape=lw.tape→mZ.drawn=lw.drawn+n→mZ.heap.size=lw.heap.size→dB mZ→jk mZ w₁→Base lw mZ w₁ n #[]:=fun mZ w₁ h1 h2 h3 h4 h5=>⟨h1,h2,by omega,h4,by simp,h5⟩
  have hgf:∀k v o,zY (g.finishComm P cs sh k v o):=fun k v o=>⟨hg.frame.finish _,hg.callers,.inl rfl⟩
  simp only[hcc,hh] at hl;rcases JO lw c with hw|hw|hw|hw
  ·exfalso;have:=hrw _ hy;dsimp only at this;rw[JD,hw] at this;cases this
  ·
   have hw1:ws.getD 0 .closed=.sendClosed:=by rw[JD,hw];rfl
   rw[hw1] at hl;dsimp only at hl;have V1:jk { lw with drawn:=lw.drawn+n } w:=⟨V.size,V.os,V.out,V.at_,V.old,V.kept⟩
   rcases vU (iq (P:=P) (.plain "send on closed channel")) (lw:={ lw with drawn:=lw.drawn+n }) (w:=w) cN V1 with⟨why,ep,h⟩|⟨ep,w',n2,r2,new,h⟩
   ·obtain⟨es',he⟩:=h #[]
    have:(eo (.plain "send on closed channel"):ic Unit).run P { lw with drawn:=lw.drawn+n }=.halt (.stuck why) ep:=by
     have e:=congrArg Prod.fst he;rwa [Sem.runT_eq] at e
    rw[this] at hl;cases hl
   ·have h1:(eo (.plain "send on closed channel"):ic Unit).run P { lw with drawn:=lw.drawn+n }=Al r2 ep:=by
     have e:=congrArg Prod.fst (h.lone #[]);rwa [Sem.runT_eq] at e
    rw[h1] at hl;cases r2 with
    |ok u=>cases hl
    |error hh0=>
     cases hh0 with
     |panic v=>
      simp only[Al,put] at hl;cases hl;refine⟨_,_,rfl,.inr ⟨w',n+n2,⟨hg.frame.raise _,hg.callers,hg.status⟩,hgd,?_,⟨h.tape,by rw[h.drawn];simp only[];omega,h.grows,h.ok,by simp,h.sU⟩,by simp,fun gs rest qs ht τ d ha=>?_⟩⟩
      ·exact hgr
      ·obtain⟨ha,ha2⟩:=vY ha
       have h2:(eo (.plain "send on closed channel"):ic Unit).run P (dx w τ (d+n))=.halt (.panic v) (dx w' τ (d+n+n2)):=by
        have e:=congrArg Prod.fst (h.many τ (d+n) ha2 #[]);rwa [Sem.runT_eq] at e
       unfold mC
       extract_lets put' zi Ir ready' pick'
       have hr:ready'=ready:=by simp only[ready,ready',e0,e1 gs qs]
       refine(if_neg (KO τ d _ fun c=>?_)).trans ?_
       ·simp only[illMade,zi];split
        ·rfl
        ·rename_i r _;rcases(rS V τ d).at_ r with h|⟨h1,o,h2,h3⟩
         ·rw[h]
         ·rw[h1,h2];cases o<;>first|rfl|cases h3
        ·rfl
       rw[hr,if_neg XI]
       have hp':pick'.run P (dx w τ d)=.ok (k,c,ws.getD 0 .closed) (dx w τ (d+n)):=by
        have:pick'=pick:=by simp only[pick,pick',hr]
        rw[this];exact hpx (dx w τ d) fun i hi=>(ha i hi).symm
       rw[hp',hw1];simp only[hcc,oz,hh2];simp only[h2,np];rfl
     |_=>cases hl
  ·have hw1:ws.getD 0 .closed=.buffer:=by rw[JD,hw];rfl
   rw[hw1] at hl;cases hsend:c.send with
   |some v=>
    simp only[hsend,put] at hl;cases hl;refine⟨_,_,rfl,.inr ⟨{ w with heap:=w.heap.setIfInBounds r _ },n,hgf ..,hgd,rfl,hb _ _ rfl rfl (by simp) (xJ (w:={ lw with drawn:=lw.drawn+n }) cN rfl) (yu (lw:={ lw with drawn:=lw.drawn+n }) ⟨V.size,V.os,V.out,V.at_,V.old,V.kept⟩ _ _ rfl),?_,fun gs rest qs ht τ d ha=>?_⟩⟩
    ·intro op hop;simp only[eI,bR,gh,or_false] at hop;rcases hop with rfl|rfl<;>exact⟨rfl,r,sent,0,eE hh,by simp[me]⟩
    ·unfold mC
     extract_lets put' zi Ir ready' pick'
     have hr:ready'=ready:=by simp only[ready,ready',e0,e1 gs qs]
     refine(if_neg (KO τ d _ fun c=>?_)).trans ?_
     ·simp only[illMade,zi];split
      ·rfl
      ·rename_i r _;rcases(rS V τ d).at_ r with h|⟨h1,o,h2,h3⟩
       ·rw[h]
       ·rw[h1,h2];cases o<;>first|rfl|cases h3
      ·rfl
     rw[hr,if_neg XI]
     have hp':pick'.run P (dx w τ d)=.ok (k,c,ws.getD 0 .closed) (dx w τ (d+n)):=by
      have:pick'=pick:=by simp only[pick,pick',hr]
      rw[this];exact hpx (dx w τ d) fun i hi=>(ha i hi).symm
     rw[hp',hw1];simp only[hcc,oz,hh2];simp only[hsend];rfl
   |none=>
    simp only[lV XQ] at hl;simp only[hsend,put] at hl;cases hl;refine⟨_,_,rfl,.inr ⟨{ w with heap:=w.heap.setIfInBounds r _ },n,hgf ..,hgd,rfl,hb _ _ rfl rfl (by simp) (xJ (w:={ lw with drawn:=lw.drawn+n }) cN rfl) (yu (lw:={ lw with drawn:=lw.drawn+n }) ⟨V.size,V.os,V.out,V.at_,V.old,V.kept⟩ _ _ rfl),?_,fun gs rest qs ht τ d ha=>?_⟩⟩
    ·intro op hop;simp only[eI,bR,gh,or_false] at hop;rcases hop with rfl|rfl<;>exact⟨rfl,r,abE,cap,eE hh,by simp[me]⟩
    ·unfold mC
     extract_lets put' zi Ir ready' pick'
     have hr:ready'=ready:=by simp only[ready,ready',e0,e1 gs qs]
     refine(if_neg (KO τ d _ fun c=>?_)).trans ?_
     ·simp only[illMade,zi];split
      ·rfl
      ·rename_i r _;rcases(rS V τ d).at_ r with h|⟨h1,o,h2,h3⟩
       ·rw[h]
       ·rw[h1,h2];cases o<;>first|rfl|cases h3
      ·rfl
     rw[hr,if_neg XI]
     have hp':pick'.run P (dx w τ d)=.ok (k,c,ws.getD 0 .closed) (dx w τ (d+n)):=by
      have:pick'=pick:=by simp only[pick,pick',hr]
      rw[this];exact hpx (dx w τ d) fun i hi=>(ha i hi).symm
     rw[hp',hw1];simp only[hcc,oz,hh2];simp only[hsend,lV qs];rfl
  ·have hw1:ws.getD 0 .closed=.closed:=by rw[JD,hw];rfl
   rw[hw1] at hl;dsimp only at hl;simp only[put] at hl;cases hl;refine⟨_,_,rfl,.inr ⟨w,n,hgf ..,hgd,rfl,hb _ _ rfl rfl rfl cN ⟨V.size,V.os,V.out,V.at_,V.old,V.kept⟩,?_,fun gs rest qs ht τ d ha=>?_⟩⟩
   ·intro op hop;simp only[eI,bR,gh,or_false] at hop;subst hop;exact⟨rfl,r,0,0,eE hh,by simp[me]⟩
   ·unfold mC
    extract_lets put' zi Ir ready' pick'
    have hr:ready'=ready:=by simp only[ready,ready',e0,e1 gs qs]
    refine(if_neg (KO τ d _ fun c=>?_)).trans ?_
    ·simp only[illMade,zi];split
     ·rfl
     ·rename_i r _;rcases(rS V τ d).at_ r with h|⟨h1,o,h2,h3⟩
      ·rw[h]
      ·rw[h1,h2];cases o<;>first|rfl|cases h3
     ·rfl
    rw[hr,if_neg XI]
    have hp':pick'.run P (dx w τ d)=.ok (k,c,ws.getD 0 .closed) (dx w τ (d+n)):=by
     have:pick'=pick:=by simp only[pick,pick',hr]
     rw[this];exact hpx (dx w τ d) fun i hi=>(ha i hi).symm
    rw[hp',hw1];simp only[hcc,oz,hh2];rfl
end
def wX(B:Nat)(ops:Array MemOp):Prop:=∀op∈ops,op.g=0∧op.act.low B∧op.act≠.mark .disable∧op.act≠.mark .enable
theorem wX.app{B:Nat}{a b:Array MemOp}(ha:wX B a)(hb:wX B b):wX B (a++b):=fun op h=>(Gf.1 h).elim (ha op) (hb op)
theorem tj{B:Nat}{es:Array fQ}(h:∀e∈es,A6 B e)(fn:dR)(pos:String):wX B (ij 0 fn pos es):=fun op hop=>by
 obtain⟨e,he,rfl⟩:=Bg hop;obtain⟨loc,wr,sy⟩:=e;refine⟨rfl,?_⟩;rcases h _ he with⟨a,rfl,ha⟩|⟨r,rfl,hr⟩|rfl|rfl|⟨f,rfl⟩
 ·exact⟨ha,by simp[fM],by simp[fM]⟩
 ·cases wr<;>cases sy<;>exact⟨hr,by simp[fM],by simp[fM]⟩
 ·exact⟨trivial,by simp[fM],by simp[fM]⟩
 ·exact⟨trivial,by simp[fM],by simp[fM]⟩
 ·exact⟨trivial,by simp[fM],by simp[fM]⟩
theorem MT{B B':Nat}(hB:B≤B'){ops:Array MemOp}(h:∀op∈ops,UO B op):wX B' ops:=fun op hop=>by
 obtain⟨hg,r,n,m,hr,ho⟩:=h op hop;refine⟨hg,?_⟩;rcases ho with e|e|e|e|e<;>rw[e]<;>exact⟨bB hr hB,by simp,by simp⟩
theorem zw{B:Nat}{ops:Array MemOp}(h:wX B ops)(t:Trace)(g:Nat):Deaf (t++ops) g=Deaf t g:=by
 obtain⟨l⟩:=ops;rw[Deaf_append]
 have:∀(l:List MemOp),(∀op∈l,op.act≠.mark .disable∧op.act≠.mark .enable)→∀d,l.foldl (deafStep g) d=d:=by
  intro l
  induction l with
  |nil=>intro _ d;rfl
  |cons y l ih=>
   intro hl d;rw[List.foldl_cons]
   have:deafStep g d y=d:=by
    have hy:=hl y (List.mem_cons_self ..);unfold deafStep;split
    ·rename_i e;exact absurd e hy.1
    ·rename_i e;exact absurd e hy.2
    ·rfl
   rw[this];exact ih (fun op hop=>hl op (List.mem_cons_of_mem _ hop)) d
 exact this l (fun op hop=>⟨(h op (by simpa using hop)).2.2.1,(h op (by simpa using hop)).2.2.2⟩) _
section
variable{P:aI}
theorem runT_crowd_comm{gs:Array aB}{w w':ar}{sl:Option (Nat × Nat)}{i:Nat}{g g':aB}{cs:Array mI}{b:Bool}{sh:CommShape}{es:Array fQ}(hi:gs[i]?=some g)(h:stepG P (i==0) g w=.comm g' cs b sh w' es) :
  runT P (qK gs w sl) i=((mC P { timers:=#[],alone:=none,slice:=sl } (gs.setIfInBounds i { (default:aB) with status:=.finished }) i g' cs b sh w').1,
   ij i g.frame.fn g.frame.place es++(mC P { timers:=#[],alone:=none,slice:=sl } (gs.setIfInBounds i { (default:aB) with status:=.finished }) i g' cs b sh w').2):=by
 obtain⟨hlt,rfl⟩:=ak.1 hi;have hsw:=swapAt_of_lt hlt { (default:aB) with status:=.finished };have uv:gs.set i { (default:aB) with status:=.finished }=gs.setIfInBounds i { (default:aB) with status:=.finished }:=by simp[Array.setIfInBounds,hlt]
 show runT P { world:=w,gs:=gs,rest:={ timers:=#[],alone:=none,slice:=sl } } i=_;unfold runT;simp only[hsw,h,GStep.es,uv]
def Idle(gs:Array aB):Prop:=∀(i:Nat) (x:aB),0<i→gs[i]?=some x→x.status=.running∨x.status=.finished
theorem NW{w:ar}{o:aB}(h:o.status=.running∨o.status=.finished):o.again w=o:=by
 unfold Goroutine.again;rcases h with h|h<;>rw[h]
theorem Mq{gs:Array aB}(h:Idle gs)(g g':aB)(w':ar):(gs.map (woken P g g' w')).setIfInBounds 0 g'=gs.setIfInBounds 0 g':=by
 apply Array.ext_getElem?;intro j
 by_cases hj:0=j
 ·subst hj;simp only[bA,Array.size_map,if_true]
 ·simp only[aA hj,jW];cases hx:gs[j]? with
  |none=>rfl
  |some x=>
   simp only[dI];unfold woken;split
   ·rw[NW (h j x (by omega) hx)]
   ·rfl
def rr(P:aI)(g:aB)(W:ar)(g':aB)(W':ar):Prop:=
 g.status=.running∧g.dying=none∧(∃ops,stepT P (wG g W)=(.next (wG g' W'),ops))∧g'.status=.running∧g'.dying=none
theorem ov{a b:aB}{w w':ar}(h:wG a w=wG b w'):a=b∧w=w':=by
 unfold wG at h;injection h with h1 h2 h3
 exact⟨by simpa using h2,h1⟩
theorem J0(gs:Array aB)(x y:aB):(gs.setIfInBounds 0 x).setIfInBounds 0 y=gs.setIfInBounds 0 y:=by
 apply Array.ext_getElem?;intro j
 by_cases hj:0=j
 ·subst hj;simp[bA]
 ·simp[aA hj]
theorem BO[uq](T:Quiet P){lw w:ar}{g g':aB}{ep:ar}(hg:zY g)(cN:dB lw)(V:jk lw w)(h:rr P g lw g' ep) :
  zY g'∧∃w' k ops,Base lw ep w' k #[]∧wX ep.heap.size ops∧
   ∀τ d gs sl,Agree k lw.tape lw.drawn τ d→gs[0]?=some g→Idle gs→runT P (qK gs (dx w τ d) sl) 0=(.next (qK (gs.setIfInBounds 0 g') (dx w' τ (d+k)) sl),ops):=by
 obtain⟨hr,hd,⟨ops,hs⟩,hr',Mg⟩:=h;have Av:=Gp T hg hd cN V;rw[stepT_solo hr,nj] at hs;have Nr:(#[g]:Array aB)[0]?=some g:=rfl;cases qs:stepG P true g lw with
 |go g1 jH es=>
  rw[qs] at Av;have e:=CD (P:=P) (gs:=#[g]) (w:=lw) (sl:=none) (i:=0) Nr qs;rw[e] at hs;injection hs with hs1 hs2
  injection hs1 with hs3
  have:(#[g].map (woken P g g1 jH)).setIfInBounds 0 g1 = #[g1]:=by simp
  rw[this,←nj] at hs3;obtain⟨rfl,rfl⟩:=ov hs3;rcases Av with hdy|⟨CY,_,w',k,hb,hm⟩
  ·obtain⟨_,dd,he,_⟩:=hdy;rw[Mg] at he;cases he
  ·refine⟨CY,w',k,_,⟨hb.tape,hb.drawn,hb.grows,hb.ok,by simp,hb.sU⟩,tj hb.evs g.frame.fn g.frame.place,fun τ d gs sl ha h0 hi=>?_⟩;rw[CD (P:=P) (sl:=sl) (i:=0) h0 (hm τ d ha),Mq hi]
 |comm g1 cs b sh jH es=>
  rw[qs] at Av;obtain⟨CY,⟨hgd,Zu⟩,w1,k1,hb,hm⟩:=Av;have e:=runT_crowd_comm (P:=P) (gs:=#[g]) (w:=lw) (sl:=none) (i:=0) Nr qs;rw[e] at hs;have Zr:(#[g].setIfInBounds 0 { (default:aB) with status:=.finished }) = #[{ (default:aB) with status:=.finished }]:=by simp
  rw[Zr] at hs;generalize hc:mC P { timers:=#[],alone:=none,slice:=none } #[{ (default:aB) with status:=.finished }] 0 g1 cs b sh jH=cc at hs;obtain⟨st,more⟩:=cc;injection hs with hs1 hs2
  dsimp only at hs1;subst hs1
  have key:∀gs:Array aB,Idle gs→0<gs.size→ld (gs.setIfInBounds 0 { (default:aB) with status:=.finished }):=by
   intro gs hi h0 x hx;obtain⟨j,hj⟩:=Array.mem_iff_getElem?.1 hx
   by_cases e0:0=j
   ·subst e0;simp only[bA,if_true,h0] at hj;cases hj;simp
   ·rw[aA e0] at hj;rcases hi j x (by omega) hj with h|h<;>rw[h]<;>simp
  have XQ:({ (default:aB) with status:=.finished }:aB).status≠.blocked:=by simp
  obtain⟨g2,YS,e2,Eu⟩:=Lt T XQ (rest0:={ timers:=#[],alone:=none,slice:=none }) rfl hb.ok hb.sU CY hgd Zu hc;have e3:wG g' ep=wG g2 YS:=e2;obtain⟨rfl,rfl⟩:=ov e3;rcases Eu with hblk|⟨w2,k2,hcr⟩
  ·rw[hr'] at hblk;cases hblk
  refine⟨hcr.gok,w2,k1+k2,ij 0 g.frame.fn g.frame.place es++more,⟨hcr.base.tape.trans hb.tape,by rw[hcr.base.drawn,hb.drawn];omega,aN hb.grows hcr.base.grows,hcr.base.ok,by simp,hcr.base.sU⟩,
   (tj (fun e he=>(hb.evs e he).mono hcr.base.grows) _ _).app (MT hcr.base.grows hcr.lists),fun τ d gs sl ha h0 hi=>?_⟩
  obtain⟨ha1,ha2⟩:=vY ha;have hlt:0<gs.size:=(ak.1 h0).1;have h2:=hcr.many (gs.setIfInBounds 0 { (default:aB) with status:=.finished }) { timers:=#[],alone:=none,slice:=sl } (key gs hi hlt) rfl τ (d+k1) (by rw[hb.tape,hb.drawn];exact ha2);rw[runT_crowd_comm (P:=P) (sl:=sl) (i:=0) h0 (hm τ d ha1),h2,J0,np];rfl
 |ended o jH es=>
  have e:=runT_many_ended (P:=P) (gs:=#[g]) (w:=lw) (sl:=none) (i:=0) Nr qs;rw[e] at hs;injection hs with hs1 hs2
  cases hs1
 |spawn g1 c jH es=>
  have e:=runT_crowd_spawn (P:=P) (gs:=#[g]) (w:=lw) (sl:=none) (i:=0) Nr qs;rw[e] at hs;injection hs with hs1 hs2
  injection hs1 with hs3
  have:=congrArg (fun m:Machine=>m.gs.size) hs3;simp[qK,wG] at this
 |_=>rw[qs] at Av;exact Av.elim
end
def Ext(W:ar)(τ:Nat→dE→Nat):Prop:=∀i,i<W.drawn→τ i=W.tape i
inductive Bar(P:aI)(Stop:aB→ar→Prop):aB→ar→Prop
 |stop {g:aB} {W:ar}:Stop g W→Bar P Stop g W
 |step {g:aB} {W:ar}:(∀τ,Ext W τ→∃g' W',rr P g (dx W τ W.drawn) g' W')→
   (∀τ,Ext W τ→∀g' W',rr P g (dx W τ W.drawn) g' W'→Bar P Stop g' W')→Bar P Stop g W
section
variable{P:aI}
abbrev OG:uq:=⟨fun _=>.none⟩
theorem Gk(W:ar):@jk OG W W:=@jk.mk OG _ _ rfl rfl rfl (fun _=>.inl rfl) (fun _ _ h=>by cases h) (fun _ _ h=>by cases h)
theorem qT(T:Quiet P){g g':aB}{lw ep:ar}(hg:zY g)(cN:dB lw)(h:rr P g lw g' ep) :
  zY g'∧dB ep∧ep.tape=lw.tape∧lw.drawn≤ep.drawn∧lw.heap.size≤ep.heap.size∧
   ∀τ d,Agree (ep.drawn-lw.drawn) lw.tape lw.drawn τ d→rr P g (dx lw τ d) g' (dx ep τ (d+(ep.drawn-lw.drawn))):=by
 letI:=OG
 obtain⟨Fo,w',k,ops,hb,FL,hm⟩:=BO T hg cN (Gk lw) h;obtain⟨hr,hd,⟨akI,hs⟩,hr',Mg⟩:=h
 have XU:Idle #[g]:=by
  intro i x h1 h2;have:i<1:=by simpa using (ak.1 h2).1
  omega
 have e0:=hm lw.tape lw.drawn #[g] none (fun _ _=>rfl) rfl XU;have e1:(#[g].setIfInBounds 0 g') = #[g']:=by simp
 have hk:ep.drawn-lw.drawn=k:=by rw[hb.drawn];omega
 have e2:ep=dx w' lw.tape (lw.drawn+k):=by
  rw[stepT_solo hr,nj] at hs;have e3:dx lw lw.tape lw.drawn=lw:=rfl;rw[e3,hs] at e0;injection e0 with e4 e5
  injection e4 with e6
  rw[e1,←nj] at e6;exact(ov e6).2
 refine⟨Fo,hb.ok,hb.tape,by rw[hb.drawn];omega,hb.grows,fun τ d ha=>⟨hr,hd,⟨ops,?_⟩,hr',Mg⟩⟩;rw[hk] at ha ⊢;rw[stepT_solo hr,nj,hm τ d #[g] none ha rfl XU,e1,←nj,e2];rfl
theorem Dz:∀(n:Nat) {g g':aB} {W W':ar},g.dyingOn P→g'.dying=none→runN P n (wG g W)≠.next (wG g' W')
 |0,g,g',W,W',h,hd=>by
  intro e;simp only[runN] at e;injection e with e
  obtain⟨rfl,_⟩:=ov e;obtain⟨_,d,Mg,_⟩:=h;rw[hd] at Mg;cases Mg
 |n+1,g,g',W,W',h,hd=>by
  rcases step_dyingOn (w:=W) h with⟨g1,w1,hs,h'⟩|⟨o,w1,hs,_⟩
  ·have hs':ni P (wG g W)=.next (wG g1 w1):=hs
   simp only[runN,hs'];exact Dz n h' hd
  ·have hs':ni P (wG g W)=.ended o w1:=hs;simp only[runN,hs'];intro e;cases e
theorem PI{g:aB}{W:ar}(h:g.status=.finished∨g.status=.blocked):∃o w',ni P (wG g W)=.ended o w':=by
 obtain⟨fr,cs,st,dy,off⟩:=g;simp only at h;rcases h with rfl|rfl
 ·obtain⟨o',w',he,ho⟩:=endWith_ended W 2 (bytes "fatal error: no goroutines (main called runtime.Goexit) - deadlock!\n") (.fatal "no goroutines (main called runtime.Goexit) - deadlock!");refine⟨o',w',?_⟩;simp[ni,stepT,move,ask,askOn,wG,runnable_eq,due,ahead,Goroutine.canRun,sQ,pure];rw[he]
 ·obtain⟨o',w',he,ho⟩:=endWith_ended W 2 (bytes "fatal error: all goroutines are asleep - deadlock!\n") (.fatal "all goroutines are asleep - deadlock!");refine⟨o',w',?_⟩;simp[ni,stepT,move,ask,askOn,wG,runnable_eq,due,ahead,Goroutine.canRun,sQ,pure];rw[he]
theorem Gv{n:Nat}{g g':aB}{W W':ar}(h:g.status=.finished∨g.status=.blocked)(hr:g'.status=.running):runN P n (wG g W)≠.next (wG g' W'):=by
 cases n with
 |zero=>
  intro e;simp only[runN] at e;injection e with e
  obtain⟨rfl,_⟩:=ov e;rw[hr] at h;rcases h with h|h<;>cases h
 |succ n=>
  obtain⟨o,w',e⟩:=PI (P:=P) (W:=W) h;simp only[runN,e];intro e;cases e
theorem IP(T:Quiet P){n:Nat}{g g':aB}{W W':ar}(hg:zY g)(cN:dB W)(hr:g.status=.running)(hd:g.dying=none)(hr':g'.status=.running)(Mg:g'.dying=none)
  (h:runN P (n+1) (wG g W)=.next (wG g' W')):∃g1 W1,rr P g W g1 W1:=by
 letI:=OG
 have Av:=Gp T hg hd cN (Gk W);have Nr:(#[g]:Array aB)[0]?=some g:=rfl;have hst:stepT P (wG g W)=runT P (qK #[g] W none) 0:=by rw[stepT_solo hr,nj]
 simp only[runN,ni,hst] at h;cases qs:stepG P true g W with
 |go g1 W1 es=>
  rw[qs] at Av;have e:=CD (P:=P) (gs:=#[g]) (w:=W) (sl:=none) (i:=0) Nr qs;have e1:(#[g].map (woken P g g1 W1)).setIfInBounds 0 g1 = #[g1]:=by simp
  have e:runT P (qK #[g] W none) 0=(.next (wG g1 W1),ij 0 g.frame.fn g.frame.place es):=e.trans (by rw[e1,←nj]);rw[e] at h;dsimp only at h;rcases Av with hdy|⟨CY,hgd,_⟩
  ·exact absurd h (Dz n hdy Mg)
  ·rcases CY.status with hs|hs
   ·exact⟨g1,W1,hr,hd,⟨_,hst.trans e⟩,hs,hgd⟩
   ·exact absurd h (Gv (.inl hs) hr')
 |comm g1 cs b sh W1 es=>
  rw[qs] at Av;obtain⟨CY,⟨hgd,Zu⟩,w1,k1,hb,hm⟩:=Av;have e:=runT_crowd_comm (P:=P) (gs:=#[g]) (w:=W) (sl:=none) (i:=0) Nr qs;have Zr:(#[g].setIfInBounds 0 { (default:aB) with status:=.finished }) = #[{ (default:aB) with status:=.finished }]:=by simp
  rw[Zr] at e;generalize hc:mC P { timers:=#[],alone:=none,slice:=none } #[{ (default:aB) with status:=.finished }] 0 g1 cs b sh W1=cc at e;obtain⟨st,more⟩:=cc;rw[e] at h;dsimp only at h e;cases st with
  |ended o w2=>cases h
  |next m1=>
   dsimp only at h;obtain⟨g2,W2,e2,Eu⟩:=Lt T (d0:={ (default:aB) with status:=.finished }) (by simp) (rest0:={ timers:=#[],alone:=none,slice:=none }) rfl hb.ok hb.sU CY hgd Zu hc;have e3:m1=wG g2 W2:=e2;subst e3;rcases Eu with hblk|⟨w2,k2,hcr⟩
   ·exact absurd h (Gv (.inr hblk) hr')
   ·exact⟨g2,W2,hr,hd,⟨_,hst.trans e⟩,hcr.run,hcr.dy⟩
 |spawn g1 c W1 es=>
  have e:=runT_crowd_spawn (P:=P) (gs:=#[g]) (w:=W) (sl:=none) (i:=0) Nr qs;rw[e] at h;dsimp only at h
  have h2:runNT P n (qK ((#[g].setIfInBounds 0 g1).push c) W1 none) #[]=(.next (wG g' W'),(runNT P n (qK ((#[g].setIfInBounds 0 g1).push c) W1 none) #[]).2):=by
   have:=runNT_fst P n (qK ((#[g].setIfInBounds 0 g1).push c) W1 none) #[];rw[h] at this;exact Prod.ext this rfl
  have:=runNT_size P n _ _ _ _ h2;simp[qK,wG] at this
 |ended o W1 es=>
  have e:=runT_many_ended (P:=P) (gs:=#[g]) (w:=W) (sl:=none) (i:=0) Nr qs;rw[e] at h;cases h
 |_=>rw[qs] at Av;exact Av.elim
theorem least{p:Nat→Prop}:∀n,p n→∃m,p m∧∀j,j<m→¬p j:=by
 intro n
 induction n using Nat.strongRecOn with
 |ind n ih=>
  intro hn
  by_cases h:∃m,m<n∧p m
  ·obtain⟨m,h1,h2⟩:=h;exact ih m h1 h2
  ·exact⟨n,hn,fun j hj hp=>h ⟨j,hj,hp⟩⟩
structure Bad(P:aI)(Stop:aB→ar→Prop)(x:aB × ar):Prop where
 no:¬Bar P Stop x.1 x.2
 gok:zY x.1
 ok:dB x.2
 run:x.1.status=.running
 dy:x.1.dying=none
theorem Cg(T:Quiet P){Stop:aB→ar→Prop}(hS:∀g W τ d,Stop g (dx W τ d)→Stop g W)(hSr:∀g W,Stop g W→g.status=.running∧g.dying=none)
  {g:aB} {W:ar} (hg:zY g) (cN:dB W) (hr:g.status=.running) (hd:g.dying=none)
  (H:∀τ,Ext W τ→∃n g' W',runN P n (wG g (dx W τ W.drawn))=.next (wG g' W')∧Stop g' W'):Bar P Stop g W:=by
 classical
 refine eR fun hno=>?_;let St:={ x:aB × ar // Bad P Stop x }
 let R:St→St→Prop:=fun x y=>∃τ,Ext x.1.2 τ∧rr P x.1.1 (dx x.1.2 τ x.1.2.drawn) y.1.1 y.1.2;let Fi:St→Prop:=fun x=>∃τ,Ext x.1.2 τ∧∀g' W',¬rr P x.1.1 (dx x.1.2 τ x.1.2.drawn) g' W'
 have next:∀x:St,¬Fi x→∃y,R x y:=by
  rintro⟨⟨g,W⟩,hb⟩ hnd;refine eR fun hny=>hb.no (.step (fun τ hτ=>?_) fun τ hτ g' W' hl=>?_)
  ·exact eR fun h=>hnd ⟨τ,hτ,fun g' W' hl=>h ⟨g',W',hl⟩⟩
  ·refine eR fun I2=>hny ?_;obtain⟨h1,h2,_⟩:=qT T hb.gok (lw:=dx W τ W.drawn) hb.ok hl;exact⟨⟨(g',W'),I2,h1,h2,hl.2.2.2.1,hl.2.2.2.2⟩,τ,hτ,hl⟩
 let f:St→St:=fun x=>if h:Fi x then x else Classical.choose (next x h)
 have hf:∀x,¬Fi x→R x (f x):=fun x h=>by
  simp only[f,dif_neg h];exact Classical.choose_spec (next x h)
 let seq:Nat→St:=fun n=>Nat.rec ⟨(g,W),hno,hg,cN,hr,hd⟩ (fun _ x=>f x) n
 have O4:∀x y:St,R x y→x.1.2.drawn≤y.1.2.drawn∧(∀p,p<x.1.2.drawn→y.1.2.tape p=x.1.2.tape p)∧
   ∀T',(∀p,p<y.1.2.drawn→T' p=y.1.2.tape p)→rr P x.1.1 (dx x.1.2 T' x.1.2.drawn) y.1.1 (dx y.1.2 T' y.1.2.drawn):=by
  rintro x y ⟨τ,hτ,hl⟩;obtain⟨_,_,h3,h4,_,h6⟩:=qT T x.2.gok (lw:=dx x.1.2 τ x.1.2.drawn) x.2.ok hl;simp only[yQ,pS] at h3 h4 h6;refine⟨h4,fun p hp=>by rw[h3];exact hτ p hp,fun T' hT'=>?_⟩;have:=h6 T' x.1.2.drawn fun i hi=>by rw[hT' _ (by omega),h3]
  rwa [Nat.add_sub_cancel' h4] at this
 have walk:∀(T':Nat→dE→Nat) (n i:Nat),(∀j,j<n→R (seq (i+j)) (seq (i+j+1))∧∀p,p<(seq (i+j+1)).1.2.drawn→T' p=(seq (i+j+1)).1.2.tape p)→
   runN P n (wG (seq i).1.1 (dx (seq i).1.2 T' (seq i).1.2.drawn))=.next (wG (seq (i+n)).1.1 (dx (seq (i+n)).1.2 T' (seq (i+n)).1.2.drawn)):=by
  intro T' n
  induction n with
  |zero=>intro i _;rfl
  |succ n ih=>
   intro i h;obtain⟨h1,h2⟩:=h 0 (by omega);obtain⟨_,_,hT⟩:=O4 _ _ h1;obtain⟨_,_,⟨ops,hs⟩,_⟩:=hT T' h2
   have hs':ni P (wG (seq i).1.1 (dx (seq i).1.2 T' (seq i).1.2.drawn))=.next (wG (seq (i+1)).1.1 (dx (seq (i+1)).1.2 T' (seq (i+1)).1.2.drawn)):=by
    rw[ni];exact congrArg Prod.fst hs
   simp only[runN,hs']
   have:=ih (i+1) fun j hj=>by
    have:=h (j+1) (by omega);rwa [show i+(j+1)=i+1+j by omega] at this
   rw[this,show i+1+n=i+(n+1) by omega]
 have mono:∀i n,(∀j,j<n→R (seq (i+j)) (seq (i+j+1)))→(seq i).1.2.drawn≤(seq (i+n)).1.2.drawn∧∀p,p<(seq i).1.2.drawn→(seq (i+n)).1.2.tape p=(seq i).1.2.tape p:=by
  intro i n
  induction n with
  |zero=>intro _;exact⟨ax _,fun _ _=>rfl⟩
  |succ n ih=>
   intro h;obtain⟨h1,h2⟩:=ih fun j hj=>h j (by omega);obtain⟨h3,h4,_⟩:=O4 _ _ (h n (by omega));exact⟨aN h1 h3,fun p hp=>(h4 p (bB hp h1)).trans (h2 p hp)⟩
 have hseq:∀j,¬Fi (seq j)→R (seq j) (seq (j+1)):=fun j h=>hf _ h;have SG:∀n T',¬Stop (seq n).1.1 (dx (seq n).1.2 T' (seq n).1.2.drawn):=fun n T' h=>(seq n).2.no (.stop (hS _ _ _ _ h));have adw:∀T',(∀p,p<W.drawn→T' p=W.tape p)→∃n g' W',runN P n (wG (seq 0).1.1 (dx (seq 0).1.2 T' (seq 0).1.2.drawn))=.next (wG g' W')∧Stop g' W':=fun T' h=>H T' h
 by_cases O3:∃n,Fi (seq n)
 ·obtain⟨n0,XQ⟩:=O3;obtain⟨N,hN,hlt⟩:=least (p:=fun n=>Fi (seq n)) n0 XQ;obtain⟨τ,hτ,hnl⟩:=hN;have hR:∀j,j<N→R (seq j) (seq (j+1)):=fun j hj=>hseq j (hlt j hj)
  have agree:∀j,j≤N→∀p,p<(seq j).1.2.drawn→τ p=(seq j).1.2.tape p:=by
   intro j hj p hp;have:=mono j (N-j) fun i hi=>hR (j+i) (by omega);rw[Nat.add_sub_cancel' hj] at this;rw[hτ p (bB hp this.1),this.2 p hp]
  have pre:∀n,n≤N→runN P n (wG (seq 0).1.1 (dx (seq 0).1.2 τ (seq 0).1.2.drawn))=.next (wG (seq n).1.1 (dx (seq n).1.2 τ (seq n).1.2.drawn)):=by
   intro n hn
   have:=walk τ n 0 fun j hj=>by
    rw[cJ];exact⟨hR j (by omega),agree (j+1) (by omega)⟩
   rwa [cJ] at this
  obtain⟨n,g',W',hrun,BP⟩:=adw τ (agree 0 (by omega));rcases Nat.lt_or_ge N n with Cq|hle
  ·obtain⟨m,rfl⟩:∃m,n=N+(m+1):=⟨n-N-1,by omega⟩
   have xF:∀(a b:Nat) (x y:Machine),runN P a x=.next y→runN P (a+b) x=runN P b y:=by
    intro a
    induction a with
    |zero=>intro b x y h;simp only[runN] at h;injection h with h;rw[h,cJ]
    |succ a ih=>
     intro b x y h;rw[show a+1+b=(a+b)+1 by omega];simp only[runN] at h ⊢;cases hs:ni P x with
     |next x'=>rw[hs] at h;simp only at h ⊢;exact ih b x' y h
     |ended o w=>rw[hs] at h;cases h
   rw[xF N (m+1) _ _ (pre N (ax _))] at hrun;obtain⟨hr',Mg⟩:=hSr _ _ BP;obtain⟨g1,W1,hl⟩:=IP T (seq N).2.gok (W:=dx (seq N).1.2 τ (seq N).1.2.drawn) (seq N).2.ok (seq N).2.run (seq N).2.dy hr' Mg hrun;exact hnl _ _ hl
  ·rw[pre n hle] at hrun;injection hrun with hrun
   obtain⟨h1,h2⟩:=ov hrun;rw[←h1,←h2] at BP;exact SG n τ BP
 ·have hnd:∀n,¬Fi (seq n):=fun n h=>O3 ⟨n,h⟩;have hR:∀j,R (seq j) (seq (j+1)):=fun j=>hseq j (hnd j)
  have coh:∀i j p,i≤j→p<(seq i).1.2.drawn→(seq j).1.2.tape p=(seq i).1.2.tape p:=fun i j p U1 hp=>by
   have:=(mono i (j-i) fun k _=>hR _).2 p hp;rwa [Nat.add_sub_cancel' U1] at this
  let τ:Nat→dE→Nat:=fun p=>if h:∃j,p<(seq j).1.2.drawn then(seq (Classical.choose h)).1.2.tape p else fun _=>0
  have agree:∀j p,p<(seq j).1.2.drawn→τ p=(seq j).1.2.tape p:=by
   intro j p hp;have hex:∃j,p<(seq j).1.2.drawn:=⟨j,hp⟩
   have hc:=Classical.choose_spec hex;simp only[τ,dif_pos hex];rcases Nat.le_total (Classical.choose hex) j with h|h
   ·exact(coh _ _ p h hc).symm
   ·exact coh _ _ p h hp
  obtain⟨n,g',W',hrun,BP⟩:=adw τ (agree 0)
  have:=walk τ n 0 fun j hj=>by
   rw[cJ];exact⟨hR j,agree (j+1)⟩
  rw[cJ] at this;rw[this] at hrun;injection hrun with hrun
  obtain⟨h1,h2⟩:=ov hrun;rw[←h1,←h2] at BP;exact SG n τ BP
end
end Go.Lag
namespace Go.Lag
open Go.Conc
open Go.ConcN (sumTo upd sumTo_upd upd_ne upd_same)
abbrev LY:=Past (fun _=>False)
structure Beside(P:aI)(gs:Array aB)(g:aB)(w:ar)(t:Trace)(q:Nat→Nat):Prop where
 zero:gs[0]?=some g
 old:Leavers P t gs q
 past:LY w.heap.size t
def qD(P:aI)(Q:aB→ar→Prop)(g:aB)(w:ar):Prop:=
 ∀(τ:Nat→dE→Nat) (d:Nat) (gs:Array aB) (sl:Option (Nat × Nat)) (t:Trace) (q:Nat→Nat),Beside P gs g w t q→
  ∃(N:Nat) (gs':Array aB) (g':aB) (w':ar) (d':Nat) (sl':Option (Nat × Nat)) (t':Trace) (q':Nat→Nat),
   runNT P N (qK gs (dx w τ d) sl) t=(.next (qK gs' (dx w' τ d') sl'),t')∧Beside P gs' g' w' t' q'∧Q g' w'
section
variable{P:aI}{Q Q':aB→ar→Prop}{g:aB}{w:ar}
theorem runNT_add(P:aI):∀(a b:Nat) (x y:Machine) (t u:Trace),runNT P a x t=(.next y,u)→runNT P (a+b) x t=runNT P b y u
 |0,b,x,y,t,u,h=>by
  simp only[runNT] at h;injection h with h1 h2
  injection h1 with h1
  rw[h1,h2,cJ]
 |a+1,b,x,y,t,u,h=>by
  rw[show a+1+b=(a+b)+1 by omega];simp only[runNT] at h ⊢;generalize stepT P x=s at h;obtain⟨r,ops⟩:=s;cases r with
  |next x'=>exact runNT_add P a b x' y _ u h
  |ended o w=>cases h
theorem qD.here(h:Q g w):qD P Q g w:=fun τ d gs sl t q hb=>⟨0,gs,g,w,d,sl,t,q,rfl,hb,h⟩
theorem qD.bind(h:qD P Q g w)(k:∀g' w',Q g' w'→qD P Q' g' w'):qD P Q' g w:=fun τ d gs sl t q hb=>by
 obtain⟨N,gs1,g1,w1,d1,Di,t1,q1,hr1,hb1,hq1⟩:=h τ d gs sl t q hb;obtain⟨M,ZY,g2,w2,d2,Yu,t2,q2,hr2,hb2,UZ⟩:=k g1 w1 hq1 τ d1 gs1 Di t1 q1 hb1;exact⟨N+M,ZY,g2,w2,d2,Yu,t2,q2,by rw[runNT_add P N M _ _ _ _ hr1,hr2],hb2,UZ⟩
theorem qD.mono(h:qD P Q g w)(k:∀g' w',Q g' w'→Q' g' w'):qD P Q' g w:=h.bind fun g' w' hq=>.here (k g' w' hq)
theorem IQ{t:Trace}{gs:Array aB}{q:Nat→Nat}(h:Leavers P t gs q):Idle gs:=fun i x hi hx=>(h.old i x hi hx).status
theorem Kj{B B':Nat}{t:Trace}{ops:Array MemOp}(h:LY B t)(hB:B≤B')(ho:wX B' ops):LY B' (t++ops):=
 (h.mono hB).app0 (fun op hop=>(ho op hop).1) (fun _ _ _ _ hf=>hf.elim) (zw ho t 0) fun op hop=>(ho op hop).2.1
theorem slip{gs:Array aB}{g:aB}{w:ar}{t:Trace}{q:Nat→Nat}(hb:Beside P gs g w t q)(hrun:g.status=.running){i:Nat}{x:aB}(jJ:0<i)(hi:gs[i]?=some x)(hx:x.status=.running)(τ:Nat→dE→Nat)(d:Nat)(sl:Option (Nat × Nat)) :
  ∃gs' ops q',runT P (qK gs (dx w τ d) sl) i=(.next (qK gs' (dx w τ d) sl),ops)∧Beside P gs' g w (t++ops) q'∧gs'.size=gs.size∧sumTo gs.size q'<sumTo gs.size q:=by
 have hq:=hb.old.old i x jJ hi;have hi0:(i==0)=false:=by simp;omega
 have hlt:i<gs.size:=(ak.1 hi).1;cases Y9:q i with
 |zero=>rw[Y9] at hq;rw[hq.1] at hx;cases hx
 |succ k=>
  rw[Y9] at hq;rcases hq with⟨hf,_⟩|⟨_,g',es,hm,Y5,hq'⟩
  ·rw[hf] at hx;cases hx
  have jI:=CD (P:=P) (sl:=sl) (i:=i) hi (by rw[hi0];exact Y5 (dx w τ d))
  have V5:sumTo gs.size (upd q i k)+(k+1)=sumTo gs.size q+k:=by
   have:=sumTo_upd q k id hlt;simpa [Y9] using this
  refine⟨_,_,upd q i k,jI,⟨?_,⟨fun j y hj hy=>?_,fun j hj=>?_⟩,hb.past.mute (by omega) hm⟩,by simp,by omega⟩
  ·have hne:i≠0:=by omega
   rw[aA hne,jW,hb.zero];simp[woken_run hrun]
  ·by_cases Wm:i=j
   ·subst Wm;rw[a8 (by simpa using hlt)] at hy;obtain rfl:=bg hy;rw[upd_same,Deaf_own];exact hq'
   ·rw[aA Wm,jW] at hy;obtain⟨z,hz,rfl⟩:=eD.1 hy;have hqj:=hb.old.old j z hj hz;rw[woken_quitsD hqj,upd_ne q k (Ne.symm Wm),Deaf_other t Wm _ (fun op hop=>by obtain⟨e,_,rfl⟩:=Bg hop;rfl)];exact hqj
  ·rw[Deaf_other t (g':=i) (by simp at hj;omega) _ (fun op hop=>by obtain⟨e,_,rfl⟩:=Bg hop;rfl)];exact hb.old.above j (by simpa using hj)
theorem zR{gs:Array aB}{g:aB}{w:ar}{t:Trace}{q:Nat→Nat}(hb:Beside P gs g w t q)(hrun:g.status=.running):∀x∈gs,awake x:=by
 intro x hx;obtain⟨i,hi,rfl⟩:=Array.mem_iff_getElem.1 hx;rcases iO i with rfl|jJ
 ·have:gs[0]=g:=by simpa [aM hi] using hb.zero
  rw[this];exact awake_of (.inl hrun)
 ·exact awake_of ((hb.old.old i _ jJ (aM hi)).status.elim .inl fun x=>.inr (.inr x))
theorem qD.abu(hrun:g.status=.running)
  (h:∀(τ:Nat→dE→Nat) (d:Nat) (gs:Array aB) (sl:Option (Nat × Nat)),gs[0]?=some g→Idle gs→
   ∃g' w' k ops,runT P (qK gs (dx w τ d) sl) 0=(.next (qK (gs.setIfInBounds 0 g') (dx w' τ k) sl),ops)∧wX w'.heap.size ops∧w.heap.size≤w'.heap.size∧qD P Q g' w'):qD P Q g w:=by
 intro τ d gs sl t q hb;generalize hM:sumTo gs.size q=M
 induction M using Nat.strongRecOn generalizing d gs sl t q with
 |ind M ih=>
  obtain⟨i,x,d1,Di,hi,hx,hst⟩:=crowd_pick (P:=P) (w:=dx w τ d) (sl:=sl) (zR hb hrun) ⟨0,g,hb.zero,hrun⟩;have ew:(dx w τ d).at d1=dx w τ d1:=rfl;rw[ew] at hst;rcases iO i with rfl|jJ
  ·obtain⟨g',w',k,ops,hr,ho,hs,hk⟩:=h τ d1 gs Di hb.zero (IQ hb.old)
   have hb':Beside P (gs.setIfInBounds 0 g') g' w' (t++ops) q:=by
    have hlt:0<gs.size:=(ak.1 hb.zero).1;refine⟨by simp[hlt],⟨fun j y hj hy=>?_,fun j hj=>?_⟩,Kj hb.past hs ho⟩
    ·have hne:0≠j:=by omega
     rw[aA hne] at hy;rw[zw ho];exact hb.old.old j y hj hy
    ·rw[zw ho];exact hb.old.above j (by simpa using hj)
   obtain⟨N,ZY,g2,w2,d2,Yu,t2,q2,hr2,hb2,UZ⟩:=hk τ k (gs.setIfInBounds 0 g') Di (t++ops) q hb';exact⟨N+1,ZY,g2,w2,d2,Yu,t2,q2,by simp only[runNT,hst,hr];exact hr2,hb2,UZ⟩
  ·obtain⟨gs',ops,q',hr,hb',hsz,hlt⟩:=slip hb hrun jJ hi hx τ d1 Di;obtain⟨N,ZY,g2,w2,d2,Yu,t2,q2,hr2,hb2,UZ⟩:=ih (sumTo gs'.size q') (by rw[hsz,←hM];exact hlt) d1 gs' Di (t++ops) q' hb' rfl;exact⟨N+1,ZY,g2,w2,d2,Yu,t2,q2,by simp only[runNT,hst,hr];exact hr2,hb2,UZ⟩
theorem Ih[uq](T:Quiet P){Stop:aB→ar→Prop}{g:aB}{W:ar}(h:Bar P Stop g W):zY g→dB W→∀w,jk W w→
  qD P (fun g' w'=>∃W',Stop g' W'∧jk W' w'∧zY g'∧dB W'∧W.heap.size≤W'.heap.size) g w:=by
 induction h with
 |stop hs=>exact fun hg cN w V=>.here ⟨_,hs,V,hg,cN,ax _⟩
 |@step g W live down ih=>
  intro hg cN w V;obtain⟨_,_,hl0⟩:=live W.tape fun _ _=>rfl;refine .abu hl0.1 fun τ d gs sl h0 hi=>?_;let τ':Nat→dE→Nat:=fun p=>if p<W.drawn then W.tape p else τ (d+(p-W.drawn))
  have Ng:Ext W τ':=fun i hi=>by simp only[τ',if_pos hi]
  obtain⟨g',W',hl⟩:=live τ' Ng;obtain⟨Fo,w',k,ops,hb,ho,hm⟩:=BO T (lw:=dx W τ' W.drawn) hg cN (w:=w) ⟨V.size,V.os,V.out,V.at_,V.old,V.kept⟩ hl
  have ha:Agree k (dx W τ' W.drawn).tape (dx W τ' W.drawn).drawn τ d:=fun i hi=>by
   simp only[yQ,pS,τ',if_neg (show ¬W.drawn+i<W.drawn by omega),Nat.add_sub_cancel_left]
  have hsz:w'.heap.size=W'.heap.size:=hb.sU.size.symm;have hgr:=hb.grows;simp only[oz] at hgr;refine⟨g',w',d+k,ops,hm τ d gs sl ha h0 hi,by rw[hsz];exact ho,by rw[hsz,←V.size];exact hgr,(ih τ' Ng g' W' hl Fo hb.ok w' hb.sU).mono ?_⟩;rintro g2 w2 ⟨W2,h1,h2,h3,h4,h5⟩;exact⟨W2,h1,h2,h3,h4,aN hgr h5⟩
end
end Go.Lag
namespace Go.Lag
open Go.Conc
open Go.ConcN (sumTo upd)
def iU(P:aI)(Q:aB→ar→Prop)(g:aB)(W:ar):Prop:=
 ∀K:uq,zY g→dB W→∀w,jk W w→qD P (fun g' w'=>∃W',Q g' W'∧jk W' w'∧zY g'∧dB W'∧W.heap.size≤W'.heap.size) g w
section
variable{P:aI}{Q Q':aB→ar→Prop}{g:aB}{W:ar}
theorem iU.here(h:Q g W):iU P Q g W:=fun K hg cN w V=>.here ⟨W,h,V,hg,cN,ax _⟩
theorem iU.bind(h:iU P Q g W)(k:∀g' W',W.heap.size≤W'.heap.size→Q g' W'→iU P Q' g' W'):iU P Q' g W:=fun K hg cN w V=>
 (h K hg cN w V).bind fun g' w' ⟨W',hq,V',Fo,rC,hs⟩=>(k g' W' hs hq K Fo rC w' V').mono fun g2 w2 ⟨W2,h1,h2,h3,h4,h5⟩=>⟨W2,h1,h2,h3,h4,aN hs h5⟩
theorem iU.mono(h:iU P Q g W)(k:∀g' W',W.heap.size≤W'.heap.size→Q g' W'→Q' g' W'):iU P Q' g W:=h.bind fun g' W' hs hq=>.here (k g' W' hs hq)
theorem iU.Qf(h:iU P Q g W)(τ:Nat→dE→Nat)(d:Nat):iU P Q g (dx W τ d):=fun K hg cN w V=>h K hg cN w ⟨V.size,V.os,V.out,V.at_,V.old,V.kept⟩
theorem iU.ofT{τ:Nat→dE→Nat}{d:Nat}(h:iU P Q g (dx W τ d)):iU P Q g W:=fun K hg cN w V=>h K hg cN w ⟨V.size,V.os,V.out,V.at_,V.old,V.kept⟩
theorem Dv(T:Quiet P)(hr:g.status=.running)(hd:g.dying=none)
  (H:∀τ,∃n g' W',runN P n (wG g (dx W τ 0))=.next (wG g' W')∧Q g' W'∧g'.status=.running∧g'.dying=none) :
  iU P (fun g' W'=>∃τ d,Q g' (dx W' τ d)) g W:=fun K hg cN w V=>by
 have hb:Bar P (fun g' W'=>(∃τ d,Q g' (dx W' τ d))∧g'.status=.running∧g'.dying=none) g (dx W W.tape 0):=by
  refine Cg T (fun g' W' τ d h=>⟨h.1,h.2⟩) (fun g' W' h=>h.2) hg cN hr hd fun τ _=>?_;obtain⟨n,g',W',h1,h2,h3,h4⟩:=H τ;exact⟨n,g',W',h1,⟨W'.tape,W'.drawn,h2⟩,h3,h4⟩
 refine(Ih T hb hg cN w ⟨V.size,V.os,V.out,V.at_,V.old,V.kept⟩).mono ?_;rintro g' w' ⟨W',⟨hq,_⟩,V',Fo,rC,hs⟩;exact⟨W',hq,V',Fo,rC,hs⟩
theorem BF(T:Quiet P){fr:bL}{cs:List bL}{Q:bL→ar→Prop}
  (H:∀τ,∃fr' W',Steps P (lone fr cs (dx W τ 0)) (lone fr' cs W')∧Q fr' W') :
  iU P (fun g' W'=>∃fr' τ d,g'=G fr' cs∧Q fr' (dx W' τ d)) (G fr cs) W:=by
 refine(Dv T (Q:=fun g' W'=>∃fr',g'=G fr' cs∧Q fr' W') rfl rfl fun τ=>?_).mono fun g' W' _ ⟨τ,d,fr',h1,h2⟩=>⟨fr',τ,d,h1,h2⟩
 obtain⟨fr',W',⟨n,hn⟩,hq⟩:=H τ;exact⟨n,G fr' cs,W',hn,⟨fr',rfl,hq⟩,rfl,rfl⟩
def iV(P:aI)(f:dR)(args:Array aj)(W:ar)(R:aj→ar→Prop):Prop:=
 ∀cs,iU P (fun g' W'=>∃fr v τ d,g'=G fr cs∧R v W'∧fr.fn=f∧fr.leaving P (dx W' τ d) (.returned v)) (G (eh P f args .normal) cs) W
theorem iV.mono{f:dR}{args:Array aj}{R R':aj→ar→Prop}(h:iV P f args W R)(k:∀v W',W.heap.size≤W'.heap.size→R v W'→R' v W'):iV P f args W R':=
 fun cs=>(h cs).mono fun g' W' hs ⟨fr,v,τ,d,h1,h2,h3,h4⟩=>⟨fr,v,τ,d,h1,k v W' hs h2,h3,h4⟩
theorem iV.Qf{f:dR}{args:Array aj}{R:aj→ar→Prop}(h:iV P f args W R)(τ:Nat→dE→Nat)(d:Nat):iV P f args (dx W τ d) R:=fun cs=>(h cs).Qf τ d
theorem xm(T:Quiet P){g':aB}{τ:Nat→dE→Nat}{d:Nat}(h:rr P g (dx W τ d) g' (dx W τ d)):iU P (fun g2 W2=>g2=g'∧∃τ d,W2=dx W τ d) g W:=fun K hg cN w V=>by
 obtain⟨_,_,_,_,_,hloc⟩:=qT T hg (lw:=dx W τ d) cN h;simp only[pS,Nat.sub_self,Nat.add_zero] at hloc;have hs:=fun τ'=>hloc τ' 0 (fun i hi=>absurd hi (by omega));refine(Dv T (Q:=fun g2 W2=>g2=g'∧∃τ d,W2=dx W τ d) h.1 h.2.1 (fun τ'=>?_)).mono ?_ K hg cN w V
 ·obtain⟨_,_,⟨ops,e⟩,h3,h4⟩:=hs τ';refine⟨1,g',dx W τ' 0,?_,⟨rfl,τ',0,rfl⟩,h3,h4⟩;simp only[runN,ni];have e':stepT P (wG g (dx W τ' 0))=(.next (wG g' (dx W τ' 0)),ops):=e;rw[e']
 ·rintro g2 W2 _ ⟨τ1,d1,h1,τ2,d2,h2⟩;have h3:=congrArg (fun x=>dx x W2.tape W2.drawn) h2;exact⟨h1,W2.tape,W2.drawn,h3⟩
theorem rA{fr fr':bL}{cs cs':List bL}{w w':ar}(h:ni P (lone fr cs w)=.next (lone fr' cs' w')):rr P (G fr cs) w (G fr' cs') w':=by
 refine⟨rfl,rfl,?_,rfl,rfl⟩;have h':(stepT P (wG (G fr cs) w)).1=.next (wG (G fr' cs') w'):=h
 exact⟨_,Prod.ext h' rfl⟩
theorem Ig(T:Quiet P){fr c:bL}{cs:List bL}{v:aj}{τ:Nat→dE→Nat}{d:Nat}(h:fr.leaving P (dx W τ d) (.returned v)) :
  iU P (fun g' W'=>g'=G (c.finish v) cs∧∃τ d,W'=dx W τ d) (G fr (c::cs)) W:=
 xm T (rA (step_leave_returned h))
theorem EE[K:uq](T:Quiet P){f:dR}{args:Array aj}{R:aj→ar→Prop}(hi:P.inits.idxOf? f=none)(h:iV P f args W R)(hW:dB W){w:ar}(V:jk W w) :
  ∃N last o w' t',runNT P (N+1) (wG (G (eh P f args .normal) []) w) #[]=(.ended o w',t')∧runN P N (wG (G (eh P f args .normal) []) w)=.next last∧
   ni P last=.ended o w'∧Conc.Good P (fun v w'=>∃W',R v W'∧jk W' w'∧dB W'∧W.heap.size≤W'.heap.size) last o w' t':=by
 have hg0:zY (G (eh P f args .normal) []):=⟨n9 T f args .normal,by simp[G],.inl rfl⟩
 have hb0:Beside P #[G (eh P f args .normal) []] (G (eh P f args .normal) []) w #[] (fun _=>0):=
  ⟨rfl,leavers_one P _,past_nil.mono (by omega)⟩
 obtain⟨N,gs1,g1,w1,d1,Di,t1,q1,hr1,hb1,W1,⟨fr,v,τ1,d2,rfl,hv,hfn,hl⟩,V1,hg1,Cp,hs1⟩:=h [] K hg0 hW w V w.tape w.drawn _ none _ _ hb0
 have last:∀τ d,∃w2 es,stepG P true (G fr []) (dx w1 τ d)=.ended (.done v) (dx w2 τ d) es∧jk W1 w2∧∀e∈es,A6 w1.heap.size e:=by
  obtain⟨hm,Nj,hk,fn,hf,hres⟩:=hl;have hrun:((results fn fr.tmps).runT P (dx W1 τ1 d2) #[]).1=.ok v (dx W1 τ1 d2):=by rw[Sem.runT_eq];exact hres
  rcases vU (zG (P:=P) fn fr.tmps) (lw:=dx W1 τ1 d2) (w:=w1) Cp ⟨V1.size,V1.os,V1.out,V1.at_,V1.old,V1.kept⟩ with⟨why,ep,hx⟩|⟨ep,w2,k,r,new,hx⟩
  ·obtain⟨es',he⟩:=hx #[];rw[he] at hrun;cases hrun
  ·have h1:=hx.lone #[];rw[h1] at hrun;cases r with
   |error e=>cases hrun
   |ok v'=>
    simp only[Al] at hrun;injection hrun with hv' hw'
    subst hv'
    have hk0:k=0:=by
     have:=hx.drawn;rw[hw'] at this;simp only[pS] at this;omega
    subst hk0;intro τ d;have h2:=hx.many τ d (fun i hi=>absurd hi (by omega)) #[];rw[Nat.add_zero,eO] at h2;refine⟨w2,seen P fr.fn new++#[],?_,?_,fun e he=>?_⟩
    ·obtain⟨fnn,tmps,todo,defers,mode,kind,ro⟩:=fr;simp only at hm Nj hk hf h2 hfn;subst hm Nj hk hfn;unfold stepG G;simp only;unfold unwind;simp only[hf,h2,Al];unfold doReturn;simp only[hi];rfl
    ·have:=hx.sU;rw[hw'] at this;exact⟨this.size,this.os,this.out,this.at_,this.old,this.kept⟩
    ·have:=hx.evs e (fF e he);rw[hw'] at this;simp only[oz] at this;rw[←V1.size];exact this
 have fin:∀M (gs:Array aB) (d:Nat) (sl:Option (Nat × Nat)) (t:Trace) (q:Nat→Nat),sumTo gs.size q=M→Beside P gs (G fr []) w1 t q→
   ∃N last o w' t',runNT P (N+1) (qK gs (dx w1 w.tape d) sl) t=(.ended o w',t')∧runN P N (qK gs (dx w1 w.tape d) sl)=.next last∧ni P last=.ended o w'∧
    Conc.Good P (fun v w'=>∃W',R v W'∧jk W' w'∧dB W'∧W.heap.size≤W'.heap.size) last o w' t':=by
  intro M
  induction M using Nat.strongRecOn with
  |ind M ih=>
   intro gs d sl t q hM hb;obtain⟨i,x,d1,Di,hi',hx,hst⟩:=crowd_pick (P:=P) (w:=dx w1 w.tape d) (sl:=sl) (zR hb rfl) ⟨0,_,hb.zero,rfl⟩;have ew:(dx w1 w.tape d).at d1=dx w1 w.tape d1:=rfl;rw[ew] at hst;rcases iO i with rfl|jJ
   ·obtain⟨w2,es,hend,hV2,hes⟩:=last w.tape d1;have jI:=runT_many_ended (P:=P) (sl:=Di) (i:=0) hb.zero hend;have FL:=tj hes fr.fn fr.place;have hP:=Kj hb.past (ax _) FL;refine⟨0,qK gs (dx w1 w.tape d) sl,.done v,dx w2 w.tape d1,_,by simp only[runNT,hst,jI];rfl,rfl,by simp only[ni,hst,jI],v,rfl,⟨W1,hv,⟨hV2.size,hV2.os,hV2.out,hV2.at_,hV2.old,hV2.kept⟩,Cp,hs1⟩,hP.clean,hP.over,⟨fun y hy=>?_,rfl⟩,fun j y hy hj=>?_⟩
    ·obtain⟨j,hj⟩:=List.mem_iff_getElem?.1 hy;rw[List.getElem?_drop] at hj;exact⟨_,(hb.old.old (1+j) y (by omega) (by simpa [qK] using hj)).leaves⟩
    ·have hq:=hb.old.old j y (by omega) hy;refine⟨q j,?_⟩;have e:(t++ij 0 fr.fn fr.place es).deaf j (t++ij 0 fr.fn fr.place es).size=Deaf t j:=zw FL t j;rw[e];exact hq.hears _
   ·obtain⟨gs',ops,q',hr,hb',hsz,hlt⟩:=slip hb rfl jJ hi' hx w.tape d1 Di;obtain⟨N,last,o,w',t',h1,h2,h3,h4⟩:=ih (sumTo gs'.size q') (by rw[hsz,←hM];exact hlt) gs' d1 Di (t++ops) q' rfl hb';exact⟨N+1,last,o,w',t',by rw[runNT_succ_next (by rw[hst,hr])];exact h1,by rw[runN_succ_next (by rw[hst,hr])];exact h2,h3,h4⟩
 obtain⟨M,last,o,w',t',h1,h2,h3,h4⟩:=fin _ gs1 d1 Di t1 q1 rfl hb1;have e0:wG (G (eh P f args .normal) []) w=qK #[G (eh P f args .normal) []] (dx w w.tape w.drawn) none:=rfl;refine⟨N+M,last,o,w',t',?_,?_,h3,h4⟩
 ·rw[e0,show N+M+1=N+(M+1) by omega,runNT_add P N (M+1) _ _ _ _ hr1];exact h1
 ·rw[e0,←runNT_fst P (N+M) _ #[],runNT_add P N M _ _ _ _ hr1,runNT_fst];exact h2
theorem BV[K:uq](w:ar)(hκ:∀b x,K.κ b=some x→b<w.heap.size∧∀o,w.heap[b]?=some o→fO o=false→o=x):∃W,jk W w∧dB W∧W.tape=w.tape∧W.drawn=w.drawn∧∀(b:Nat) (o:Obj),w.heap[b]?=some o→fO o=true→W.heap[b]?=some o:=by
 refine⟨{ w with heap:=w.heap.map fun o=>if fO o then o else .coro none },⟨by simp,rfl,rfl,fun b=>?_,fun b x h=>by simpa using (hκ b x h).1,fun b x h h1=>?_⟩,fun b o ho=>?_,rfl,rfl,fun b o ho hk=>?_⟩
 ·simp only[jW];cases h:w.heap[b]? with
  |none=>exact .inl rfl
  |some o=>
   simp only[dI]
   by_cases hk:fO o=true
   ·rw[if_pos hk];exact .inl rfl
   ·exact .inr ⟨by rw[if_neg hk],o,rfl,by simpa using hk⟩
 ·obtain⟨h2,h3⟩:=hκ b x h;simp only[jW,aM h2,dI,Option.some.injEq] at h1;rw[aM h2]
  by_cases hk:fO w.heap[b]=true
  ·rw[if_pos hk] at h1;rw[h1] at hk;cases hk
  ·rw[h3 _ (aM h2) (by simpa using hk)]
 ·simp only[jW] at ho;obtain⟨x,hx,rfl⟩:=eD.1 ho
  by_cases hk:fO x=true
  ·rw[if_pos hk];exact .inl hk
  ·rw[if_neg hk];exact .inr rfl
 ·simp only[jW,ho,dI,hk,if_true]
end
end Go.Lag
namespace Go.Lag
open Go.Conc
abbrev Rn:=Nat→Option Nat
def Rn.le(ρ ρ':Rn):Prop:=∀b c,ρ b=some c→ρ' b=some c
theorem Rn.le_refl(ρ:Rn):Rn.le ρ ρ:=fun _ _ h=>h
theorem Rn.le_trans{ρ ρ' ρ'':Rn}(h:Rn.le ρ ρ')(h':Rn.le ρ' ρ''):Rn.le ρ ρ'':=fun b c e=>h' b c (h b c e)
structure AR(ρ:Rn)(a a':cU):Prop where
 block:ρ a.block=some a'.block
 off:a'.off=a.off
 spot:a'.spot=a.spot
theorem AR.mono{ρ ρ':Rn}{a a':cU}(h:AR ρ a a')(hl:Rn.le ρ ρ'):AR ρ' a a':=⟨hl _ _ h.block,h.off,h.spot⟩
theorem AR.add{ρ:Rn}{a a':cU}(h:AR ρ a a')(n:Nat):AR ρ (a.add n) (a'.add n):=by
 unfold Addr.add;split
 ·exact h
 ·exact⟨h.block,by simp[h.off],rfl⟩
theorem AR.at{ρ:Rn}{a a':cU}(h:AR ρ a a')(off:Nat):AR ρ { a with off } { a' with off }:=⟨h.block,rfl,h.spot⟩
inductive VR(F:Nat→Bool)(ρ:Rn):aj→aj→Prop
 |bool (b:Bool):VR F ρ (.bool b) (.bool b)
 |int (k:IntKind) (n:Int):VR F ρ (.int k n) (.int k n)
 |string (s:ByteArray):VR F ρ (.string s) (.string s)
 |Cl:VR F ρ (.pointer none) (.pointer none)
 |ptr {a a':cU}:AR ρ a a'→VR F ρ (.pointer (some a)) (.pointer (some a'))
 |D6 (l c:Nat):VR F ρ (.slice none l c) (.slice none l c)
 |slice {a a':cU} (l c:Nat):AR ρ a a'→VR F ρ (.slice (some a) l c) (.slice (some a') l c)
 |VK:VR F ρ (.map none) (.map none)
 |map {r r':Nat}:ρ r=some r'→VR F ρ (.map (some r)) (.map (some r'))
 |chan (r:Option Nat):VR F ρ (.chan r) (.chan r)
 |func {f:dR} {fs fs' cs cs':Array aj}:F f=true→fs.size=fs'.size→(∀(i:Nat) (x y:aj),fs[i]?=some x→fs'[i]?=some y→VR F ρ x y)→
   cs.size=cs'.size→(∀(i:Nat) (x y:aj),cs[i]?=some x→cs'[i]?=some y→VR F ρ x y)→VR F ρ (.func (.func f) fs cs) (.func (.func f) fs' cs')
 |VM:VR F ρ .nilFunc .nilFunc
 |agg {cs cs':Array aj}:cs.size=cs'.size→(∀(i:Nat) (x y:aj),cs[i]?=some x→cs'[i]?=some y→VR F ρ x y)→VR F ρ (.agg cs) (.agg cs')
 |tuple {cs cs':Array aj}:cs.size=cs'.size→(∀(i:Nat) (x y:aj),cs[i]?=some x→cs'[i]?=some y→VR F ρ x y)→VR F ρ (.tuple cs) (.tuple cs')
structure iD(F:Nat→Bool)(ρ:Rn)(cs cs':Array aj):Prop where
 size:cs.size=cs'.size
 at_:∀(i:Nat) (x y:aj),cs[i]?=some x→cs'[i]?=some y→VR F ρ x y
section
variable{F:Nat→Bool}{ρ ρ':Rn}
theorem VR.mono{v v':aj}(h:VR F ρ v v')(hl:Rn.le ρ ρ'):VR F ρ' v v':=by
 induction h with
 |bool b=>exact .bool b
 |int k n=>exact .int k n
 |string s=>exact .string s
 |Cl=>exact .Cl
 |ptr h=>exact .ptr (h.mono hl)
 |D6 l c=>exact .D6 l c
 |slice l c h=>exact .slice l c (h.mono hl)
 |VK=>exact .VK
 |map h=>exact .map (hl _ _ h)
 |chan r=>exact .chan r
 |func hf h1 h2 h3 h4 UW YZ=>exact .func hf h1 UW h3 YZ
 |VM=>exact .VM
 |agg h1 h2 ih=>exact .agg h1 ih
 |tuple h1 h2 ih=>exact .tuple h1 ih
theorem iD.mono{cs cs':Array aj}(h:iD F ρ cs cs')(hl:Rn.le ρ ρ'):iD F ρ' cs cs':=⟨h.size,fun i x y h1 h2=>(h.at_ i x y h1 h2).mono hl⟩
theorem iD.agg{cs cs':Array aj}(h:iD F ρ cs cs'):VR F ρ (.agg cs) (.agg cs'):=.agg h.size h.at_
theorem iD.tuple{cs cs':Array aj}(h:iD F ρ cs cs'):VR F ρ (.tuple cs) (.tuple cs'):=.tuple h.size h.at_
theorem iD.get{cs cs':Array aj}(h:iD F ρ cs cs'){i:Nat}{x:aj}(hx:cs[i]?=some x):∃y,cs'[i]?=some y∧VR F ρ x y:=by
 have hi:i<cs.size:=(ak.1 hx).1;have hi':i<cs'.size:=h.size▸hi;exact⟨cs'[i],aM hi',h.at_ i x _ hx (aM hi')⟩
theorem iD.none{cs cs':Array aj}(h:iD F ρ cs cs'){i:Nat}(hx:cs[i]?=none):cs'[i]?=none:=by
 rw[Array.getElem?_eq_none_iff] at hx ⊢;rw[←h.size];exact hx
theorem iD.nil:iD F ρ #[] #[]:=⟨rfl,fun i x y h=>by simp at h⟩
theorem iD.of{n:Nat}{f g:Nat→aj}(h:∀i,i<n→VR F ρ (f i) (g i)):iD F ρ (Array.ofFn (n:=n) fun i=>f i) (Array.ofFn (n:=n) fun i=>g i):=by
 refine⟨by simp,fun i x y h1 h2=>?_⟩;simp only[Array.getElem?_ofFn] at h1 h2;split at h1
 ·rename_i hi;simp only[hi,dif_pos] at h2;cases h1;cases h2;exact h i hi
 ·cases h1
theorem iD.append{a a' b b':Array aj}(h:iD F ρ a a')(h':iD F ρ b b'):iD F ρ (a++b) (a'++b'):=by
 refine⟨by simp[h.size,h'.size],fun i x y h1 h2=>?_⟩;rw[Array.getElem?_append] at h1 h2;rw[←h.size] at h2;split at h1
 ·rename_i hi;simp only[hi,if_true] at h2;exact h.at_ _ _ _ h1 h2
 ·rename_i hi;simp only[hi,if_false] at h2;exact h'.at_ _ _ _ h1 h2
theorem iD.push{a a':Array aj}{v v':aj}(h:iD F ρ a a')(h':VR F ρ v v'):iD F ρ (a.push v) (a'.push v'):=by
 refine⟨by simp[h.size],fun i x y h1 h2=>?_⟩;rw[kN] at h1 h2;rw[←h.size] at h2;split at h1
 ·rename_i hi;simp only[hi,if_true] at h2;cases h1;cases h2;exact h'
 ·rename_i hi;simp only[hi,if_false] at h2;exact h.at_ _ _ _ h1 h2
theorem iD.one{v v':aj}(h:VR F ρ v v'):iD F ρ #[v] #[v']:=iD.nil.push h
theorem iD.extract{a a':Array aj}(h:iD F ρ a a')(i j:Nat):iD F ρ (a.extract i j) (a'.extract i j):=by
 refine⟨by simp[h.size],fun k x y h1 h2=>?_⟩;rw[Array.getElem?_extract] at h1 h2;rw[←h.size] at h2;split at h1
 ·rename_i hi;simp only[hi,if_true] at h2;exact h.at_ _ _ _ h1 h2
 ·cases h1
theorem iD.set{a a':Array aj}{v v':aj}(h:iD F ρ a a')(h':VR F ρ v v')(i:Nat):iD F ρ (a.setIfInBounds i v) (a'.setIfInBounds i v'):=by
 refine⟨by simp[h.size],fun k x y h1 h2=>?_⟩;rw[bA] at h1 h2;split at h1
 ·rename_i hi;simp only[hi,if_true] at h2;split at h1
  ·rename_i hl;rw[if_pos (by rw[←h.size];omega)] at h2;cases h1;cases h2;exact h'
  ·cases h1
 ·rename_i hi;simp only[hi,if_false] at h2;exact h.at_ _ _ _ h1 h2
theorem iD.replicate{v v':aj}(h:VR F ρ v v')(n:Nat):iD F ρ (aV n v) (aV n v'):=by
 refine⟨by simp,fun k x y h1 h2=>?_⟩;rw[Array.getElem?_replicate] at h1 h2
 by_cases hi:k<n
 ·rw[if_pos hi] at h1 h2;cases h1;cases h2;exact h
 ·rw[if_neg hi] at h1;cases h1
theorem iD.getD{a a':Array aj}{v v':aj}(h:iD F ρ a a')(h':VR F ρ v v')(i:Nat):VR F ρ (a.getD i v) (a'.getD i v'):=by
 rw[aW,aW];cases hx:a[i]? with
 |none=>rw[h.none hx];exact h'
 |some x=>
  obtain⟨y,hy,hv⟩:=h.get hx;rw[hy];exact hv
theorem iD.map{α:Type}{l:Array α}{f g:α→aj}(h:∀x∈l,VR F ρ (f x) (g x)):iD F ρ (l.map f) (l.map g):=by
 refine⟨by simp,fun k x y h1 h2=>?_⟩;simp only[jW] at h1 h2;cases hk:l[k]? with
 |none=>rw[hk] at h1;cases h1
 |some z=>
  rw[hk] at h1 h2;cases h1;cases h2;exact h z (eL hk)
theorem sW:VR F ρ undef undef:=iD.nil.tuple
theorem VR.cells{v v':aj}(h:VR F ρ v v'):iD F ρ v.cells v'.cells:=by
 cases h with
 |agg h1 h2=>exact⟨h1,h2⟩
 |bool b=>exact .one (.bool b)
 |int k n=>exact .one (.int k n)
 |string s=>exact .one (.string s)
 |Cl=>exact .one .Cl
 |ptr h=>exact .one (.ptr h)
 |D6 l c=>exact .one (.D6 l c)
 |slice l c h=>exact .one (.slice l c h)
 |VK=>exact .one .VK
 |map h=>exact .one (.map h)
 |chan r=>exact .one (.chan r)
 |func hf h1 h2 h3 h4=>exact .one (.func hf h1 h2 h3 h4)
 |VM=>exact .one .VM
 |tuple h1 h2=>exact .one (.tuple h1 h2)
def zo:aj→Bool
 |.bool _|.int ..|.string _|.pointer none|.slice none _ _|.map none|.chan _|.nilFunc=>true
 |_=>false
def EB:aj→Bool
 |.agg cs=>cs.all zo
 |.tuple cs=>cs.all zo
 |v=>zo v
theorem K7{v:aj}(h:zo v=true):VR F ρ v v:=by
 unfold zo at h;split at h
 all_goals first|cases h;done|constructor
theorem X8{cs:Array aj}(h:cs.all zo=true):iD F ρ cs cs:=⟨rfl,fun i x y h1 h2=>by
 rw[h1] at h2;cases h2
 exact K7 (jX.1 h x (eL h1))⟩
theorem zn{v:aj}(h:EB v=true):VR F ρ v v:=by
 unfold EB at h;split at h
 ·exact(X8 h).agg
 ·exact(X8 h).tuple
 ·exact K7 h
end
structure MER(F:Nat→Bool)(ρ:Rn)(x y:tU):Prop where
 key:VR F ρ x.key y.key
 val:VR F ρ x.val y.val
 born:x.born=y.born
inductive OR(F:Nat→Bool)(ρ:Rn):Obj→Obj→Prop
 |cells {cs cs':Array aj} {e:aZ} {z z':Nat × Nat}:iD F ρ cs cs'→(∀i,z'.1≤i→i<z'.2→z.1≤i∧i<z.2)→OR F ρ (.cells cs e z) (.cells cs' e z')
 |map {es es':Array tU} {k:Nat}:es.size=es'.size→(∀(i:Nat) (x y:tU),es[i]?=some x→es'[i]?=some y→MER F ρ x y)→OR F ρ (.map es k) (.map es' k)
 |number {a a':cU} (l:Bool):AR ρ a a'→OR F ρ (.number a l) (.number a' l)
theorem OR.Iy{F:Nat→Bool}{ρ:Rn}{o o':Obj}(h:OR F ρ o o'):o.isChan=false:=by cases h<;>rfl
theorem OR.mono{F:Nat→Bool}{ρ ρ':Rn}{o o':Obj}(h:OR F ρ o o')(hl:Rn.le ρ ρ'):OR F ρ' o o':=by
 cases h with
 |cells h1 h2=>exact .cells (h1.mono hl) h2
 |map h1 h2=>exact .map h1 fun i x y a b=>⟨(h2 i x y a b).key.mono hl,(h2 i x y a b).val.mono hl,(h2 i x y a b).born⟩
 |number l h=>exact .number l (h.mono hl)
structure WR(F:Nat→Bool)(G:Nat)(B:Nat→Prop)(ρ:Rn)(lw w:ar):Prop where
 inj:∀a b c,ρ a=some c→ρ b=some c→a=b
 low:∀b c,ρ b=some c→G≤b∧G≤c
 base:∀b,B b→b<lw.heap.size
 at_:∀b c,ρ b=some c→∃o o',lw.heap[b]?=some o∧w.heap[c]?=some o'∧OR F ρ o o'∧(B b→∃cs e n,o=.cells cs e (0,n)∧cs.size≤n)
 Iy:∀(b:Nat) (o:Obj),lw.heap[b]?=some o→o.isChan=false
def Fh:Halt→Prop
 |.panic _|.stuck _=>True
 |.unsupported (.initOrder _)=>False
 |.unsupported _=>True
 |_=>False
section
variable{F:Nat→Bool}{G:Nat}{B:Nat→Prop}{ρ:Rn}{lw w:ar}
theorem WR.cell(h:WR F G B ρ lw w){a a':cU}(ha:AR ρ a a'){v:aj}(hv:lw.cell? a=some v):∃v',w.cell? a'=some v'∧VR F ρ v v':=by
 obtain⟨o,o',h1,h2,h3,_⟩:=h.at_ _ _ ha.block;unfold World.cell? at hv ⊢;rw[h1] at hv;rw[h2];cases h3 with
 |map _ _=>cases hv
 |number _ _=>cases hv
 |cells hc hz=>
  simp only at hv ⊢;rw[ha.spot,ha.off];split at hv
  ·cases hv
  ·rename_i hs;rw[if_neg hs];exact hc.get hv
theorem WR.noCell(h:WR F G B ρ lw w){P:aI}{a a':cU}(ha:AR ρ a a')(hv:lw.cell? a=none){b:Bool}:∃e,lw.farLoad P a b=.error e∧Fh e:=by
 obtain⟨o,o',h1,h2,h3,_⟩:=h.at_ _ _ ha.block;unfold World.farLoad World.noCell;rw[h1];cases h3 with
 |map _ _=>exact⟨_,rfl,trivial⟩
 |number _ _=>exact⟨_,rfl,trivial⟩
 |cells hc hz=>exact⟨_,rfl,trivial⟩
theorem WR.VJ(h:WR F G B ρ lw w){P:aI}{a a':cU}(ha:AR ρ a a')(hv:lw.cell? a=none){b:Bool}{v:aj}:∃e,lw.farStore P a v b=.error e∧Fh e:=by
 obtain⟨o,o',h1,h2,h3,_⟩:=h.at_ _ _ ha.block;unfold World.farStore World.noCell;rw[h1];cases h3 with
 |map _ _=>exact⟨_,rfl,trivial⟩
 |number _ _=>exact⟨_,rfl,trivial⟩
 |cells hc hz=>exact⟨_,rfl,trivial⟩
theorem WR.shape(h:WR F G B ρ lw w){r r':Nat}(hr:ρ r=some r'):w.shape? r'=lw.shape? r:=by
 obtain⟨o,o',h1,h2,h3,_⟩:=h.at_ _ _ hr;unfold World.shape?;rw[h1,h2];cases h3 with
 |map _ _=>rfl
 |number _ _=>rfl
 |cells hc hz=>simp[hc.size]
theorem WR.tape(h:WR F G B ρ lw w)(τ τ':Nat→dE→Nat)(d d':Nat):WR F G B ρ (dx lw τ d) (dx w τ' d'):=⟨h.inj,h.low,h.base,h.at_,h.Iy⟩
theorem WR.turn(h:WR F G B ρ lw w){b c:Nat}(hb:ρ b=some c)(hB:¬B b){o o':Obj}(ho:OR F ρ o o'){ep w':ar}(h1:ep.heap=lw.heap.setIfInBounds b o)(h2:w'.heap=w.heap.setIfInBounds c o'):WR F G B ρ ep w':=by
 refine⟨h.inj,h.low,fun x hx=>by rw[h1];simpa using h.base x hx,fun x y hx=>?_,fun x y hx=>?_⟩
 rotate_left
 ·rw[h1] at hx
  by_cases hxb:b=x
  ·subst hxb;rcases Nat.lt_or_ge b lw.heap.size with hl|hl
   ·rw[a8 hl] at hx;cases hx;exact ho.Iy
   ·rw[Array.getElem?_eq_none (by simpa using hl)] at hx;cases hx
  ·rw[aA hxb] at hx;exact h.Iy _ _ hx
 rw[h1,h2];obtain⟨p,p',e1,e2,e3,e4⟩:=h.at_ x y hx
 by_cases hxb:b=x
 ·subst hxb;have:c=y:=by rw[hb] at hx;exact bg hx
  subst this;refine⟨o,o',?_,?_,ho,fun hlt=>absurd hlt hB⟩
  ·rw[a8 (eE e1)]
  ·rw[a8 (eE e2)]
 ·have hyc:c≠y:=fun hc=>hxb (h.inj b x c hb (hc▸hx));rw[aA hxb,aA hyc];exact⟨p,p',e1,e2,e3,e4⟩
theorem yB{w:ar}{a:cU}{v:aj}{cs:Array aj}{e:aZ}{z:Nat × Nat}(h:w.heap[a.block]?=some (.cells cs e z)) :
  (w.setCell a v).heap=w.heap.setIfInBounds a.block (.cells (if a.spot.isSome then cs else cs.setIfInBounds a.off v) e z):=by
 apply Array.ext_getElem?;intro j;simp only[j3];rw[o8,bA];split
 ·rename_i U1;subst U1;rw[h,if_pos (eE h)];rfl
 ·rfl
theorem WR.setCell(h:WR F G B ρ lw w){a a':cU}(ha:AR ρ a a'){v v' x:aj}(hv:VR F ρ v v')(hc:lw.cell? a=some x)(hz:lw.frozen? a=false) :
  ¬B a.block∧w.frozen? a'=false∧WR F G B ρ (lw.setCell a v) (w.setCell a' v'):=by
 obtain⟨o,o',h1,h2,h3,h4⟩:=h.at_ _ _ ha.block;unfold World.cell? at hc;unfold World.frozen? at hz ⊢;rw[h1] at hc hz;rw[h2];cases h3 with
 |map _ _=>cases hc
 |number _ _=>cases hc
 |@cells cs cs' e z z' hcs hfz=>
  simp only at hc hz ⊢
  have afN:cs[a.off]?=some x:=by
   split at hc
   ·cases hc
   ·exact hc
  have hB:¬B a.block:=by
   intro hlt;obtain⟨cs1,e1,n,he,hn⟩:=h4 hlt;injection he with he1 he2 he3
   subst he1;subst he3;have:=(ak.1 afN).1;have h5:a.off<n:=by omega
   simp[h5] at hz
  refine⟨hB,?_,?_⟩
  ·rw[ha.off];cases hcc:(decide (z'.1≤a.off)&&decide (a.off<z'.2)) with
   |false=>rfl
   |true=>
    simp only[aD,decide_eq_true_eq] at hcc;have:=hfz _ hcc.1 hcc.2;simp[this] at hz
  ·refine h.turn ha.block hB (o:=.cells (if a.spot.isSome then cs else cs.setIfInBounds a.off v) e z) (o':=.cells (if a'.spot.isSome then cs' else cs'.setIfInBounds a'.off v') e z') ?_ (yB h1) (yB h2);rw[ha.spot,ha.off];split
   ·exact .cells hcs hfz
   ·exact .cells (hcs.set hv _) hfz
def Rn.with(ρ:Rn)(b c:Nat):Rn:=fun x=>if x=b then some c else ρ x
theorem Rn.OJ{ρ:Rn}{b c:Nat}(h:ρ b=none):Rn.le ρ (ρ.with b c):=fun x y hx=>by
 unfold Rn.with
 split
 ·rename_i he;subst he;rw[h] at hx;cases hx
 ·exact hx
theorem Rn.Ad{ρ:Rn}{b c:Nat}:ρ.with b c b=some c:=by simp[Rn.with]
theorem WR.fresh(h:WR F G B ρ lw w):ρ lw.heap.size=none:=by
 cases e:ρ lw.heap.size with
 |none=>rfl
 |some c=>
  obtain⟨o,_,h1,_⟩:=h.at_ _ _ e;have:=eE h1;omega
theorem WR.new(h:WR F G B ρ lw w)(hG:G≤lw.heap.size)(CZ:G≤w.heap.size){o o':Obj}(ho:OR F ρ o o') :
  WR F G B (ρ.with lw.heap.size w.heap.size) { lw with heap:=lw.heap.push o } { w with heap:=w.heap.push o' }:=by
 have hle:=Rn.OJ (c:=w.heap.size) h.fresh;refine⟨fun a b c ha hb=>?_,fun b c hb=>?_,fun b hb=>by have:=h.base b hb;simp;omega,fun b c hb=>?_,fun b x hx=>?_⟩
 ·unfold Rn.with at ha hb
  have lt:∀x,ρ x=some w.heap.size→False:=fun x hx=>by
   obtain⟨_,_,_,h2,_⟩:=h.at_ _ _ hx;have:=eE h2;omega
  split at ha
  ·split at hb
   ·rename_i h1 h2;rw[h1,h2]
   ·cases ha;exact(lt _ hb).elim
  ·split at hb
   ·cases hb;exact(lt _ ha).elim
   ·exact h.inj _ _ _ ha hb
 ·unfold Rn.with at hb
  split at hb
  ·rename_i he;cases hb;rw[he];exact⟨hG,CZ⟩
  ·exact h.low _ _ hb
 ·by_cases he:b=lw.heap.size
  ·subst he;rw[Rn.Ad] at hb;cases hb;refine⟨o,o',by simp,by simp,ho.mono hle,fun hlt=>absurd (h.base _ hlt) (by omega)⟩
  ·unfold Rn.with at hb
   simp only[he,if_false] at hb;obtain⟨p,p',e1,e2,e3,e4⟩:=h.at_ _ _ hb;refine⟨p,p',?_,?_,e3.mono hle,e4⟩
   ·simp only;rw[Array.getElem?_push_lt (eE e1)];rw[←e1];exact(aM (eE e1)).symm
   ·simp only;rw[Array.getElem?_push_lt (eE e2)];rw[←e2];exact(aM (eE e2)).symm
 ·simp only at hx;rw[kN] at hx;split at hx
  ·cases hx;exact ho.Iy
  ·exact h.Iy _ _ hx
end
def qE(P:aI){α:Type}(s:ic α):Prop:=∀w es,∃h w' es',s.runT P w es=(.halt h w',es')∧Fh h
inductive bP(P:aI)(F:Nat→Bool){α β:Type}(A:Rn→α→β→Prop):Rn→ic α→ic β→Prop
 |pure {ρ:Rn} {a:α} {b:β}:A ρ a b→bP P F A ρ (.pure a) (.pure b)
 |dead {ρ:Rn} {s:ic α} {s':ic β}:qE P s→bP P F A ρ s s'
 |load {ρ:Rn} {a a':cU} {k:aj→ic α} {k':aj→ic β}:AR ρ a a'→(∀v v',VR F ρ v v'→bP P F A ρ (k v) (k' v'))→bP P F A ρ (.load .plain a k) (.load .plain a' k')
 |store {ρ:Rn} {a a':cU} {v v':aj} {k:ic α} {k':ic β}:AR ρ a a'→VR F ρ v v'→bP P F A ρ k k'→bP P F A ρ (.store .plain a v k) (.store .plain a' v' k')
 |new {ρ:Rn} {o o':Obj} {k:Nat→ic α} {k':Nat→ic β}:OR F ρ o o'→(∀ρ' r r',Rn.le ρ ρ'→ρ' r=some r'→bP P F A ρ' (k r) (k' r'))→bP P F A ρ (.new o k) (.new o' k')
 |shape {ρ:Rn} {r r':Nat} {k:Option (aZ × Nat)→ic α} {k':Option (aZ × Nat)→ic β}:ρ r=some r'→(∀s,bP P F A ρ (k s) (k' s))→bP P F A ρ (.shape r k) (.shape r' k')
 |getObj {ρ:Rn} {r r':Nat} {k:Obj→ic α} {k':Obj→ic β}:ρ r=some r'→(∀o o',OR F ρ o o'→bP P F A ρ (k o) (k' o'))→bP P F A ρ (.getObj r k) (.getObj r' k')
 |setObj {ρ:Rn} {r r':Nat} {o o':Obj} {k:ic α} {k':ic β}:ρ r=some r'→OR F ρ o o'→bP P F A ρ k k'→bP P F A ρ (.setObj r o k) (.setObj r' o' k')
 |choose {ρ:Rn} {q:dE} {k:Nat→ic α} {k':Nat→ic β}:(∀n,bP P F A ρ (k n) (k' n))→bP P F A ρ (.choose q k) (.choose q k')
 |program {ρ:Rn} {k:aI→ic α} {k':aI→ic β}:bP P F A ρ (k P) (k' P)→bP P F A ρ (.program k) (.program k')
 |noRoom {ρ:Rn} {k:ic α} {k':ic β}:bP P F A ρ k k'→bP P F A ρ (.mark .noRoom k) (.mark .noRoom k')
section
variable{P:aI}{F:Nat→Bool}{α β γ δ:Type}{A:Rn→α→β→Prop}{A':Rn→γ→δ→Prop}{ρ:Rn}
theorem q7{h:Halt}(hh:Fh h):qE P (.halt h:ic α):=fun w es=>⟨h,w,es,rfl,hh⟩
theorem qE.bind{s:ic α}(h:qE P s)(f:α→ic γ):qE P (s >>= f):=fun w es=>by
 obtain⟨e,w',es',h1,h2⟩:=h w es;refine⟨e,w',es',?_,h2⟩;show(s.bind f).runT P w es=_;rw[Sem.runT_bind',h1]
theorem bP.bind{s:ic α}{s':ic β}{f:α→ic γ}{f':β→ic δ}(h:bP P F A ρ s s')(hf:∀ρ' a b,Rn.le ρ ρ'→A ρ' a b→bP P F A' ρ' (f a) (f' b)) :
  bP P F A' ρ (s >>= f) (s' >>= f'):=by
 show bP P F A' ρ (s.bind f) (s'.bind f')
 induction h with
 |pure ha=>exact hf _ _ _ (Rn.le_refl _) ha
 |dead hd=>exact .dead (hd.bind f)
 |load ha _ ih=>exact .load ha fun v v' hv=>ih v v' hv hf
 |store ha hv _ ih=>exact .store ha hv (ih hf)
 |new ho _ ih=>exact .new ho fun ρ' r r' hl hr=>ih ρ' r r' hl hr fun ρ'' a b hl'=>hf ρ'' a b (Rn.le_trans hl hl')
 |shape hr _ ih=>exact .shape hr fun s=>ih s hf
 |getObj hr _ ih=>exact .getObj hr fun o o' ho=>ih o o' ho hf
 |setObj hr ho _ ih=>exact .setObj hr ho (ih hf)
 |choose _ ih=>exact .choose fun n=>ih n hf
 |program _ ih=>exact .program (ih hf)
 |noRoom _ ih=>exact .noRoom (ih hf)
theorem bP.imp{A':Rn→α→β→Prop}{s:ic α}{s':ic β}(h:bP P F A ρ s s')(hf:∀ρ' a b,Rn.le ρ ρ'→A ρ' a b→A' ρ' a b):bP P F A' ρ s s':=by
 induction h with
 |pure ha=>exact .pure (hf _ _ _ (Rn.le_refl _) ha)
 |dead hd=>exact .dead hd
 |load ha _ ih=>exact .load ha fun v v' hv=>ih v v' hv hf
 |store ha hv _ ih=>exact .store ha hv (ih hf)
 |new ho _ ih=>exact .new ho fun ρ' r r' hl hr=>ih ρ' r r' hl hr fun ρ'' a b hl'=>hf ρ'' a b (Rn.le_trans hl hl')
 |shape hr _ ih=>exact .shape hr fun s=>ih s hf
 |getObj hr _ ih=>exact .getObj hr fun o o' ho=>ih o o' ho hf
 |setObj hr ho _ ih=>exact .setObj hr ho (ih hf)
 |choose _ ih=>exact .choose fun n=>ih n hf
 |program _ ih=>exact .program (ih hf)
 |noRoom _ ih=>exact .noRoom (ih hf)
abbrev At(ρ:Rn)(Q:α→β→Prop):Rn→α→β→Prop:=fun ρ' a b=>ρ'=ρ∧Q a b
theorem bP.dG{Q:α→β→Prop}{s:ic α}{s':ic β}{f:α→ic γ}{f':β→ic δ}(h:bP P F (At ρ Q) ρ s s')(hf:∀a b,Q a b→bP P F A' ρ (f a) (f' b)) :
  bP P F A' ρ (s >>= f) (s' >>= f'):=h.bind fun ρ' a b _ ⟨e,hq⟩=>by subst e;exact hf a b hq
theorem bP.dt{Q:α→β→Prop}{a:α}{b:β}(h:Q a b):bP P F (At ρ Q) ρ (eH a) (eH b):=.pure ⟨rfl,h⟩
theorem bf{s:String}{s':ic β}:bP P F A ρ (stuck s) s':=.dead (q7 trivial)
theorem cj{u:Unsupported}{s':ic β}(h:∀g,u≠.initOrder g):bP P F A ρ (qJ u) s':=.dead (q7 (by cases u<;>first|trivial|exact absurd rfl (h _)))
end
def N8(R W:Nat→Prop)(e:fQ):Prop:=
 (∃a:cU,e.loc=.cell a∧e.sync=false∧R a.block∧(e.write=true→W a.block))∨(∃r,e.loc=.obj r∧e.sync=false∧R r∧(e.write=true→W r))∨e.loc=.mark .noRoom
theorem N8.mono{R R' W W':Nat→Prop}{e:fQ}(h:N8 R W e)(hR:∀c,R c→R' c)(hW:∀c,W c→W' c):N8 R' W' e:=by
 rcases h with⟨a,h1,h2,h3,h4⟩|⟨r,h1,h2,h3,h4⟩|h
 ·exact .inl ⟨a,h1,h2,hR _ h3,fun e=>hW _ (h4 e)⟩
 ·exact .inr (.inl ⟨r,h1,h2,hR _ h3,fun e=>hW _ (h4 e)⟩)
 ·exact .inr (.inr h)
def Rn.knows(ρ:Rn)(c:Nat):Prop:=∃b,ρ b=some c
def Rn.owns(ρ:Rn)(B:Nat→Prop)(c:Nat):Prop:=∃b,¬B b∧ρ b=some c
def vB(lw w:ar):Prop:=∀i,lw.tape (lw.drawn+i)=w.tape (w.drawn+i)
structure mr(F:Nat→Bool)(G:Nat)(B:Nat→Prop)(ρ:Rn)(lw w:ar)(ρ':Rn)(ep w':ar)(evs:Array fQ):Prop where
 wr:WR F G B ρ' ep w'
 le:Rn.le ρ ρ'
 new:∀b c,ρ' b=some c→ρ b=some c∨(lw.heap.size≤b∧w.heap.size≤c)
 GL:lw.heap.size≤ep.heap.size
 grow:w.heap.size≤w'.heap.size
 keep:∀c,c<w.heap.size→¬ρ.owns B c→w'.heap[c]?=w.heap[c]?
 fresh:∀c,w.heap.size≤c→c<w'.heap.size→ρ'.knows c
 tape:w'.tape=w.tape
 OI:ep.tape=lw.tape
 draw:∃k,ep.drawn=lw.drawn+k∧w'.drawn=w.drawn+k
 os:w'.os=w.os
 out:w'.output=w.output
 evs:∀e∈evs,N8 ρ'.knows (ρ'.owns B) e
section
variable{P:aI}{F:Nat→Bool}{G:Nat}{B:Nat→Prop}{ρ ρ' ρ'':Rn}{lw w ep w' acg w'':ar}{es es':Array fQ}
theorem mr.refl(h:WR F G B ρ lw w):mr F G B ρ lw w ρ lw w #[]:=
 ⟨h,Rn.le_refl _,fun b c h=>.inl h,ax _,ax _,fun _ _ _=>rfl,fun c h1 h2=>absurd h1 (by omega),rfl,rfl,⟨0,rfl,rfl⟩,rfl,rfl,by simp⟩
theorem mr.trans(h:mr F G B ρ lw w ρ' ep w' es)(h':mr F G B ρ' ep w' ρ'' acg w'' es')(hB:∀b,B b→b<lw.heap.size):mr F G B ρ lw w ρ'' acg w'' (es++es'):=by
 refine⟨h'.wr,Rn.le_trans h.le h'.le,fun b c hb=>?_,aN h.GL h'.GL,aN h.grow h'.grow,fun c hc hn=>?_,fun c h1 h2=>?_,h'.tape.trans h.tape,h'.OI.trans h.OI,?_,h'.os.trans h.os,h'.out.trans h.out,fun e he=>?_⟩
 ·rcases h'.new b c hb with h1|⟨h1,h2⟩
  ·exact h.new b c h1
  ·exact .inr ⟨aN h.GL h1,aN h.grow h2⟩
 ·rw[h'.keep c (bB hc h.grow) ?_,h.keep c hc hn];rintro⟨b,hb,he⟩;rcases h.new b c he with h1|⟨_,h2⟩
  ·exact hn ⟨b,hb,h1⟩
  ·omega
 ·rcases Nat.lt_or_ge c w'.heap.size with hl|hg
  ·obtain⟨b,hb⟩:=h.fresh c h1 hl;exact⟨b,h'.le _ _ hb⟩
  ·exact h'.fresh c hg h2
 ·obtain⟨k,h1,h2⟩:=h.draw;obtain⟨k',h3,h4⟩:=h'.draw;exact⟨k+k',by omega,by omega⟩
 ·rcases Gf.1 he with h1|h1
  ·exact(h.evs e h1).mono (fun c ⟨b,hb⟩=>⟨b,h'.le _ _ hb⟩) (fun c ⟨b,h1,hb⟩=>⟨b,h1,h'.le _ _ hb⟩)
  ·exact h'.evs e h1
theorem mr.Xw(h:mr F G B ρ lw w ρ' ep w' es)(ht:vB lw w):vB ep w':=fun i=>by
 obtain⟨k,h1,h2⟩:=h.draw;rw[h.OI,h.tape,h1,h2,np,np];exact ht _
theorem mr.more(h:mr F G B ρ lw w ρ' ep w' es)(h2:∀e∈es',N8 ρ'.knows (ρ'.owns B) e):mr F G B ρ lw w ρ' ep w' es':=
 ⟨h.wr,h.le,h.new,h.GL,h.grow,h.keep,h.fresh,h.tape,h.OI,h.draw,h.os,h.out,h2⟩
theorem mr.push(h:mr F G B ρ lw w ρ' ep w' es){e:fQ}(he:N8 ρ.knows (ρ.owns B) e):mr F G B ρ lw w ρ' ep w' (#[e]++es):=
 h.more fun x hx=>by
  rcases Gf.1 hx with h1|h1
  ·simp only[eI,List.mem_singleton] at h1;subst h1;exact he.mono (fun c ⟨b,hb⟩=>⟨b,h.le _ _ hb⟩) (fun c ⟨b,h1,hb⟩=>⟨b,h1,h.le _ _ hb⟩)
  ·exact h.evs x h1
theorem Gg(h:WR F G B ρ lw w)(h':WR F G B ρ ep w'){c:Nat}(hc:ρ.owns B c)(hl:ep.heap.size=lw.heap.size){o':Obj}(hh:w'.heap=w.heap.setIfInBounds c o')
  (h1:w'.tape=w.tape) (h2:ep.tape=lw.tape) (h3:ep.drawn=lw.drawn) (h4:w'.drawn=w.drawn) (h5:w'.os=w.os) (h6:w'.output=w.output):mr F G B ρ lw w ρ ep w' #[]:=
 ⟨h',Rn.le_refl _,fun b c h=>.inl h,by omega,by rw[hh];simp,fun x hx hn=>by
  rw[hh,aA (fun e=>hn (by rw[←e];exact hc))],
  fun c h1 h2=>by rw[hh] at h2;simp at h2;omega,h1,h2,⟨0,by simp[h3],by simp[h4]⟩,h5,h6,by simp⟩
theorem RM(h:WR F G B ρ lw w)(hG:G≤lw.heap.size)(CZ:G≤w.heap.size){o o':Obj}(ho:OR F ρ o o') :
  mr F G B ρ lw w (ρ.with lw.heap.size w.heap.size) { lw with heap:=lw.heap.push o } { w with heap:=w.heap.push o' } #[]:=by
 refine⟨h.new hG CZ ho,Rn.OJ h.fresh,fun b c hb=>?_,by simp,by simp,fun c hc _=>?_,fun c h1 h2=>?_,rfl,rfl,⟨0,rfl,rfl⟩,rfl,rfl,by simp⟩
 ·unfold Rn.with at hb
  split at hb
  ·rename_i he;cases hb;exact .inr ⟨by omega,ax _⟩
  ·exact .inl hb
 ·simp only;rw[Array.getElem?_push_lt hc];exact(aM hc).symm
 ·simp only[Array.size_push] at h2;have:c=w.heap.size:=by omega
  subst this;exact⟨lw.heap.size,Rn.Ad⟩
theorem Gh(h:WR F G B ρ lw w):mr F G B ρ lw w ρ { lw with drawn:=lw.drawn+1 } { w with drawn:=w.drawn+1 } #[]:=
 ⟨h.tape _ _ _ _,Rn.le_refl _,fun b c h=>.inl h,ax _,ax _,fun _ _ _=>rfl,fun c h1 h2=>absurd h2 (by simp only;omega),rfl,rfl,⟨1,rfl,rfl⟩,rfl,rfl,by simp⟩
theorem qj{α:Type}(es evs:Array α)(e:α):es.push e++evs=es++(#[e]++evs):=by
 rw[←Array.append_assoc,Array.append_singleton]
theorem bP.runT{α β:Type}{A:Rn→α→β→Prop}{s:ic α}{s':ic β}(h:bP P F A ρ s s'):∀ {lw w:ar},WR F G B ρ lw w→vB lw w→G≤lw.heap.size→G≤w.heap.size→∀es es',
  (∃a ep l b w' evs ρ',s.runT P lw es=(.ok a ep,l)∧s'.runT P w es'=(.ok b w',es'++evs)∧A ρ' a b∧mr F G B ρ lw w ρ' ep w' evs)∨
  (∃e ep l,s.runT P lw es=(.halt e ep,l)∧Fh e):=by
 induction h with
 |@pure ρ a b ha=>exact fun hw _ _ _ es es'=>.inl ⟨a,_,es,b,_,#[],ρ,rfl,by simp[dD],ha,.refl hw⟩
 |@dead ρ s s' hd=>
  intro lw w hw _ _ _ es es';obtain⟨e,w1,l,h1,h2⟩:=hd lw es;exact .inr ⟨e,w1,l,h1,h2⟩
 |@load ρ a a' k k' ha _ ih=>
  intro lw w hw ht hG CZ es es';simp only[dD];cases hc:lw.cell? a with
  |none=>
   obtain⟨e,h1,h2⟩:=hw.noCell (P:=P) ha hc (b:=(l6 == .atomic));rw[h1];exact .inr ⟨e,lw,es,rfl,h2⟩
  |some v=>
   obtain⟨v',hc',hv⟩:=hw.cell ha hc;rw[hc'];rcases ih v v' hv hw ht hG CZ (es.push ⟨.cell a,false,l6 == .atomic⟩) (es'.push ⟨.cell a',false,l6 == .atomic⟩) with⟨x,jH,l,y,w1,evs,ρ1,h1,h2,h3,h4⟩|h
   ·refine .inl ⟨x,jH,l,y,w1,_,ρ1,h1,?_,h3,h4.push (e:=⟨.cell a',false,l6 == .atomic⟩) (.inl ⟨a',rfl,rfl,⟨_,ha.block⟩,by simp⟩)⟩;exact h2.trans (by rw[qj])
   ·exact .inr h
 |@store ρ a a' v v' k k' ha hv _ ih=>
  intro lw w hw ht hG CZ es es'
  have main:(∃a1 ep l b w' evs ρ',(match lw.cell? a with
     |some _=>if lw.frozen? a then(.halt (.unsupported (.unsafePointer "a write to bytes that a string shares")) lw,es) else k.runT P (lw.setCell a v) (es.push ⟨.cell a,true,l6 == .atomic⟩)
     |none=>match lw.farStore P a v (l6 == .atomic) with
      |.ok (w,sX)=>k.runT P w (es++sX.toArray.map (⟨.cell ·,true,l6 == .atomic⟩))
      |.error h=>(.halt h lw,es))=(.ok a1 ep,l)∧(match w.cell? a' with
     |some _=>if w.frozen? a' then(.halt (.unsupported (.unsafePointer "a write to bytes that a string shares")) w,es') else k'.runT P (w.setCell a' v') (es'.push ⟨.cell a',true,l6 == .atomic⟩)
     |none=>match w.farStore P a' v' (l6 == .atomic) with
      |.ok (w,sX)=>k'.runT P w (es'++sX.toArray.map (⟨.cell ·,true,l6 == .atomic⟩))
      |.error h=>(.halt h w,es'))=(.ok b w',es'++evs)∧A ρ' a1 b∧mr F G B ρ lw w ρ' ep w' evs)∨(∃e ep l,(match lw.cell? a with
     |some _=>if lw.frozen? a then(.halt (.unsupported (.unsafePointer "a write to bytes that a string shares")) lw,es) else k.runT P (lw.setCell a v) (es.push ⟨.cell a,true,l6 == .atomic⟩)
     |none=>match lw.farStore P a v (l6 == .atomic) with
      |.ok (w,sX)=>k.runT P w (es++sX.toArray.map (⟨.cell ·,true,l6 == .atomic⟩))
      |.error h=>(.halt h lw,es))=(.halt e ep,l)∧Fh e):=by
   cases hc:lw.cell? a with
   |none=>
    obtain⟨e,h1,h2⟩:=hw.VJ (P:=P) ha hc (b:=(l6 == .atomic)) (v:=v);simp only[h1];exact .inr ⟨e,lw,es,rfl,h2⟩
   |some x=>
    obtain⟨x',hc',_⟩:=hw.cell ha hc;simp only[hc'];cases hz:lw.frozen? a with
    |true=>exact .inr ⟨_,lw,es,rfl,trivial⟩
    |false=>
     obtain⟨hB,hz',hw'⟩:=hw.setCell ha hv hc hz;simp only[hz',bw,if_false];have hsz:(lw.setCell a v).heap.size=lw.heap.size:=by simp[j3]
     have hown:ρ.owns B a'.block:=⟨a.block,hB,ha.block⟩
     have hturn:mr F G B ρ lw w ρ (lw.setCell a v) (w.setCell a' v') #[]:=by
      obtain⟨o,o',_,e2,_,_⟩:=hw.at_ _ _ ha.block;refine⟨hw',Rn.le_refl _,fun b c h=>.inl h,by omega,by simp[j3],fun c hcl hn=>?_,fun c h1 h2=>by simp[j3] at h2;omega,rfl,rfl,⟨0,rfl,rfl⟩,rfl,rfl,by simp⟩;simp only[j3,o8];rw[if_neg (fun e=>hn (by rw[←e];exact hown))]
     rcases ih hw' (fun i=>ht i) (by omega) (by simp[j3];exact CZ) (es.push ⟨.cell a,true,l6 == .atomic⟩) (es'.push ⟨.cell a',true,l6 == .atomic⟩) with⟨x,jH,l,y,w1,evs,ρ1,h1,h2,h3,h4⟩|h
     ·refine .inl ⟨x,jH,l,y,w1,#[⟨.cell a',true,l6 == .atomic⟩]++(#[]++evs),ρ1,h1,?_,h3,(hturn.trans h4 hw.base).push (.inl ⟨a',rfl,rfl,⟨_,ha.block⟩,fun _=>hown⟩)⟩;exact h2.trans (by simp only[qj,eO])
     ·exact .inr h
  cases hv with
  |agg _ _=>exact .inr ⟨_,lw,es,rfl,trivial⟩
  |tuple _ _=>exact .inr ⟨_,lw,es,rfl,trivial⟩
  |_=>simp only[dD];exact main
 |@new ρ o o' k k' ho _ ih=>
  intro lw w hw ht hG CZ es es';simp only[dD];have h0:=RM hw hG CZ ho;rcases ih _ lw.heap.size w.heap.size h0.le Rn.Ad h0.wr (h0.Xw ht) (by simp;omega) (by simp;omega) es es' with⟨x,jH,l,y,w1,evs,ρ1,h1,h2,h3,h4⟩|h
  ·exact .inl ⟨x,jH,l,y,w1,_,ρ1,h1,by rw[h2];simp,h3,h0.trans h4 hw.base⟩
  ·exact .inr h
 |@shape ρ r r' k k' hr _ ih=>
  intro lw w hw ht hG CZ es es';simp only[dD];rw[hw.shape hr];exact ih _ hw ht hG CZ es es'
 |@getObj ρ r r' k k' hr _ ih=>
  intro lw w hw ht hG CZ es es';obtain⟨o,o',e1,e2,ho,_⟩:=hw.at_ _ _ hr;simp only[dD,e1,e2];cases ho with
  |cells _ _=>exact .inr ⟨_,lw,es,rfl,trivial⟩
  |@map es1 es2 k1 hs hm=>
   simp only;rcases ih _ _ (.map hs hm) hw ht hG CZ (es.push ⟨.obj r,false,(Obj.map es1 k1).isChan⟩) (es'.push ⟨.obj r',false,(Obj.map es2 k1).isChan⟩) with⟨x,jH,l,y,w1,evs,ρ1,h1,h2,h3,h4⟩|h
   ·refine .inl ⟨x,jH,l,y,w1,_,ρ1,h1,?_,h3,h4.push (e:=⟨.obj r',false,(Obj.map es2 k1).isChan⟩) (.inr (.inl ⟨r',rfl,rfl,⟨_,hr⟩,by simp⟩))⟩;exact h2.trans (by simp only[qj,eO])
   ·exact .inr h
  |@number a1 a2 k1 hs=>
   simp only;rcases ih _ _ (.number k1 hs) hw ht hG CZ (es.push ⟨.obj r,false,(Obj.number a1 k1).isChan⟩) (es'.push ⟨.obj r',false,(Obj.number a2 k1).isChan⟩) with⟨x,jH,l,y,w1,evs,ρ1,h1,h2,h3,h4⟩|h
   ·refine .inl ⟨x,jH,l,y,w1,_,ρ1,h1,?_,h3,h4.push (e:=⟨.obj r',false,(Obj.number a2 k1).isChan⟩) (.inr (.inl ⟨r',rfl,rfl,⟨_,hr⟩,by simp⟩))⟩;exact h2.trans (by simp only[qj,eO])
   ·exact .inr h
 |@setObj ρ r r' o o' k k' hr ho _ ih=>
  intro lw w hw ht hG CZ es es';obtain⟨p,p',e1,e2,hp,hfz⟩:=hw.at_ _ _ hr;simp only[dD,e1,e2];cases hp with
  |cells _ _=>exact .inr ⟨_,lw,es,rfl,trivial⟩
  |@map es1 es2 k1 hs hm=>
   simp only
   have hB:¬B r:=fun hl=>by
    obtain⟨_,_,_,h,_⟩:=hfz hl;cases h
   have hown:ρ.owns B r':=⟨r,hB,hr⟩
   have hw':WR F G B ρ { lw with heap:=lw.heap.setIfInBounds r o } { w with heap:=w.heap.setIfInBounds r' o' }:=hw.turn hr hB ho rfl rfl
   have hturn:mr F G B ρ lw w ρ { lw with heap:=lw.heap.setIfInBounds r o } { w with heap:=w.heap.setIfInBounds r' o' } #[]:=
    Gg hw hw' hown (by simp) rfl rfl rfl rfl rfl rfl rfl
   have hch:o'.isChan=false:=by cases ho<;>rfl
   rcases ih hw' (fun i=>ht i) (by simpa using hG) (by simpa using CZ) (es.push ⟨.obj r,true,o.isChan⟩) (es'.push ⟨.obj r',true,o'.isChan⟩) with⟨x,jH,l,y,w1,evs,ρ1,h1,h2,h3,h4⟩|h
   ·refine .inl ⟨x,jH,l,y,w1,#[⟨.obj r',true,o'.isChan⟩]++(#[]++evs),ρ1,h1,?_,h3,(hturn.trans h4 hw.base).push (.inr (.inl ⟨r',rfl,hch,⟨_,hr⟩,fun _=>hown⟩))⟩;exact h2.trans (by simp only[qj,eO])
   ·exact .inr h
  |@number a1 a2 k1 hs=>
   simp only
   have hB:¬B r:=fun hl=>by
    obtain⟨_,_,_,h,_⟩:=hfz hl;cases h
   have hown:ρ.owns B r':=⟨r,hB,hr⟩
   have hw':WR F G B ρ { lw with heap:=lw.heap.setIfInBounds r o } { w with heap:=w.heap.setIfInBounds r' o' }:=hw.turn hr hB ho rfl rfl
   have hturn:mr F G B ρ lw w ρ { lw with heap:=lw.heap.setIfInBounds r o } { w with heap:=w.heap.setIfInBounds r' o' } #[]:=
    Gg hw hw' hown (by simp) rfl rfl rfl rfl rfl rfl rfl
   have hch:o'.isChan=false:=by cases ho<;>rfl
   rcases ih hw' (fun i=>ht i) (by simpa using hG) (by simpa using CZ) (es.push ⟨.obj r,true,o.isChan⟩) (es'.push ⟨.obj r',true,o'.isChan⟩) with⟨x,jH,l,y,w1,evs,ρ1,h1,h2,h3,h4⟩|h
   ·refine .inl ⟨x,jH,l,y,w1,#[⟨.obj r',true,o'.isChan⟩]++(#[]++evs),ρ1,h1,?_,h3,(hturn.trans h4 hw.base).push (.inr (.inl ⟨r',rfl,hch,⟨_,hr⟩,fun _=>hown⟩))⟩;exact h2.trans (by simp only[qj,eO])
   ·exact .inr h
 |@choose ρ q k k' _ ih=>
  intro lw w hw ht hG CZ es es';simp only[dD];split
  ·exact ih 0 hw ht hG CZ es es'
  ·have h0:lw.tape lw.drawn=w.tape w.drawn:=ht 0;rw[h0];have hd:=Gh hw;rcases ih (q.cut (w.tape w.drawn q)) hd.wr (hd.Xw ht) hG CZ es es' with⟨x,jH,l,y,w1,evs,ρ1,h1,h2,h3,h4⟩|h
   ·exact .inl ⟨x,jH,l,y,w1,_,ρ1,h1,by rw[h2];simp,h3,hd.trans h4 hw.base⟩
   ·exact .inr h
 |@program ρ k k' _ ih=>
  intro lw w hw ht hG CZ es es';simp only[dD];exact ih hw ht hG CZ es es'
 |@noRoom ρ k k' _ ih=>
  intro lw w hw ht hG CZ es es';simp only[dD];rcases ih hw ht hG CZ (es.push ⟨.mark .noRoom,false,true⟩) (es'.push ⟨.mark .noRoom,false,true⟩) with⟨x,jH,l,y,w1,evs,ρ1,h1,h2,h3,h4⟩|h
  ·refine .inl ⟨x,jH,l,y,w1,_,ρ1,h1,?_,h3,h4.push (e:=⟨.mark .noRoom,false,true⟩) (.inr (.inr rfl))⟩;exact h2.trans (by simp only[qj,eO])
  ·exact .inr h
end
section
variable{P:aI}{F:Nat→Bool}{α β γ δ:Type}{A:Rn→α→β→Prop}{A':Rn→γ→δ→Prop}{ρ:Rn}
abbrev Same(ρ:Rn)(C:α→Prop):Rn→α→α→Prop:=At ρ fun a b=>a=b∧C a
theorem bP.bF{C:α→Prop}{s s':ic α}{f:α→ic γ}{f':α→ic δ}(h:bP P F (Same ρ C) ρ s s')(hf:∀a,C a→bP P F A' ρ (f a) (f' a)) :
  bP P F A' ρ (s >>= f) (s' >>= f'):=h.dG fun a b ⟨e,hc⟩=>by subst e;exact hf a hc
theorem vI{C:α→Prop}{a:α}(h:C a):bP P F (Same ρ C) ρ (eH a) (eH a):=.pure ⟨rfl,rfl,h⟩
theorem cK{a:α}:bP P F (Same ρ fun _=>True) ρ (eH a) (eH a):=.pure ⟨rfl,rfl,trivial⟩
theorem j9{f:aI→ic α}{f':aI→ic β}(h:bP P F A ρ (f P) (f' P)):bP P F A ρ (Go.program >>= f) (Go.program >>= f'):=.program h
theorem dn{t:aZ}:bP P F (Same ρ fun d=>P.underlying t=some d) ρ (iL t) (iL t):=by
 unfold iL;refine j9 ?_;cases h:P.underlying t with
 |none=>exact bf
 |some d=>exact vI rfl
theorem jr{t:aZ}:bP P F (Same ρ fun d=>P.info? t=some d) ρ (typeInfo t) (typeInfo t):=by
 unfold typeInfo;refine j9 ?_;cases h:P.info? t with
 |none=>exact bf
 |some d=>exact vI rfl
theorem gy{t:aZ}:bP P F (Same ρ fun n=>∃i,P.info? t=some i∧n=i.size) ρ (sizeOf t) (sizeOf t):=by
 unfold sizeOf;refine jr.bF fun i hi=>?_;exact vI ⟨i,hi,rfl⟩
theorem Dq{t:aZ}:bP P F (Same ρ fun _=>True) ρ (isAgg t) (isAgg t):=by
 unfold isAgg;refine dn.bF fun d _=>?_;cases d<;>exact cK
def og(P:aI)(t:aZ):Bool:=((P.info? t).bind (·.zero)).all EB
theorem kQ{t:aZ}(h:og P t=true):bP P F (At ρ (VR F ρ)) ρ (iI t) (iI t):=by
 unfold iI;refine jr.bF fun i hi=>?_;unfold og at h;rw[hi] at h;cases hz:i.zero with
 |none=>exact cj (fun g=>by simp)
 |some v=>
  simp only[Option.bind_some,hz,Option.all_some] at h;exact .dt (zn h)
theorem Gt{a a':cU}(ha:AR ρ a a'):bP P F (At ρ (VR F ρ)) ρ (load a) (load a'):=.load ha fun v v' hv=>.dt hv
theorem qg{a a':cU}(ha:AR ρ a a'):∀(n i:Nat) {acc Xg:Array aj},iD F ρ acc Xg→bP P F (At ρ (iD F ρ)) ρ (loadCellsFrom a i n acc) (loadCellsFrom a' i n Xg)
 |0,i,acc,Xg,h=>.dt h
 |n+1,i,acc,Xg,h=>(Gt (ha.add i)).dG fun v v' hv=>qg ha n (i+1) (h.push hv)
theorem uQ{a a':cU}(ha:AR ρ a a')(n:Nat):bP P F (At ρ (iD F ρ)) ρ (loadCells a n) (loadCells a' n):=qg ha n 0 .nil
theorem yC{t:aZ}{a a':cU}(ha:AR ρ a a'):bP P F (At ρ (VR F ρ)) ρ (loadVar t a) (loadVar t a'):=by
 unfold loadVar;refine Dq.bF fun b _=>?_;cases b with
 |true=>exact gy.bF fun n _=>(uQ ha n).dG fun cs cs' h=>.dt h.agg
 |false=>exact Gt ha
theorem Mx{a a':cU}{v v':aj}(ha:AR ρ a a')(hv:VR F ρ v v'):bP P F (At ρ fun _ _=>True) ρ (store a v) (store a' v'):=.store ha hv (.dt trivial)
inductive Rt(F:Nat→Bool)(ρ:Rn):List aj→List aj→Prop
 |nil:Rt F ρ [] []
 |cons {x y:aj} {l m:List aj}:VR F ρ x y→Rt F ρ l m→Rt F ρ (x::l) (y::m)
theorem YT{l m:List aj}(hs:l.length=m.length)(h:∀(i:Nat) (x y:aj),l[i]?=some x→m[i]?=some y→VR F ρ x y):Rt F ρ l m:=by
 induction l generalizing m with
 |nil=>
  cases m with
  |nil=>exact .nil
  |cons y m=>cases hs
 |cons x l ih=>
  cases m with
  |nil=>cases hs
  |cons y m=>exact .cons (h 0 x y rfl rfl) (ih (by simpa using hs) fun i a b h1 h2=>h (i+1) a b (by simpa using h1) (by simpa using h2))
theorem iD.list{a a':Array aj}(h:iD F ρ a a'):Rt F ρ a.toList a'.toList:=YT (by simpa using h.size) fun i x y h1 h2=>h.at_ i x y (by simpa using h1) (by simpa using h2)
theorem Rt.row{l m:List aj}(h:Rt F ρ l m):iD F ρ l.toArray m.toArray:=by
 induction h with
 |nil=>exact .nil
 |@cons x y l m hv _ ih=>
  have:=(iD.one hv).append ih;simpa using this
theorem ua{a a':cU}(ha:AR ρ a a'){l m:List aj}(h:Rt F ρ l m):∀i,bP P F (At ρ fun _ _=>True) ρ (storeCells a l i) (storeCells a' m i):=by
 induction h with
 |nil=>intro i;exact .dt trivial
 |cons hv _ ih=>intro i;exact(Mx (ha.add i) hv).dG fun _ _ _=>ih (i+1)
theorem Fx{t:aZ}{a a':cU}{v v':aj}(ha:AR ρ a a')(hv:VR F ρ v v'):bP P F (At ρ fun _ _=>True) ρ (storeVar t a v) (storeVar t a' v'):=by
 unfold storeVar;refine gy.bF fun n _=>?_;rw[←hv.cells.size];split
 ·exact .dead ((q7 (h:=.stuck _) trivial).bind _)
 ·exact ua ha hv.cells.list 0
theorem uP{e:aZ}{cs cs':Array aj}(h:iD F ρ cs cs'):bP P F AR ρ (newRow e cs) (newRow e cs'):=by
 unfold newRow;exact bP.bind (A:=fun ρ' r r'=>ρ' r=some r') (.new (.cells h fun i h1 h2=>absurd h2 (Nat.not_lt_zero _)) fun ρ' r r' _ hr=>.pure hr) fun ρ' r r' _ hr=>.pure ⟨hr,rfl,rfl⟩
theorem Bz{e:aZ}{v v':aj}(h:VR F ρ v v'):bP P F AR ρ (newVar e v) (newVar e v'):=uP h.cells
theorem nK{t:aZ}{cs cs':Array aj}(h:iD F ρ cs cs')(off:Nat):bP P F (At ρ (VR F ρ)) ρ (part t cs off) (part t cs' off):=by
 unfold part;refine Dq.bF fun b _=>?_;cases b with
 |true=>exact gy.bF fun n _=>.dt (h.extract _ _).agg
 |false=>
  simp only[bw,if_false];cases hx:cs[off]? with
  |none=>exact bf
  |some x=>
   obtain⟨y,hy,hv⟩:=h.get hx;rw[hy];exact .dt hv
theorem qf{r r':Nat}(h:ρ r=some r'):bP P F (Same ρ fun _=>True) ρ (shape r) (shape r'):=.shape h fun s=>cK
theorem Fy{r r':Nat}(h:ρ r=some r'):bP P F (At ρ fun x y=>(x=none∧y=none)∨∃a a' l,x=some (a,l)∧y=some (a',l)∧AR ρ a a') ρ (numberAt r) (numberAt r'):=by
 unfold numberAt;refine(qf h).bF fun s _=>?_;split
 ·exact .dt (.inl ⟨rfl,rfl⟩)
 ·refine bP.dG (Q:=OR F ρ) (.getObj h fun o o' ho=>.dt ho) fun o o' ho=>?_;cases ho with
  |cells _ _=>exact .dt (.inl ⟨rfl,rfl⟩)
  |map _ _=>exact .dt (.inl ⟨rfl,rfl⟩)
  |number l ha=>exact .dt (.inr ⟨_,_,l,rfl,rfl,ha⟩)
theorem il{a a':cU}(h:AR ρ a a'):bP P F (At ρ fun x y=>AR ρ x.1 y.1∧x.2=y.2) ρ (uI a) (uI a'):=by
 unfold uI;refine(Fy h.block).dG fun x y Y0=>?_;rcases Y0 with⟨rfl,rfl⟩|⟨b,b',l,rfl,rfl,hb⟩
 ·exact .dt ⟨h,rfl⟩
 ·exact .dt ⟨hb,rfl⟩
theorem Bu{r r':Nat}(h:ρ r=some r'):bP P F (At ρ fun x y=>x=none∧y=none) ρ (viewAt r) (viewAt r'):=by
 unfold viewAt;refine(qf h).bF fun s _=>?_;split
 ·exact .dt ⟨rfl,rfl⟩
 ·refine bP.dG (Q:=OR F ρ) (.getObj h fun o o' ho=>.dt ho) fun o o' ho=>?_;cases ho<;>exact .dt ⟨rfl,rfl⟩
theorem J2{a a':cU}(h:AR ρ a a'):bP P F (At ρ fun _ _=>True) ρ (noView a) (noView a'):=by
 unfold noView;refine(Bu h.block).dG fun x y ⟨hx,hy⟩=>?_;subst hx;subst hy;exact .dt trivial
theorem sZ{v v':aj}(h:VR F ρ v v'):bP P F (Same ρ fun x=>v=.int x.1 x.2∧v'=.int x.1 x.2) ρ (asIntOf v) (asIntOf v'):=by
 cases h<;>first|exact .pure ⟨rfl,rfl,rfl,rfl⟩|exact bf|exact cj (by simp)
theorem MC{v v':aj}(h:VR F ρ v v'):bP P F (Same ρ fun n=>∃k,v=.int k n∧v'=.int k n) ρ (asInt v) (asInt v'):=by
 unfold asInt;exact(sZ h).bF fun x hx=>vI ⟨_,hx⟩
theorem J8{a a':cU}(h:AR ρ a a'):bP P F (Same ρ fun _=>True) ρ (byteOf a) (byteOf a'):=by
 unfold byteOf;rw[h.spot];cases a.spot with
 |some s=>exact cK
 |none=>
  simp only[pure_bind];refine j9 ?_;refine(J2 h).dG fun _ _ _=>(qf h.block).bF fun s _=>?_;cases s with
  |none=>exact bf
  |some x=>
   obtain⟨e,n⟩:=x;simp only[h.off];split
   ·exact cK
   ·cases byteOfCell P P.depth e (a.off % P.cellsOf e) with
    |none=>exact bf
    |some b=>exact cK
theorem o9{α:Type}{e:RuntimeError}(h:∀i c a m,e≠.typeAssertion i c a m)(h':e≠.panicNil):qE P (eo e:ic α):=by
 intro w es;cases e with
 |typeAssertion i c a m=>exact absurd rfl (h _ _ _ _)
 |panicNil=>exact absurd rfl h'
 |_=>exact⟨_,w,es,rfl,trivial⟩
theorem fX{e:RuntimeError}{s':ic β}(h:∀i c a m,e≠.typeAssertion i c a m:=by simp)(h':e≠.panicNil:=by simp):bP P F A ρ (eo e) s':=.dead (o9 h h')
theorem eV{u:Unsupported}(h:∀g,u≠.initOrder g):qE P (qJ u:ic α):=q7 (by cases u<;>first|trivial|exact absurd rfl (h _))
theorem uS{q:dE}:bP P F (Same ρ fun _=>True) ρ (zU q) (zU q):=.choose fun n=>cK
theorem lr{k:IntKind}{x y:Int}{c:BoundsCode}:bP P F A ρ (boundsPanic k x y c:ic α) (boundsPanic k x y c:ic β):=by
 unfold boundsPanic;dsimp only;split
 ·refine bP.bind (A:=fun _ _ _=>True) (bP.bind (A:=fun _ _ _=>True) (uS.imp fun _ _ _ _ _=>trivial) fun _ _ _ _ _=>.pure trivial) fun ρ' a b _ _=>?_;exact fX
 ·refine bP.bind (A:=fun _ _ _=>True) (.pure trivial) fun ρ' a b _ _=>?_;exact fX
theorem uN{ts ts':Array aZ}{t t':aZ}{p p':Option cU}{v v':aj}(hp:VR F ρ (.pointer p) (.pointer p'))(hv:VR F ρ v v') :
  bP P F (At ρ fun x y=>∃a a',AR ρ a a'∧x=.pointer (some a)∧y=.pointer (some a')) ρ (Builtin.unsafeAdd_ ts t #[.pointer p,v]) (Builtin.unsafeAdd_ ts' t' #[.pointer p',v']):=by
 unfold Builtin.unsafeAdd_;refine(MC hv).bF fun n _=>?_
 by_cases h0:n=0
 ·simp only[h0,if_true];cases hp with
  |Cl=>exact .dead ((eV (by simp)).bind _)
  |ptr ha=>
   simp only[bind_assoc];refine(Bu ha.block).dG fun x y ⟨hx,hy⟩=>?_;subst hx;subst hy;exact .dt ⟨_,_,ha,rfl,rfl⟩
 ·simp only[h0,if_false,pure_bind]
  by_cases h1:n<0
  ·simp only[h1,if_true];exact .dead ((eV (by simp)).bind _)
  ·simp only[h1,if_false,pure_bind];cases hp with
   |Cl=>exact cj (by simp)
   |@ptr a a' ha=>
    refine(qf ha.block).bF fun s _=>?_;cases s with
    |none=>exact cj (by simp)
    |some x=>
     obtain⟨e,n'⟩:=x;refine j9 ?_;simp only[ha.off];cases cellAtBytes P P.depth e (n' / P.cellsOf e) a.off n with
     |none=>exact cj (by simp)
     |some off=>exact .dt ⟨_,_,ha.at off,rfl,rfl⟩
theorem FB{a a':cU}(ha:AR ρ a a')(l:Bool):bP P F (VR F) ρ (asNumber a l) (asNumber a' l):=by
 unfold asNumber;exact bP.bind (A:=fun ρ' r r'=>ρ' r=some r') (.new (.number l ha) fun ρ' r r' _ hr=>.pure hr) fun ρ' r r' _ hr=>.pure (.ptr ⟨hr,rfl,rfl⟩)
end
structure Uw(P:aI)(ρ:Rn):Prop where
 inj:∀a b c,ρ a=some c→ρ b=some c→a=b
 low:∀b c,ρ b=some c→P.globals.size≤b∧P.globals.size≤c
theorem AR.eq_iff{ρ:Rn}(hi:∀a b c,ρ a=some c→ρ b=some c→a=b){a a' b b':cU}(ha:AR ρ a a')(hb:AR ρ b b'):a=b↔a'=b':=by
 constructor
 ·rintro rfl;have h1:=ha.block;rw[hb.block] at h1;injection h1 with h1
  cases a';cases b';have:=ha.off;have:=hb.off;have:=ha.spot;have:=hb.spot;simp_all
 ·rintro rfl;have:=hi _ _ _ ha.block hb.block;cases a;cases b;have:=ha.off;have:=hb.off;have:=ha.spot;have:=hb.spot;simp_all
section
variable{P:aI}{F:Nat→Bool}{α β γ δ:Type}{A:Rn→α→β→Prop}{A':Rn→γ→δ→Prop}{ρ:Rn}
theorem xl{t:aZ}{k:IntKind}(ht:P.underlying t=some (.int k)){p p':Option cU}(hp:VR F ρ (.pointer p) (.pointer p')){v v':aj}(hv:VR F ρ v v') :
  bP P F (VR F) ρ (movedNumber t (.pointer p) v) (movedNumber t (.pointer p') v'):=by
 unfold movedNumber;refine dn.bF fun d hd=>?_;rw[ht] at hd;cases hd;simp only[bw,if_false,pure_bind];cases hp with
 |Cl=>
  refine(uN (.Cl) hv).imp fun ρ' x y _ h=>?_;obtain⟨rfl,a,a',ha,rfl,rfl⟩:=h;exact .ptr ha
 |ptr ha=>
  refine(il ha).dG fun x y Y0=>?_;obtain⟨x1,x2⟩:=x;obtain⟨y1,y2⟩:=y;obtain⟨h1,h2⟩:=Y0;simp only at h1 h2;subst h2;refine(uN (.ptr h1) hv).dG fun x y Y0=>?_;obtain⟨a,a',ha,rfl,rfl⟩:=Y0;exact FB ha _
theorem Ib{k:IntKind}{a a':cU}(ha:AR ρ a a')(n:Int):bP P F (VR F) ρ (Op.addrMod k a n) (Op.addrMod k a' n):=by
 unfold Op.addrMod;refine(qf ha.block).bF fun s _=>?_;cases s with
 |none=>exact cj (by simp)
 |some x=>
  obtain⟨e,m⟩:=x;refine jr.bF fun i _=>?_;dsimp only;split
  ·exact .dead ((eV (by simp)).bind _)
  ·refine(J8 ha).bF fun b _=>?_;exact .pure (.int _ _)
theorem uO(R:Uw P ρ){a a' b b':cU}(ha:AR ρ a a'){f:Nat × Nat→ic α}{s':ic β}:bP P F A ρ (Op.twoPlaces a b >>= f) s':=by
 refine .dead (qE.bind ?_ f);unfold Op.twoPlaces;intro w es;have h:=(R.low _ _ ha.block).1;have hh:(a.block !=b.block||decide (a.block≥P.globals.size))=true:=by simp[h]
 have hp:∀ {γ:Type} (f:aI→ic γ),(Go.program >>= f).runT P w es=(f P).runT P w es:=fun f=>rfl;rw[hp];dsimp only;rw[if_pos hh];exact((eV (by simp)).bind _) w es
theorem Fz{op:BinOp}{k:IntKind}{a b:Int}:bP P F (VR F) ρ (Op.intArith op k a b) (Op.intArith op k a b):=by
 unfold Op.intArith;split<;>first|exact .pure (.int _ _)|exact bf
theorem J5{op:BinOp}{k:IntKind}{a b:Int}:bP P F (VR F) ρ (Op.intDiv op k a b) (Op.intDiv op k a b):=by
 unfold Op.intDiv;split
 ·exact fX
 ·split<;>first|exact .pure (.int _ _)|exact bf
theorem HV{op:BinOp}{k:IntKind}{a b:Int}:bP P F (VR F) ρ (Op.intBits op k a b) (Op.intBits op k a b):=by
 unfold Op.intBits;dsimp only;split<;>first|exact .pure (.int _ _)|exact bf
theorem J6{op:BinOp}{a b:Int}:bP P F (VR F) ρ (Op.intCmp op a b) (Op.intCmp op a b):=by
 unfold Op.intCmp;split<;>first|exact .pure (.bool _)|exact bf
theorem Dl{op:BinOp}{k k':IntKind}{a b:Int}:bP P F (VR F) ρ (Op.shift op k a k' b) (Op.shift op k a k' b):=by
 unfold Op.shift;split
 ·exact fX
 ·dsimp only;split<;>first|exact .pure (.int _ _)|exact bf
theorem wM{op:BinOp}{a b:ByteArray}:bP P F (VR F) ρ (Op.stringOp op a b) (Op.stringOp op a b):=by
 unfold Op.stringOp;dsimp only;split
 ·split
  ·exact cj (by simp)
  ·exact .pure (.string _)
 all_goals first|exact .pure (.bool _)|exact bf
def Xz:BinOp→Bool
 |.add|.sub|.mul|.quo|.shl|.shr|.and|.or|.lss|.leq|.gtr|.geq=>true
 |_=>false
theorem uR{op:BinOp}{t:aZ}{k k':IntKind}{a b:Int}:bP P F (VR F) ρ (binOp op t (.int k a) (.int k' b)) (binOp op t (.int k a) (.int k' b)):=by
 by_cases hk:k=k'
 ·cases op<;>simp only[binOp,hk,ne_eq,not_true,not_false_eq_true,if_true,if_false]<;>first|exact Fz|exact J5|exact HV|exact J6|exact Dl
 ·cases op<;>simp only[binOp,hk,ne_eq,not_true,not_false_eq_true,if_true,if_false]<;>first|exact bf|exact Dl
theorem MB(R:Uw P ρ){op:BinOp}{t:aZ}{k:IntKind}(ht:P.underlying t=some (.int k))(hop:Xz op=true){x x' y y':aj}(hx:VR F ρ x x')(hy:VR F ρ y y') :
  bP P F (VR F) ρ (binOp op t x y) (binOp op t x' y'):=by
 have abL:∀ {p p':Option cU} {v v':aj},VR F ρ (.pointer p) (.pointer p')→VR F ρ v v'→
   bP P F (VR F) ρ (do if (←iL t) matches .unsafePointer then movedPointer t (.pointer p) v else movedNumber t (.pointer p) v) (do if (←iL t) matches .unsafePointer then movedPointer t (.pointer p') v' else movedNumber t (.pointer p') v'):=by
  intro p p' v v' hp hv;refine dn.bF fun d hd=>?_;rw[ht] at hd;cases hd;exact xl ht hp hv
 have pp:∀ {a a' b b':cU} (g:cU→cU→ic aj) (g':cU→cU→ic aj),(∀c d c' d',AR ρ c c'→AR ρ d d'→bP P F (VR F) ρ (g c d) (g' c' d'))→AR ρ a a'→AR ρ b b'→
   bP P F (VR F) ρ (do g (←uI a).1 (←uI b).1) (do g' (←uI a').1 (←uI b').1):=by
  intro a a' b b' g g' hg ha hb;exact(il ha).dG fun c c' hc=>(il hb).dG fun d d' hd=>hg _ _ _ _ hc.1 hd.1
 have pm:∀ {a a':cU} (k:IntKind) (n:Int),AR ρ a a'→bP P F (VR F) ρ (do Op.addrMod k (←uI a).1 n) (do Op.addrMod k (←uI a').1 n):=by
  intro a a' k n ha;exact(il ha).dG fun c c' hc=>Ib hc.1 n
 have afy:∀c d c' d',AR ρ c c'→AR ρ d d'→bP P F (VR F) ρ (Op.addrSub .u64 c d) (Op.addrSub .u64 c' d'):=fun c d c' d' hc hd=>by
  unfold Op.addrSub;exact uO R hc (b':=d')
 have Nk:∀op c d c' d',AR ρ c c'→AR ρ d d'→bP P F (VR F) ρ (Op.addrCmp op c d) (Op.addrCmp op c' d'):=fun op c d c' d' hc hd=>by
  unfold Op.addrCmp;exact uO R hc (b':=d')
 have afz:∀op a b,binOp op t (.string a) (.string b)=Op.stringOp op a b:=fun op a b=>by cases op<;>simp only[binOp]
 cases hx<;>cases hy<;>first
  |exact uR
  |(rw[afz];exact wM)
  |(cases op<;>first|(cases hop;done)|exact wM|exact bf|exact cj (by simp)|exact abL (.ptr ‹_›) (.int _ _)|exact abL .Cl (.int _ _)|exact xl ht (.ptr ‹_›) (.int _ _)|exact xl ht .Cl (.int _ _)|exact pp _ _ afy ‹_› ‹_›|exact pp _ _ (Nk _) ‹_› ‹_›|exact pm _ _ ‹_›)
end
def oY(P:aI):Nat→aZ→Bool
 |0,_=>false
 |n+1,t=>
  match P.underlying t with
  |some (.struct fs)=>fs.all fun f=>oY P n f.type
  |some (.array _ e)=>oY P n e
  |some .bool|some .string|some (.int _)|none=>true
  |_=>false
section
variable{P:aI}{F:Nat→Bool}{α β γ δ:Type}{A:Rn→α→β→Prop}{A':Rn→γ→δ→Prop}{ρ:Rn}
theorem ub{ι:Type}{f f':ι→β→ic (ForInStep β)}{l:List ι}(hf:∀a∈l,∀b,bP P F (Same ρ fun _=>True) ρ (f a b) (f' a b)):∀b,bP P F (Same ρ fun _=>True) ρ (forIn l b f) (forIn l b f'):=by
 induction l with
 |nil=>intro b;exact cK
 |cons a l ih=>
  intro b;rw[List.forIn_cons,List.forIn_cons];refine(hf a (by simp) b).bF fun r _=>?_;cases r with
  |done b=>exact cK
  |yield b=>exact ih (fun a ha=>hf a (by simp[ha])) b
theorem rU{ι:Type}{f f':ι→β→ic (ForInStep β)}{l:Array ι}(hf:∀a∈l,∀b,bP P F (Same ρ fun _=>True) ρ (f a b) (f' a b))(b:β):bP P F (Same ρ fun _=>True) ρ (forIn l b f) (forIn l b f'):=by
 rw[←Array.forIn_toList,←Array.forIn_toList];exact ub (fun a ha=>hf a (by simpa using ha)) _
theorem rT{f f':Nat→β→ic (ForInStep β)}(hf:∀a b,bP P F (Same ρ fun _=>True) ρ (f a b) (f' a b))(l:Std.Legacy.Range)(b:β):bP P F (Same ρ fun _=>True) ρ (forIn l b f) (forIn l b f'):=by
 rw[Std.Legacy.Range.forIn_eq_forIn_range',Std.Legacy.Range.forIn_eq_forIn_range'];exact ub (fun a _=>hf a) _
theorem px(R:Uw P ρ):∀(n d:Nat) (t:aZ),oY P n t=true→∀(x x' y y':aj),VR F ρ x x'→VR F ρ y y'→bP P F (Same ρ fun _=>True) ρ (Op.equalIn d t x y) (Op.equalIn d t x' y')
 |0,d,t,h,x,x',y,y',hx,hy=>by cases h
 |n+1,0,t,h,x,x',y,y',hx,hy=>by simp only[Op.equalIn];exact cj (by simp)
 |n+1,d+1,t,h,x,x',y,y',hx,hy=>by
  simp only[Op.equalIn];refine dn.bF fun ds KQ=>?_;simp only[oY,KQ] at h;cases ds with
  |bool=>cases hx<;>first|exact bf|(cases hy<;>first|exact bf|exact cK)
  |string=>cases hx<;>first|exact bf|(cases hy<;>first|exact bf|exact cK)
  |int k=>
   cases hx with
   |int k1 m=>
    cases hy with
    |int k2 m2=>dsimp only;split<;>first|exact cK|exact bf
    |ptr ha=>
     cases m with
     |ofNat n=>
      cases n with
      |zero=>exact cK
      |succ n=>exact cj (by simp)
     |negSucc n=>exact cj (by simp)
    |_=>first|exact bf|exact cj (by simp)
   |ptr ha=>
    cases hy with
    |int k2 m2=>
     cases m2 with
     |ofNat n=>
      cases n with
      |zero=>exact cK
      |succ n=>exact cj (by simp)
     |negSucc n=>exact cj (by simp)
    |ptr hb=>
     dsimp only;refine(il ha).dG fun c c' hc=>(il hb).dG fun d d' hd=>j9 ?_
     have e1:(c.fst.block==d.fst.block&&decide (c.fst.block<P.globals.size))=false:=by
      have:=(R.low _ _ hc.1.block).1;simp;omega
     have e2:(c'.fst.block==d'.fst.block&&decide (c'.fst.block<P.globals.size))=false:=by
      have:=(R.low _ _ hc.1.block).2;simp;omega
     simp only[e1,e2,bw,if_false];refine jr.bF fun i _=>?_;split
     ·have e3:=hc.1.eq_iff R.inj hd.1
      by_cases he:c.fst=d.fst
      ·simp only[he,beq_self_eq_true,if_true,e3.1 he];exact cK
      ·have he':=fun h=>he (e3.2 h);simp only[beq_eq_false_iff_ne.2 he,bw,if_false];exact cj (by simp)
     ·exact cj (by simp)
    |_=>first|exact bf|exact cj (by simp)
   |_=>cases hy<;>first|exact bf|exact cj (by simp)
  |struct fs=>
   cases hx<;>first|exact bf|(cases hy<;>first|exact bf|skip)
   rename_i cs cs' hs hv ds ds' hs' hv';dsimp only;refine j9 ?_;split
   ·exact .dead ((eV (by simp)).bind _)
   ·refine bP.bF (C:=fun _=>True) (rU (fun f hf b=>?_) _) fun r _=>?_
    ·split
     ·refine(nK ⟨hs,hv⟩ _).dG fun p p' hp=>(nK ⟨hs',hv'⟩ _).dG fun q q' hq=>?_;refine(px R n d f.type (jX.1 h f hf) _ _ _ _ hp hq).bF fun b _=>?_;split<;>exact cK
     ·exact cK
    ·split<;>exact cK
  |array len e=>
   cases hx<;>first|exact bf|(cases hy<;>first|exact bf|skip)
   rename_i cs cs' hs hv ds ds' hs' hv';dsimp only;refine gy.bF fun m _=>?_;refine bP.bF (C:=fun _=>True) (rT (fun i b=>?_) _ _) fun r _=>?_
   ·refine(nK ⟨hs,hv⟩ _).dG fun p p' hp=>(nK ⟨hs',hv'⟩ _).dG fun q q' hq=>?_;refine(px R n d e h _ _ _ _ hp hq).bF fun b _=>?_;split<;>exact cK
   ·split<;>exact cK
  |_=>cases h
theorem nZ{em:Bool}:∀(n d:Nat) (t:aZ),oY P n t=true→∀(x x':aj),VR F ρ x x'→bP P F (Same ρ fun _=>True) ρ (nB em d t x) (nB em d t x')
 |0,d,t,h,x,x',hx=>by cases h
 |n+1,0,t,h,x,x',hx=>by simp only[nB];exact cj (by simp)
 |n+1,d+1,t,h,x,x',hx=>by
  simp only[nB];refine dn.bF fun ds KQ=>?_;simp only[oY,KQ] at h;cases ds with
  |bool=>cases hx<;>exact cK
  |string=>cases hx<;>exact cK
  |int k=>cases hx<;>exact cK
  |struct fs=>
   cases hx<;>first|exact bf|skip
   rename_i cs cs' hs hv;dsimp only;refine bP.bF (C:=fun _=>True) (rU (fun f hf b=>?_) _) fun _ _=>cK;split
   ·refine(nK ⟨hs,hv⟩ _).dG fun p p' hp=>?_;refine(nZ n d f.type (jX.1 h f hf) _ _ hp).bF fun b _=>?_;exact cK
   ·exact cK
  |array len e=>
   cases hx<;>first|exact bf|skip
   rename_i cs cs' hs hv;dsimp only;refine bP.bF (C:=fun _=>True) (rT (fun i b=>?_) _ _) fun _ _=>cK;refine gy.bF fun m _=>(nK ⟨hs,hv⟩ _).dG fun p p' hp=>?_;refine(nZ n d e h _ _ hp).bF fun b _=>?_;exact cK
  |_=>cases h
inductive EL(F:Nat→Bool)(ρ:Rn):List tU→List tU→Prop
 |nil:EL F ρ [] []
 |cons {x y:tU} {l m:List tU}:MER F ρ x y→EL F ρ l m→EL F ρ (x::l) (y::m)
theorem Yb{l m:List tU}(hs:l.length=m.length)(h:∀(i:Nat) (x y:tU),l[i]?=some x→m[i]?=some y→MER F ρ x y):EL F ρ l m:=by
 induction l generalizing m with
 |nil=>
  cases m with
  |nil=>exact .nil
  |cons y m=>cases hs
 |cons x l ih=>
  cases m with
  |nil=>cases hs
  |cons y m=>exact .cons (h 0 x y rfl rfl) (ih (by simpa using hs) fun i a b h1 h2=>h (i+1) a b (by simpa using h1) (by simpa using h2))
def Fnd(F:Nat→Bool)(ρ:Rn)(x y:Option (Nat × aj)):Prop:=(x=none∧y=none)∨∃i v v',x=some (i,v)∧y=some (i,v')∧VR F ρ v v'
theorem Cj(R:Uw P ρ){n:Nat}{t:aZ}(h:oY P n t=true){k k':aj}(hk:VR F ρ k k'){l m:List tU}(he:EL F ρ l m) :
  ∀i,bP P F (At ρ (Fnd F ρ)) ρ (jm t k l i) (jm t k' m i):=by
 induction he with
 |nil=>intro i;exact .dt (.inl ⟨rfl,rfl⟩)
 |cons hx _ ih=>
  intro i;simp only[jm];refine(px R n _ t h _ _ _ _ hk hx.key).bF fun b _=>?_;cases b with
  |true=>exact .dt (.inr ⟨i,_,_,rfl,rfl,hx.val⟩)
  |false=>exact ih (i+1)
theorem PV{ds:TypeDesc}{k k' e e':aj}(hk:VR F ρ k k')(he:VR F ρ e e'):Instr.sameNow ds k e=Instr.sameNow ds k' e':=by
 cases ds<;>cases hk<;>first|rfl|(cases he<;>rfl)
theorem QT{ds:TypeDesc}{k k':aj}(hk:VR F ρ k k'){l m:List tU}(he:EL F ρ l m):∀i,
  (Instr.findNow ds k l i=none∧Instr.findNow ds k' m i=none)∨∃x y,Instr.findNow ds k l i=some x∧Instr.findNow ds k' m i=some y∧Fnd F ρ x y:=by
 induction he with
 |nil=>intro i;exact .inr ⟨none,none,rfl,rfl,.inl ⟨rfl,rfl⟩⟩
 |cons hx _ ih=>
  intro i;simp only[Instr.findNow,←PV (ds:=ds) hk hx.key];split
  ·exact .inr ⟨_,_,rfl,rfl,.inr ⟨i,_,_,rfl,rfl,hx.val⟩⟩
  ·exact ih (i+1)
  ·exact .inl ⟨rfl,rfl⟩
theorem yE(R:Uw P ρ){n:Nat}{t:aZ}(h:oY P n t=true){k k':aj}(hk:VR F ρ k k'){l m:List tU}(he:EL F ρ l m) :
  bP P F (At ρ (Fnd F ρ)) ρ (CJ t k l) (CJ t k' m):=by
 unfold CJ;refine dn.bF fun ds _=>?_;rcases QT (ds:=ds) hk he 0 with⟨h1,h2⟩|⟨x,y,h1,h2,h3⟩
 ·simp only[h1,h2];exact Cj R h hk he 0
 ·simp only[h1,h2];exact .dt h3
def SC(P:aI)(t:aZ):Bool:=match P.underlying t with|some (.map k e)=>oY P 6 k&&og P e|_=>true
theorem BA{r r':Nat}(h:ρ r=some r'):bP P F (At ρ (OR F ρ)) ρ (getObj r) (getObj r'):=.getObj h fun o o' ho=>.dt ho
theorem J3(R:Uw P ρ){t:aZ}(ht:SC P t=true){x x' k k':aj}(hx:VR F ρ x x')(hk:VR F ρ k k')(ok:Bool) :
  bP P F (At ρ (VR F ρ)) ρ (Instr.lookup t x k ok) (Instr.lookup t x' k' ok):=by
 unfold Instr.lookup;refine dn.bF fun ds KQ=>?_;cases ds<;>first|exact bf|skip
 rename_i kt et;simp only[SC,KQ,aD] at ht;dsimp only
 have rest:∀ {es es':Array tU},es.size=es'.size→EL F ρ es.toList es'.toList→bP P F (At ρ (VR F ρ)) ρ
   (do
     nB es.isEmpty 10000 kt k
     let (v,o) ←match ←CJ kt k es.toList with
      |some (_,v)=>pure (v,true)
      |none=>pure (←iI et,false)
     pure (if ok then .tuple #[v,.bool o] else v))
   (do
     nB es'.isEmpty 10000 kt k'
     let (v,o) ←match ←CJ kt k' es'.toList with
      |some (_,v)=>pure (v,true)
      |none=>pure (←iI et,false)
     pure (if ok then .tuple #[v,.bool o] else v)):=by
  intro es es' hs he;have hem:es'.isEmpty=es.isEmpty:=by simp[Array.isEmpty,hs]
  rw[hem];refine(nZ 6 _ kt ht.1 _ _ hk).bF fun _ _=>(yE R ht.1 hk he).dG fun p q hpq=>?_
  have fin:∀ {v v':aj} (b:Bool),VR F ρ v v'→bP P F (At ρ (VR F ρ)) ρ (eH (if ok then .tuple #[v,.bool b] else v)) (eH (if ok then .tuple #[v',.bool b] else v')):=by
   intro v v' b hv;cases ok
   ·exact .dt hv
   ·exact .dt ((iD.one hv).push (.bool b)).tuple
  rcases hpq with⟨rfl,rfl⟩|⟨i,v,v',rfl,rfl,hv⟩
  ·exact(kQ ht.2).dG fun v v' hv=>fin false hv
  ·exact fin true hv
 cases hx<;>first|exact bf|skip
 ·exact rest rfl .nil
 ·rename_i r r' hr;refine(BA hr).dG fun o o' ho=>?_;cases ho with
  |cells _ _=>exact bf
  |number _ _=>exact bf
  |map hs he=>exact rest hs (Yb (by simpa using hs) fun i x y h1 h2=>he i x y (by simpa using h1) (by simpa using h2))
end
section
variable{P:aI}{F:Nat→Bool}{α β γ δ:Type}{A:Rn→α→β→Prop}{A':Rn→γ→δ→Prop}{ρ:Rn}
theorem Kt{f:aj × aj→Bool}{g:aj × aj→Bool}(h:∀x x' y y',VR F ρ x x'→VR F ρ y y'→f (x,y)=g (x',y')){l l':List aj}(hl:Rt F ρ l l') :
  ∀ {m m':List aj},Rt F ρ m m'→(l.zip m).all f=(l'.zip m').all g:=by
 induction hl with
 |nil=>intro m m' _;simp
 |cons hx _ ih=>
  intro m m' hm;cases hm with
  |nil=>simp
  |cons hy hm=>simp only[List.zip_cons_cons,List.all_cons];rw[h _ _ _ _ hx hy,ih hm]
theorem MF(R:Uw P ρ):∀(n:Nat) (x x' y y':aj),VR F ρ x x'→VR F ρ y y'→Instr.sameBits n x y=Instr.sameBits n x' y':=by
 intro n
 have hp:∀ {a a' b b':cU},AR ρ a a'→AR ρ b b'→((some a==some b):Bool)=(some a'==some b'):=fun {a a' b b'} ha hb=>by
  have:=ha.eq_iff R.inj hb
  by_cases he:a=b
  ·rw[he,this.1 he];simp
  ·have he':=fun h=>he (this.2 h);rw[beq_eq_false_iff_ne.2 (by simpa using he),beq_eq_false_iff_ne.2 (by simpa using he')]
 induction n with
 |zero=>
  intro x x' y y' hx hy
  cases hx<;>cases hy<;>first
   |rfl
   |(simp only[Instr.sameBits];exact hp ‹_› ‹_›)
 |succ n ih=>
  intro x x' y y' hx hy
  cases hx<;>cases hy<;>first
   |rfl
   |(simp only[Instr.sameBits];exact hp ‹_› ‹_›)
   |(rename_i h1 h2 _ _ h3 h4
     simp only[Instr.sameBits]
     rw[h1,h3,Kt (F:=F) (ρ:=ρ) (f:=fun(x,y)=>Instr.sameBits n x y) (g:=fun(x,y)=>Instr.sameBits n x y) (fun x x' y y' hx hy=>ih x x' y y' hx hy) (iD.list ⟨h1,h2⟩) (iD.list ⟨h3,h4⟩)])
theorem yD(R:Uw P ρ){x x' y y':aj}(hx:VR F ρ x x')(hy:VR F ρ y y'):bP P F (At ρ (VR F ρ)) ρ (Instr.keyThatStays x y) (Instr.keyThatStays x' y'):=by
 unfold Instr.keyThatStays;rw[←MF R _ _ _ _ _ hx hy];split
 ·exact .dt hy
 ·refine uS.bF fun n _=>?_;split
  ·exact .dt hy
  ·exact .dt hx
theorem Bx{r r':Nat}{o o':Obj}(h:ρ r=some r')(ho:OR F ρ o o'):bP P F (At ρ fun _ _=>True) ρ (setObj r o) (setObj r' o'):=.setObj h ho (.dt trivial)
def MU(P:aI)(t:aZ):Bool:=match P.underlying t with|some (.map k _)=>oY P 6 k|_=>true
theorem Dm(R:Uw P ρ){t:aZ}(ht:MU P t=true){x x' k k' v v':aj}(hx:VR F ρ x x')(hk:VR F ρ k k')(hv:VR F ρ v v') :
  bP P F (At ρ fun _ _=>True) ρ (Ab t x k v) (Ab t x' k' v'):=by
 unfold Ab;refine dn.bF fun ds KQ=>?_;cases ds<;>first|exact bf|skip
 rename_i kt et;simp only[MU,KQ] at ht;dsimp only;cases hx<;>first|exact bf|exact fX|skip
 rename_i r r' hr;dsimp only;refine(BA hr).dG fun o o' ho=>?_;cases ho with
 |cells _ _=>exact bf
 |number _ _=>exact bf
 |@map es es' clk hs he=>
  dsimp only;have hel:EL F ρ es.toList es'.toList:=Yb (by simpa using hs) fun i x y h1 h2=>he i x y (by simpa using h1) (by simpa using h2);refine(nZ 6 _ kt ht _ _ hk).bF fun _ _=>(yE R ht hk hel).dG fun p q hpq=>?_;rcases hpq with⟨rfl,rfl⟩|⟨i,w,w',rfl,rfl,hw⟩
  ·refine Bx hr (.map (by simp[hs]) fun i x y h1 h2=>?_);rw[kN] at h1 h2;rw[←hs] at h2;split at h1
   ·rename_i hi;simp only[hi,if_true] at h2;cases h1;cases h2;exact⟨hk,hv,rfl⟩
   ·rename_i hi;simp only[hi,if_false] at h2;exact he _ _ _ h1 h2
  ·dsimp only
   have sS:VR F ρ (((es[i]?).map (·.key)).getD k) (((es'[i]?).map (·.key)).getD k'):=by
    cases hx:es[i]? with
    |none=>
     have:es'[i]?=none:=by
      rw[Array.getElem?_eq_none_iff] at hx ⊢;omega
     rw[this];exact hk
    |some x=>
     have hi:i<es.size:=(ak.1 hx).1;have hi':i<es'.size:=hs▸hi;rw[aM hi'];exact(he i x _ hx (aM hi')).key
   refine(yD R sS hk).dG fun key akQ hkey=>?_;refine Bx hr (.map (by simp[hs]) fun j x y h1 h2=>?_);rw[o8] at h1 h2
   by_cases hj:i=j
   ·subst hj;simp only[if_true] at h1 h2;cases hx:es[i]? with
    |none=>rw[hx] at h1;cases h1
    |some x0=>
     cases hy:es'[i]? with
     |none=>rw[hy] at h2;cases h2
     |some y0=>
      rw[hx] at h1;rw[hy] at h2;cases h1;cases h2;exact⟨hkey,hv,(he _ _ _ hx hy).born⟩
   ·simp only[hj,if_false] at h1 h2;exact he _ _ _ h1 h2
theorem Hz{t:aZ}:bP P F (VR F) ρ (Instr.makeMap t none) (Instr.makeMap t none):=by
 unfold Instr.makeMap;exact bP.bind (A:=fun ρ' r r'=>ρ' r=some r') (.new (.map rfl fun i x y h=>by simp at h) fun ρ' r r' _ hr=>.pure hr) fun ρ' r r' _ hr=>.pure (.map hr)
theorem nY{v v':aj}(h:VR F ρ v v'):bP P F (At ρ (AR ρ)) ρ (Instr.sureAddr v) (Instr.sureAddr v'):=by
 cases h<;>first|exact bf|exact .dt ‹_›
theorem J4{t:aZ}{v v':aj}(h:VR F ρ v v'):bP P F (At ρ (VR F ρ)) ρ (Be t v) (Be t v'):=by
 unfold Be;exact(nY h).dG fun a a' ha=>yC ha
theorem Hx{t:aZ}{v v' x x':aj}(h:VR F ρ v v')(hx:VR F ρ x x'):bP P F (At ρ fun _ _=>True) ρ (Instr.storeAt t v x) (Instr.storeAt t v' x'):=by
 unfold Instr.storeAt;exact(nY h).dG fun a a' ha=>Fx ha hx
def Iu(P:aI)(s:aZ)(f:Nat):Bool:=match P.underlying s with
 |some (.struct fs)=>(match fs[f]? with|some fl=>(match P.info? fl.type with|some i=>i.size !=0|none=>true)|none=>true)
 |_=>true
theorem H6{s:aZ}{f:Nat}(hf:Iu P s f=true){v v':aj}(h:VR F ρ v v'):bP P F (At ρ (VR F ρ)) ρ (Instr.fieldAt s v f) (Instr.fieldAt s v' f):=by
 unfold Instr.fieldAt;refine dn.bF fun ds KQ=>?_;cases ds<;>first|exact bf|skip
 rename_i fs;simp only[Iu,KQ] at hf;dsimp only;cases hfl:fs[f]? with
 |none=>exact bf
 |some fl=>
  rw[hfl] at hf;simp only at hf ⊢;refine(nY h).dG fun a a' ha=>?_;unfold fieldPlace;refine bP.dG (Q:=AR ρ) (gy.bF fun n hn=>?_) fun b b' hb=>.dt (.ptr hb);obtain⟨i,hi,rfl⟩:=hn;rw[hi] at hf;have hne:¬i.size=0:=by simpa using hf
  simp only[hne,if_false];exact .dt (ha.add _)
theorem H4{t:aZ}{v v' i i':aj}(h:VR F ρ v v')(hi:VR F ρ i i'):bP P F (At ρ (VR F ρ)) ρ (j5 t v i) (j5 t v' i'):=by
 unfold j5;refine(sZ hi).bF fun x hx=>?_;obtain⟨k,n⟩:=x;dsimp only
 have rest:∀ {b b':Option cU} (len:Nat) (e:aZ),VR F ρ (.pointer b) (.pointer b')→bP P F (At ρ (VR F ρ)) ρ
   (do
     let tiny:=len≤1&&(match ←iL t with|.array ..=>true|_=>false)
     match b with
     |some a=>
      if 0≤n∧n<len then pure (.pointer (some (a.add (n.toNat*(←sizeOf e)))))
      else if tiny then qJ (.noEntry "op/indexAddr.an index out of range at an array of length 0 or 1 (ledger 616)")
      else boundsPanic k n len .index
     |none=>boundsPanic k n 0 .index)
   (do
     let tiny:=len≤1&&(match ←iL t with|.array ..=>true|_=>false)
     match b' with
     |some a=>
      if 0≤n∧n<len then pure (.pointer (some (a.add (n.toNat*(←sizeOf e)))))
      else if tiny then qJ (.noEntry "op/indexAddr.an index out of range at an array of length 0 or 1 (ledger 616)")
      else boundsPanic k n len .index
     |none=>boundsPanic k n 0 .index):=by
  intro b b' len e hb;refine dn.bF fun ds _=>?_;cases hb with
  |Cl=>exact lr
  |ptr ha=>
   dsimp only;split
   ·exact gy.bF fun m _=>.dt (.ptr (ha.add _))
   ·generalize (decide (len≤1)&&_:Bool)=tiny;cases tiny
    ·exact lr
    ·exact cj (by simp)
 refine dn.bF fun ds KQ=>?_;cases ds with
 |array len e=>exact(nY h).dG fun a a' ha=>rest len e (.ptr ha)
 |slice e=>
  cases h<;>first|exact bf|skip
  ·rename_i l c;exact rest l e .Cl
  ·exact rest _ e (.ptr ‹_›)
 |_=>cases h<;>exact bf
theorem Mz{t:aZ}{v v' i i':aj}(h:VR F ρ v v')(hi:VR F ρ i i'):bP P F (At ρ (VR F ρ)) ρ (mH t v i) (mH t v' i'):=by
 unfold mH;refine(sZ hi).bF fun x hx=>?_;obtain⟨k,n⟩:=x;dsimp only;refine dn.bF fun ds KQ=>?_;cases ds with
 |string=>
  cases h<;>first|exact bf|skip
  dsimp only;generalize (if 0≤n then _ else _:Option UInt8)=o;cases o with
  |none=>exact lr
  |some b=>exact .dt (.int _ _)
 |array len e=>
  cases h<;>first|exact bf|skip
  rename_i hs hv;dsimp only;split
  ·exact gy.bF fun m _=>nK ⟨hs,hv⟩ _
  ·exact lr
 |_=>cases h<;>exact bf
theorem H7{v v':aj}(h:VR F ρ v v')(i:Nat):bP P F (At ρ (VR F ρ)) ρ (Instr.extract v i) (Instr.extract v' i):=by
 unfold Instr.extract;cases h<;>first|exact bf|skip
 rename_i hs hv;have ha:iD F ρ _ _:=⟨hs,hv⟩
 dsimp only;split
 ·rename_i x hx;obtain⟨y,hy,hvy⟩:=ha.get hx;rw[hy];exact .dt hvy
 ·exact bf
theorem MD{e:aZ}(h:og P e=true):bP P F (VR F) ρ (Instr.alloc e true (.tuple #[])) (Instr.alloc e true (.tuple #[])):=by
 unfold Instr.alloc;exact(kQ h).dG fun v v' hv=>bP.bind (Bz hv) fun ρ' a a' _ ha=>.pure (.ptr ha)
theorem R9{e:aZ}{v v':aj}(h:VR F ρ v v'):bP P F (VR F) ρ (Instr.box e v) (Instr.box e v'):=by
 unfold Instr.box;exact bP.bind (Bz h) fun ρ' a a' _ ha=>.pure (.ptr ha)
end
end Go.Lag
