/- A COMMUNICATION of a goroutine that is alone, or beside goroutines of  .. -/
import Derived.Test.YtffladgmkiimjaaGreatDoorW08
import Derived.Conc.Beside
import Derived.Lone
import Derived.Calls
import Derived.Conc.Events
set_option linter.all false
set_option maxHeartbeats 100000000
set_option maxRecDepth 1000000
open Array renaming mem_append → F2,getElem?_setIfInBounds_ne → aA,getElem?_eq_getElem → aM,replicate → aT,getD_eq_getD_getElem? → aV,getElem?_setIfInBounds_self_of_lt → aZ,getElem?_eq_some_iff → ak,getElem?_setIfInBounds → bw,mem_of_getElem? → eH,empty_append → eL,getElem?_map → jX,all_eq_true' → jY,getElem?_push → kN,getElem?_modify → oY
open Bool renaming and_eq_true → aC,false_eq_true → bu
open Classical renaming byContradiction → eO
open Go renaming Goroutine → aB,Program → aI,TypeId → aX,Value → aj,World → ar,Frame → bL,Addr → cU,Question → dA,FuncId → dR,runtimePanic → ej,Event → fP,Sem → gZ,zeroValue → iD,underlying → iG,step → m8,CommCase → mD,communicate → mg,unsupported → qC,MapEntry → tM,behindNumber → uA,choose → zJ
open Go.Conc renaming mem_ofEvents → A5,runT_crowd_go → Cr,solo_eq_crowd → m9,crowd → qD,solo → wy
open Go.Frame renaming enter → dZ
open Go.Instr renaming loadAt → A3,findKey → Cv,indexAt → jf,findAsking → jg,index → mC,checkKey → nu,mapUpdate → zQ
open Go.MemAct renaming ofEvent → fK
open Go.MemOp renaming ofEvents → ic
open Go.Mode renaming plain → lW
open Go.Sem renaming runT → dz
open Go.World renaming setCell → j4
open List renaming mem_cons → bR,length_pos_iff → cX,getElem_mem → cu,getElem?_eq_getElem → dE,mem_toArray → eF,not_mem_nil → gh,mem_filter → gi,getD_eq_getElem?_getD → wB
open Nat renaming le_trans → aN,le_refl → ax,lt_of_lt_of_le → bz,zero_add → cZ,eq_zero_or_pos → iJ,add_assoc → ng
open Option renaming map_some → dH,map_eq_some_iff → eu
open Option.some renaming inj → bf
open Pure renaming pure → eE
namespace Go.Lag
open Go.Conc
def kZ(gs:Array aB):Prop:=∀g∈gs,g.status≠.blocked
theorem lR{gs:Array aB}(h:kZ gs)(r:Nat)(b:Bool):partners gs r b=[]:=by
 unfold partners;rw[List.flatMap_eq_nil_iff];rintro⟨g,i⟩ hx
 have hg:g∈gs:=by
  have:(g,i)∈gs.toList.zipIdx:=by simpa using hx
  exact Array.mem_toList_iff.1 (List.fst_mem_of_mem_zipIdx this)
 have:=h g hg;dsimp only;split
 ·rename_i e _;exact absurd e this
 ·rfl
theorem F5{gs:Array aB}(h:kZ gs)(w:ar)(c:mD):ways w gs c=ways w #[] c:=by
 unfold ways;simp only[lR h,lR (gs:=#[]) (by intro g hg;simp at hg)]
theorem Pb[uf]{lw w:ar}(V:jc lw w)(c:mD):ways w #[] c=ways lw #[] c:=by
 unfold ways;split
 ·rename_i r _;rcases V.at_ r with h|⟨h1,o,h2,h3⟩
  ·rw[h]
  ·rw[h1,h2]
   have:∀cap buf cl s r tm,o≠.chan cap buf cl s r tm:=by
    intro cap buf cl s r tm e;subst e;cases h3
   cases o<;>first|rfl|exact absurd rfl (this _ _ _ _ _ _)
 ·rfl
theorem Jy(w:ar)(c:mD):ways w #[] c=[]∨ways w #[] c=[.sendClosed]∨ways w #[] c=[.buffer]∨ways w #[] c=[.closed]:=by
 unfold ways;have e:∀r b,partners #[] r b=[]:=fun r b=>lR (by intro g hg;simp at hg) r b;simp only[e];split
 ·split
  ·split
   ·simp
   ·split<;>simp
  ·split
   ·simp
   ·split<;>simp
  ·simp
 ·simp
theorem Pc{w:ar}{c:mD}(h:ways w #[] c≠[]):∃r cap buf cl s rc tm,c.chan=.chan (some r)∧w.heap[r]?=some (Obj.chan cap buf cl s rc tm):=by
 unfold ways at h;split at h
 ·rename_i r hr;split at h
  ·rename_i h1 _;exact⟨r,_,_,_,_,_,_,hr,h1⟩
  ·rename_i h1 _;exact⟨r,_,_,_,_,_,_,hr,h1⟩
  ·exact absurd rfl h
 ·exact absurd rfl h
theorem Mf{P:aI}(ready:List (Nat × mD × List Way))(h1:∀y∈ready,y.2.2.length=1)(hne:ready≠[])(w:ar) :
  (do
   let a ←zJ (.select ready.length);let (k,c,ws):=ready.getD a (0,default,[])
   let b ←zJ (.extern "which waiting goroutine is the partner" ws.length)
   pure (k,c,ws.getD b .closed):gZ (Nat × mD × Way)).run P w =
  (if ready.length≤1 then .ok ((ready.getD 0 (0,default,[])).1,(ready.getD 0 (0,default,[])).2.1,(ready.getD 0 (0,default,[])).2.2.getD 0 .closed) w
   else .ok ((ready.getD (w.tape w.drawn (.select ready.length) % ready.length) (0,default,[])).1,(ready.getD (w.tape w.drawn (.select ready.length) % ready.length) (0,default,[])).2.1,(ready.getD (w.tape w.drawn (.select ready.length) % ready.length) (0,default,[])).2.2.getD 0 .closed) { w with drawn:=w.drawn+1 }):=by
 have hl:0<ready.length:=cX.2 hne
 have key:∀a,a<ready.length→(ready.getD a (0,default,[])).2.2.length=1:=fun a ha=>by
  rw[wB,dE ha];exact h1 _ (cu ha)
 by_cases hn:ready.length≤1
 ·rw[if_pos hn];have:=key 0 hl;simp only[zJ,bind,Sem.bind,Sem.run,Question.forced,hn,decide_true,if_true,this];simp[pure,Sem.run]
 ·rw[if_neg hn];have:=key (w.tape w.drawn (.select ready.length) % ready.length) (Nat.mod_lt _ hl);simp only[zJ,bind,Sem.bind,Sem.run,Question.forced,hn,decide_false,Question.cut];simp only[bu,if_false,this];simp[pure,Sem.run]
def Ut(B:Nat)(op:MemOp):Prop:=op.g=0∧∃r n m,r<B∧(op.act=.send r n∨op.act=.sendDone r n∨op.act=.recv r n m∨op.act=.recvDone r n∨op.act=.recvClosed r)
theorem any_congr{f f':mD→Bool}(h:∀c,f c=f' c)(cs:Array mD):cs.any f=cs.any f':=by rw[funext h]
theorem tO{rest:Rest}(h:rest.timers = #[])(cs:Array mD)(w:ar):waitingAt rest cs w=some w:=by
 unfold waitingAt
 have:timerAhead rest w.os.mono cs=false:=by
  unfold timerAhead;rw[h];rw[Array.any_eq_false];intro i hi;split<;>simp
 rw[this];rfl
section
variable{P:aI}{lw w:ar}
structure WW[uf](P:aI)(g:aB)(cs:Array mD)(b:Bool)(sh:CommShape)(lw w:ar)(ops:Array MemOp)(g':aB)(ek w':ar)(k:Nat):Prop where
 gok:zN g'
 dy:g'.dying=none
 run:g'.status=.running
 base:Base lw ek w' k #[]
 lists:∀op∈ops,Ut lw.heap.size op
 many:∀(gs:Array aB) (rest:Rest),kZ gs→rest.timers = #[]→∀τ d,Agree k lw.tape lw.drawn τ d→mg P rest gs 0 g cs b sh (dr w τ d)=(.next { world:=dr w' τ (d+k),gs:=gs.setIfInBounds 0 g',rest:=rest },ops)
theorem K6[uf](T:Quiet P){d0:aB}(hd0:d0.status≠.blocked){rest0:Rest}(Iw:rest0.timers = #[])(cS:dw lw)(V:jc lw w)
  {g:aB} (hg:zN g) (hgd:g.dying=none) (hgr:g.status=.running) {cs:Array mD} {b:Bool} {sh:CommShape} {m':Machine} {ops:Array MemOp} (hl:mg P rest0 #[d0] 0 g cs b sh lw=(.next m',ops)) :
  ∃g' ek,m'={ world:=ek,gs:=#[g'],rest:=rest0 }∧(g'.status=.blocked∨∃w' k,WW P g cs b sh lw w ops g' ek w' k):=by
 have Xo:kZ #[d0]:=by intro x hx;simp at hx;rw[hx];exact hd0
 have e0:∀c,ways lw #[d0] c=ways lw #[] c:=fun c=>F5 Xo lw c;have e1:∀(gs:Array aB) (qh:kZ gs) τ d c,ways (dr w τ d) gs c=ways lw #[] c:=fun gs qh τ d c=>(F5 qh _ c).trans (Pb (rO V τ d) c);unfold mg at hl
 extract_lets put illMade me other ready pick at hl
 have hrw:∀y∈ready,y.2.2.length=1:=by
  intro y hy;obtain⟨h1,h2⟩:=gi.1 hy;obtain⟨⟨c,k⟩,hc,rfl⟩:=List.mem_map.1 h1;dsimp only at h2 ⊢;rcases Jy lw c with h|h|h|h<;>rw[e0,h] at h2 ⊢<;>first|rfl|simp at h2
 split at hl
 ·cases hl
 rename_i YY;have Ku:∀(τ:Nat→dA→Nat) (d:Nat) (f:mD→Bool),(∀c,f c=illMade c)→¬cs.any f=true:=fun τ d f hf hc=>YY ((any_congr (fun c=>(hf c).symm) cs).trans hc)
 by_cases Xi:ready.isEmpty=true
 ·
  have far:∀(gs:Array aB) (rest:Rest) (qh:kZ gs) (ht:rest.timers = #[]) τ d,mg P rest gs 0 g cs b sh (dr w τ d) =
    if b=true then(.next { world:=dr w τ d,gs:=gs.setIfInBounds 0 { g with status:=.blocked,offers:=some (cs,sh) },rest:=rest },#[])
    else(.next { world:=dr w τ d,gs:=gs.setIfInBounds 0 (g.finishComm P cs sh (-1) undef false),rest:=rest },#[]):=by
   intro gs rest qh ht τ d;unfold mg
   extract_lets put' yV Hz ready' pick'
   have hr:ready'=ready:=by simp only[ready,ready',e0,e1 gs qh]
   refine(if_neg (Ku τ d _ fun c=>?_)).trans ?_
   ·simp only[illMade,yV];split
    ·rfl
    ·rename_i r _;rcases(rO V τ d).at_ r with h|⟨h1,o,h2,h3⟩
     ·rw[h]
     ·rw[h1,h2];cases o<;>first|rfl|cases h3
    ·rfl
   ·rw[hr,if_pos Xi,tO ht]
  rw[if_pos Xi,tO Iw] at hl;cases b with
  |true=>
   simp only[if_true] at hl;cases hl;exact⟨_,_,rfl,.inl rfl⟩
  |false=>
   simp only[bu,if_false,put] at hl;cases hl;exact⟨_,_,rfl,.inr ⟨w,0,⟨⟨hg.frame.finish _,hg.callers,.inl rfl⟩,hgd,rfl,GZ cS V,by simp,fun gs rest qh ht τ d _=>by rw[far gs rest qh ht];rfl⟩⟩⟩
 ·have hne:ready≠[]:=by simpa using Xi
  have VC:∃n y,y∈ready∧pick.run P lw=.ok (y.1,y.2.1,y.2.2.getD 0 .closed) { lw with drawn:=lw.drawn+n }∧∀x:ar,(∀i,i<n→x.tape (x.drawn+i)=lw.tape (lw.drawn+i))→pick.run P x=.ok (y.1,y.2.1,y.2.2.getD 0 .closed) { x with drawn:=x.drawn+n }:=by
   have hr:=fun x=>Mf (P:=P) ready hrw hne x;have hl0:0<ready.length:=cX.2 hne
   have hin:∀a,a<ready.length→ready.getD a (0,default,[])∈ready:=fun a ha=>by
    rw[wB,dE ha];exact cu ha
   by_cases hn:ready.length≤1
   ·refine⟨0,ready.getD 0 (0,default,[]),hin 0 hl0,?_,fun x _=>?_⟩
    ·exact(hr lw).trans (if_pos hn)
    ·exact(hr x).trans (if_pos hn)
   ·refine⟨1,ready.getD (lw.tape lw.drawn (.select ready.length) % ready.length) (0,default,[]),hin _ (Nat.mod_lt _ hl0),?_,fun x hx=>?_⟩
    ·exact(hr lw).trans (if_neg hn)
    ·have h0:x.tape x.drawn=lw.tape lw.drawn:=hx 0 (by omega);refine(hr x).trans ((if_neg hn).trans ?_);rw[h0]
  obtain⟨n,y,hy,hp,hpx⟩:=VC;rw[if_neg Xi,hp] at hl
  have Jn:y.2.2=ways lw #[] y.2.1:=by
   obtain⟨h1,_⟩:=gi.1 hy;obtain⟨⟨c,k⟩,hc,rfl⟩:=List.mem_map.1 h1;exact e0 c
  obtain⟨k,c,ws⟩:=y;dsimp only at Jn hl hp hpx
  obtain⟨r,cap,buf,cl,sent,aa4,tm,hcc,hh⟩:=Pc (w:=lw) (c:=c) (by
   intro e;have:=hrw _ hy;dsimp only at this;rw[Jn,e] at this
   cases this)
  have hh2:w.heap[r]?=some (Obj.chan cap buf cl sent aa4 tm):=by
   rcases V.at_ r with h'|⟨h',_⟩
   ·rw[←h'];exact hh
   ·rw[hh] at h';cases h'
  have hb:∀mX w₁:ar,mX.tape=lw.tape→mX.drawn=lw.drawn+n→mX.heap.size=lw.heap.size→dw mX→jc mX w₁→Base lw mX w₁ n #[]:=fun mX w₁ h1 h2 h3 h4 h5=>⟨h1,h2,by omega,h4,by simp,h5⟩
  have hgf:∀k v o,zN (g.finishComm P cs sh k v o):=fun k v o=>⟨hg.frame.finish _,hg.callers,.inl rfl⟩
  simp only[hcc,hh] at hl;rcases Jy lw c with hw|hw|hw|hw
  ·exfalso;have:=hrw _ hy;dsimp only at this;rw[Jn,hw] at this;cases this
  ·
   have hw1:ws.getD 0 .closed=.sendClosed:=by rw[Jn,hw];rfl
   rw[hw1] at hl;dsimp only at hl;have V1:jc { lw with drawn:=lw.drawn+n } w:=⟨V.size,V.os,V.out,V.at_,V.old,V.kept⟩
   rcases vM (ij (P:=P) (.plain "send on closed channel")) (lw:={ lw with drawn:=lw.drawn+n }) (w:=w) cS V1 with⟨why,ek,h⟩|⟨ek,w',n2,r2,new,h⟩
   ·obtain⟨es',he⟩:=h #[]
    have:(ej (.plain "send on closed channel"):gZ Unit).run P { lw with drawn:=lw.drawn+n }=.halt (.stuck why) ek:=by
     have e:=congrArg Prod.fst he;rwa [Sem.runT_eq] at e
    rw[this] at hl;cases hl
   ·have h1:(ej (.plain "send on closed channel"):gZ Unit).run P { lw with drawn:=lw.drawn+n }=Ac r2 ek:=by
     have e:=congrArg Prod.fst (h.lone #[]);rwa [Sem.runT_eq] at e
    rw[h1] at hl;cases r2 with
    |ok u=>cases hl
    |error hh0=>
     cases hh0 with
     |panic v=>
      simp only[Ac,put] at hl;cases hl;refine⟨_,_,rfl,.inr ⟨w',n+n2,⟨hg.frame.raise _,hg.callers,hg.status⟩,hgd,?_,⟨h.tape,by rw[h.drawn];simp only[];omega,h.grows,h.ok,by simp,h.sK⟩,by simp,fun gs rest qh ht τ d ha=>?_⟩⟩
      ·exact hgr
      ·obtain⟨ha,ha2⟩:=vR ha
       have h2:(ej (.plain "send on closed channel"):gZ Unit).run P (dr w τ (d+n))=.halt (.panic v) (dr w' τ (d+n+n2)):=by
        have e:=congrArg Prod.fst (h.many τ (d+n) ha2 #[]);rwa [Sem.runT_eq] at e
       unfold mg
       extract_lets put' yV Hz ready' pick'
       have hr:ready'=ready:=by simp only[ready,ready',e0,e1 gs qh]
       refine(if_neg (Ku τ d _ fun c=>?_)).trans ?_
       ·simp only[illMade,yV];split
        ·rfl
        ·rename_i r _;rcases(rO V τ d).at_ r with h|⟨h1,o,h2,h3⟩
         ·rw[h]
         ·rw[h1,h2];cases o<;>first|rfl|cases h3
        ·rfl
       rw[hr,if_neg Xi]
       have hp':pick'.run P (dr w τ d)=.ok (k,c,ws.getD 0 .closed) (dr w τ (d+n)):=by
        have:pick'=pick:=by simp only[pick,pick',hr]
        rw[this];exact hpx (dr w τ d) fun i hi=>(ha i hi).symm
       rw[hp',hw1];simp only[hcc,ot,hh2];simp only[h2,ng];rfl
     |_=>cases hl
  ·have hw1:ws.getD 0 .closed=.buffer:=by rw[Jn,hw];rfl
   rw[hw1] at hl;cases hsend:c.send with
   |some v=>
    simp only[hsend,put] at hl;cases hl;refine⟨_,_,rfl,.inr ⟨{ w with heap:=w.heap.setIfInBounds r _ },n,hgf ..,hgd,rfl,hb _ _ rfl rfl (by simp) (xw (w:={ lw with drawn:=lw.drawn+n }) cS rfl) (yi (lw:={ lw with drawn:=lw.drawn+n }) ⟨V.size,V.os,V.out,V.at_,V.old,V.kept⟩ _ _ rfl),?_,fun gs rest qh ht τ d ha=>?_⟩⟩
    ·intro op hop;simp only[eF,bR,gh,or_false] at hop;rcases hop with rfl|rfl<;>exact⟨rfl,r,sent,0,ey hh,by simp[me]⟩
    ·unfold mg
     extract_lets put' yV Hz ready' pick'
     have hr:ready'=ready:=by simp only[ready,ready',e0,e1 gs qh]
     refine(if_neg (Ku τ d _ fun c=>?_)).trans ?_
     ·simp only[illMade,yV];split
      ·rfl
      ·rename_i r _;rcases(rO V τ d).at_ r with h|⟨h1,o,h2,h3⟩
       ·rw[h]
       ·rw[h1,h2];cases o<;>first|rfl|cases h3
      ·rfl
     rw[hr,if_neg Xi]
     have hp':pick'.run P (dr w τ d)=.ok (k,c,ws.getD 0 .closed) (dr w τ (d+n)):=by
      have:pick'=pick:=by simp only[pick,pick',hr]
      rw[this];exact hpx (dr w τ d) fun i hi=>(ha i hi).symm
     rw[hp',hw1];simp only[hcc,ot,hh2];simp only[hsend];rfl
   |none=>
    simp only[lR Xo] at hl;simp only[hsend,put] at hl;cases hl;refine⟨_,_,rfl,.inr ⟨{ w with heap:=w.heap.setIfInBounds r _ },n,hgf ..,hgd,rfl,hb _ _ rfl rfl (by simp) (xw (w:={ lw with drawn:=lw.drawn+n }) cS rfl) (yi (lw:={ lw with drawn:=lw.drawn+n }) ⟨V.size,V.os,V.out,V.at_,V.old,V.kept⟩ _ _ rfl),?_,fun gs rest qh ht τ d ha=>?_⟩⟩
    ·intro op hop;simp only[eF,bR,gh,or_false] at hop;rcases hop with rfl|rfl<;>exact⟨rfl,r,aa4,cap,ey hh,by simp[me]⟩
    ·unfold mg
     extract_lets put' yV Hz ready' pick'
     have hr:ready'=ready:=by simp only[ready,ready',e0,e1 gs qh]
     refine(if_neg (Ku τ d _ fun c=>?_)).trans ?_
     ·simp only[illMade,yV];split
      ·rfl
      ·rename_i r _;rcases(rO V τ d).at_ r with h|⟨h1,o,h2,h3⟩
       ·rw[h]
       ·rw[h1,h2];cases o<;>first|rfl|cases h3
      ·rfl
     rw[hr,if_neg Xi]
     have hp':pick'.run P (dr w τ d)=.ok (k,c,ws.getD 0 .closed) (dr w τ (d+n)):=by
      have:pick'=pick:=by simp only[pick,pick',hr]
      rw[this];exact hpx (dr w τ d) fun i hi=>(ha i hi).symm
     rw[hp',hw1];simp only[hcc,ot,hh2];simp only[hsend,lR qh];rfl
  ·have hw1:ws.getD 0 .closed=.closed:=by rw[Jn,hw];rfl
   rw[hw1] at hl;dsimp only at hl;simp only[put] at hl;cases hl;refine⟨_,_,rfl,.inr ⟨w,n,hgf ..,hgd,rfl,hb _ _ rfl rfl rfl cS ⟨V.size,V.os,V.out,V.at_,V.old,V.kept⟩,?_,fun gs rest qh ht τ d ha=>?_⟩⟩
   ·intro op hop;simp only[eF,bR,gh,or_false] at hop;subst hop;exact⟨rfl,r,0,0,ey hh,by simp[me]⟩
   ·unfold mg
    extract_lets put' yV Hz ready' pick'
    have hr:ready'=ready:=by simp only[ready,ready',e0,e1 gs qh]
    refine(if_neg (Ku τ d _ fun c=>?_)).trans ?_
    ·simp only[illMade,yV];split
     ·rfl
     ·rename_i r _;rcases(rO V τ d).at_ r with h|⟨h1,o,h2,h3⟩
      ·rw[h]
      ·rw[h1,h2];cases o<;>first|rfl|cases h3
     ·rfl
    rw[hr,if_neg Xi]
    have hp':pick'.run P (dr w τ d)=.ok (k,c,ws.getD 0 .closed) (dr w τ (d+n)):=by
     have:pick'=pick:=by simp only[pick,pick',hr]
     rw[this];exact hpx (dr w τ d) fun i hi=>(ha i hi).symm
    rw[hp',hw1];simp only[hcc,ot,hh2];rfl
end
def wP(B:Nat)(ops:Array MemOp):Prop:=∀op∈ops,op.g=0∧op.act.low B∧op.act≠.mark .disable∧op.act≠.mark .enable
theorem wP.app{B:Nat}{a b:Array MemOp}(ha:wP B a)(hb:wP B b):wP B (a++b):=fun op h=>(F2.1 h).elim (ha op) (hb op)
theorem sT{B:Nat}{es:Array fP}(h:∀e∈es,AV B e)(fn:dR)(pos:String):wP B (ic 0 fn pos es):=fun op hop=>by
 obtain⟨e,he,rfl⟩:=A5 hop;obtain⟨loc,wr,sy⟩:=e;refine⟨rfl,?_⟩;rcases h _ he with⟨a,rfl,ha⟩|⟨r,rfl,hr⟩|rfl|rfl|⟨f,rfl⟩
 ·exact⟨ha,by simp[fK],by simp[fK]⟩
 ·cases wr<;>cases sy<;>exact⟨hr,by simp[fK],by simp[fK]⟩
 ·exact⟨trivial,by simp[fK],by simp[fK]⟩
 ·exact⟨trivial,by simp[fK],by simp[fK]⟩
 ·exact⟨trivial,by simp[fK],by simp[fK]⟩
theorem Mv{B B':Nat}(hB:B≤B'){ops:Array MemOp}(h:∀op∈ops,Ut B op):wP B' ops:=fun op hop=>by
 obtain⟨hg,r,n,m,hr,ho⟩:=h op hop;refine⟨hg,?_⟩;rcases ho with e|e|e|e|e<;>rw[e]<;>exact⟨bz hr hB,by simp,by simp⟩
theorem zk{B:Nat}{ops:Array MemOp}(h:wP B ops)(t:Trace)(g:Nat):Deaf (t++ops) g=Deaf t g:=by
 obtain⟨l⟩:=ops;rw[Deaf_append]
 have:∀(l:List MemOp),(∀op∈l,op.act≠.mark .disable∧op.act≠.mark .enable)→∀d,l.foldl (deafStep g) d=d:=by
  intro l
  induction l with
  |nil=>intro _ d;rfl
  |cons y l ih=>
   intro hl d;rw[List.foldl_cons]
   have:deafStep g d y=d:=by
    have hy:=hl y (List.mem_cons_self ..);unfold deafStep;split
    ·rename_i e;exact absurd e hy.1
    ·rename_i e;exact absurd e hy.2
    ·rfl
   rw[this];exact ih (fun op hop=>hl op (List.mem_cons_of_mem _ hop)) d
 exact this l (fun op hop=>⟨(h op (by simpa using hop)).2.2.1,(h op (by simpa using hop)).2.2.2⟩) _
section
variable{P:aI}
theorem runT_crowd_comm{gs:Array aB}{w w':ar}{sl:Option (Nat × Nat)}{i:Nat}{g g':aB}{cs:Array mD}{b:Bool}{sh:CommShape}{es:Array fP}(hi:gs[i]?=some g)(h:stepG P (i==0) g w=.comm g' cs b sh w' es) :
  runT P (qD gs w sl) i=((mg P { timers:=#[],alone:=none,slice:=sl } (gs.setIfInBounds i { (default:aB) with status:=.finished }) i g' cs b sh w').1,
   ic i g.frame.fn g.frame.place es++(mg P { timers:=#[],alone:=none,slice:=sl } (gs.setIfInBounds i { (default:aB) with status:=.finished }) i g' cs b sh w').2):=by
 obtain⟨hlt,rfl⟩:=ak.1 hi;have hsw:=swapAt_of_lt hlt { (default:aB) with status:=.finished };have ui:gs.set i { (default:aB) with status:=.finished }=gs.setIfInBounds i { (default:aB) with status:=.finished }:=by simp[Array.setIfInBounds,hlt]
 show runT P { world:=w,gs:=gs,rest:={ timers:=#[],alone:=none,slice:=sl } } i=_;unfold runT;simp only[hsw,h,GStep.es,ui]
def Idle(gs:Array aB):Prop:=∀(i:Nat) (x:aB),0<i→gs[i]?=some x→x.status=.running∨x.status=.finished
theorem NA{w:ar}{o:aB}(h:o.status=.running∨o.status=.finished):o.again w=o:=by
 unfold Goroutine.again;rcases h with h|h<;>rw[h]
theorem LS{gs:Array aB}(h:Idle gs)(g g':aB)(w':ar):(gs.map (woken P g g' w')).setIfInBounds 0 g'=gs.setIfInBounds 0 g':=by
 apply Array.ext_getElem?;intro j
 by_cases hj:0=j
 ·subst hj;simp only[bw,Array.size_map,if_true]
 ·simp only[aA hj,jX];cases hx:gs[j]? with
  |none=>rfl
  |some x=>
   simp only[dH];unfold woken;split
   ·rw[NA (h j x (by omega) hx)]
   ·rfl
def rf(P:aI)(g:aB)(W:ar)(g':aB)(W':ar):Prop:=
 g.status=.running∧g.dying=none∧(∃ops,stepT P (wy g W)=(.next (wy g' W'),ops))∧g'.status=.running∧g'.dying=none
theorem og{a b:aB}{w w':ar}(h:wy a w=wy b w'):a=b∧w=w':=by
 unfold wy at h;injection h with h1 h2 h3
 exact⟨by simpa using h2,h1⟩
theorem JJ(gs:Array aB)(x y:aB):(gs.setIfInBounds 0 x).setIfInBounds 0 y=gs.setIfInBounds 0 y:=by
 apply Array.ext_getElem?;intro j
 by_cases hj:0=j
 ·subst hj;simp[bw]
 ·simp[aA hj]
theorem BD[uf](T:Quiet P){lw w:ar}{g g':aB}{ek:ar}(hg:zN g)(cS:dw lw)(V:jc lw w)(h:rf P g lw g' ek) :
  zN g'∧∃w' k ops,Base lw ek w' k #[]∧wP ek.heap.size ops∧
   ∀τ d gs sl,Agree k lw.tape lw.drawn τ d→gs[0]?=some g→Idle gs→runT P (qD gs (dr w τ d) sl) 0=(.next (qD (gs.setIfInBounds 0 g') (dr w' τ (d+k)) sl),ops):=by
 obtain⟨hr,hd,⟨ops,hs⟩,hr',LL⟩:=h;have Ah:=Gb T hg hd cS V;rw[stepT_solo hr,m9] at hs;have M0:(#[g]:Array aB)[0]?=some g:=rfl;cases qh:stepG P true g lw with
 |go g1 jJ es=>
  rw[qh] at Ah;have e:=Cr (P:=P) (gs:=#[g]) (w:=lw) (sl:=none) (i:=0) M0 qh;rw[e] at hs;injection hs with hs1 hs2
  injection hs1 with hs3
  have:(#[g].map (woken P g g1 jJ)).setIfInBounds 0 g1 = #[g1]:=by simp
  rw[this,←m9] at hs3;obtain⟨rfl,rfl⟩:=og hs3;rcases Ah with hdy|⟨CL,_,w',k,hb,hm⟩
  ·obtain⟨_,dd,he,_⟩:=hdy;rw[LL] at he;cases he
  ·refine⟨CL,w',k,_,⟨hb.tape,hb.drawn,hb.grows,hb.ok,by simp,hb.sK⟩,sT hb.evs g.frame.fn g.frame.place,fun τ d gs sl ha h0 hi=>?_⟩;rw[Cr (P:=P) (sl:=sl) (i:=0) h0 (hm τ d ha),LS hi]
 |comm g1 cs b sh jJ es=>
  rw[qh] at Ah;obtain⟨CL,⟨hgd,Y5⟩,w1,k1,hb,hm⟩:=Ah;have e:=runT_crowd_comm (P:=P) (gs:=#[g]) (w:=lw) (sl:=none) (i:=0) M0 qh;rw[e] at hs;have Y2:(#[g].setIfInBounds 0 { (default:aB) with status:=.finished }) = #[{ (default:aB) with status:=.finished }]:=by simp
  rw[Y2] at hs;generalize hc:mg P { timers:=#[],alone:=none,slice:=none } #[{ (default:aB) with status:=.finished }] 0 g1 cs b sh jJ=cc at hs;obtain⟨st,more⟩:=cc;injection hs with hs1 hs2
  dsimp only at hs1;subst hs1
  have key:∀gs:Array aB,Idle gs→0<gs.size→kZ (gs.setIfInBounds 0 { (default:aB) with status:=.finished }):=by
   intro gs hi h0 x hx;obtain⟨j,hj⟩:=Array.mem_iff_getElem?.1 hx
   by_cases e0:0=j
   ·subst e0;simp only[bw,if_true,h0] at hj;cases hj;simp
   ·rw[aA e0] at hj;rcases hi j x (by omega) hj with h|h<;>rw[h]<;>simp
  have Xo:({ (default:aB) with status:=.finished }:aB).status≠.blocked:=by simp
  obtain⟨g2,Yr,e2,Eb⟩:=K6 T Xo (rest0:={ timers:=#[],alone:=none,slice:=none }) rfl hb.ok hb.sK CL hgd Y5 hc;have e3:wy g' ek=wy g2 Yr:=e2;obtain⟨rfl,rfl⟩:=og e3;rcases Eb with hblk|⟨w2,k2,hcr⟩
  ·rw[hr'] at hblk;cases hblk
  refine⟨hcr.gok,w2,k1+k2,ic 0 g.frame.fn g.frame.place es++more,⟨hcr.base.tape.trans hb.tape,by rw[hcr.base.drawn,hb.drawn];omega,aN hb.grows hcr.base.grows,hcr.base.ok,by simp,hcr.base.sK⟩,
   (sT (fun e he=>(hb.evs e he).mono hcr.base.grows) _ _).app (Mv hcr.base.grows hcr.lists),fun τ d gs sl ha h0 hi=>?_⟩
  obtain⟨ha1,ha2⟩:=vR ha;have hlt:0<gs.size:=(ak.1 h0).1;have h2:=hcr.many (gs.setIfInBounds 0 { (default:aB) with status:=.finished }) { timers:=#[],alone:=none,slice:=sl } (key gs hi hlt) rfl τ (d+k1) (by rw[hb.tape,hb.drawn];exact ha2);rw[runT_crowd_comm (P:=P) (sl:=sl) (i:=0) h0 (hm τ d ha1),h2,JJ,ng];rfl
 |ended o jJ es=>
  have e:=runT_many_ended (P:=P) (gs:=#[g]) (w:=lw) (sl:=none) (i:=0) M0 qh;rw[e] at hs;injection hs with hs1 hs2
  cases hs1
 |spawn g1 c jJ es=>
  have e:=runT_crowd_spawn (P:=P) (gs:=#[g]) (w:=lw) (sl:=none) (i:=0) M0 qh;rw[e] at hs;injection hs with hs1 hs2
  injection hs1 with hs3
  have:=congrArg (fun m:Machine=>m.gs.size) hs3;simp[qD,wy] at this
 |_=>rw[qh] at Ah;exact Ah.elim
end
def Ext(W:ar)(τ:Nat→dA→Nat):Prop:=∀i,i<W.drawn→τ i=W.tape i
inductive Bar(P:aI)(Stop:aB→ar→Prop):aB→ar→Prop
 |stop {g:aB} {W:ar}:Stop g W→Bar P Stop g W
 |step {g:aB} {W:ar}:(∀τ,Ext W τ→∃g' W',rf P g (dr W τ W.drawn) g' W')→
   (∀τ,Ext W τ→∀g' W',rf P g (dr W τ W.drawn) g' W'→Bar P Stop g' W')→Bar P Stop g W
section
variable{P:aI}
abbrev Oh:uf:=⟨fun _=>.none⟩
theorem F7(W:ar):@jc Oh W W:=@jc.mk Oh _ _ rfl rfl rfl (fun _=>.inl rfl) (fun _ _ h=>by cases h) (fun _ _ h=>by cases h)
theorem qM(T:Quiet P){g g':aB}{lw ek:ar}(hg:zN g)(cS:dw lw)(h:rf P g lw g' ek) :
  zN g'∧dw ek∧ek.tape=lw.tape∧lw.drawn≤ek.drawn∧lw.heap.size≤ek.heap.size∧
   ∀τ d,Agree (ek.drawn-lw.drawn) lw.tape lw.drawn τ d→rf P g (dr lw τ d) g' (dr ek τ (d+(ek.drawn-lw.drawn))):=by
 letI:=Oh
 obtain⟨E8,w',k,ops,hb,Fx,hm⟩:=BD T hg cS (F7 lw) h;obtain⟨hr,hd,⟨aki,hs⟩,hr',LL⟩:=h
 have Xt:Idle #[g]:=by
  intro i x h1 h2;have:i<1:=by simpa using (ak.1 h2).1
  omega
 have e0:=hm lw.tape lw.drawn #[g] none (fun _ _=>rfl) rfl Xt;have e1:(#[g].setIfInBounds 0 g') = #[g']:=by simp
 have hk:ek.drawn-lw.drawn=k:=by rw[hb.drawn];omega
 have e2:ek=dr w' lw.tape (lw.drawn+k):=by
  rw[stepT_solo hr,m9] at hs;have e3:dr lw lw.tape lw.drawn=lw:=rfl;rw[e3,hs] at e0;injection e0 with e4 e5
  injection e4 with e6
  rw[e1,←m9] at e6;exact(og e6).2
 refine⟨E8,hb.ok,hb.tape,by rw[hb.drawn];omega,hb.grows,fun τ d ha=>⟨hr,hd,⟨ops,?_⟩,hr',LL⟩⟩;rw[hk] at ha ⊢;rw[stepT_solo hr,m9,hm τ d #[g] none ha rfl Xt,e1,←m9,e2];rfl
theorem Dk:∀(n:Nat) {g g':aB} {W W':ar},g.dyingOn P→g'.dying=none→runN P n (wy g W)≠.next (wy g' W')
 |0,g,g',W,W',h,hd=>by
  intro e;simp only[runN] at e;injection e with e
  obtain⟨rfl,_⟩:=og e;obtain⟨_,d,LL,_⟩:=h;rw[hd] at LL;cases LL
 |n+1,g,g',W,W',h,hd=>by
  rcases step_dyingOn (w:=W) h with⟨g1,w1,hs,h'⟩|⟨o,w1,hs,_⟩
  ·have hs':m8 P (wy g W)=.next (wy g1 w1):=hs
   simp only[runN,hs'];exact Dk n h' hd
  ·have hs':m8 P (wy g W)=.ended o w1:=hs;simp only[runN,hs'];intro e;cases e
theorem Pn{g:aB}{W:ar}(h:g.status=.finished∨g.status=.blocked):∃o w',m8 P (wy g W)=.ended o w':=by
 obtain⟨fr,cs,st,dy,off⟩:=g;simp only at h;rcases h with rfl|rfl
 ·obtain⟨o',w',he,ho⟩:=endWith_ended W 2 (bytes "fatal error: no goroutines (main called runtime.Goexit) - deadlock!\n") (.fatal "no goroutines (main called runtime.Goexit) - deadlock!");refine⟨o',w',?_⟩;simp[m8,stepT,move,ask,askOn,wy,runnable_eq,due,ahead,Goroutine.canRun,List.range_succ,pure];rw[he]
 ·obtain⟨o',w',he,ho⟩:=endWith_ended W 2 (bytes "fatal error: all goroutines are asleep - deadlock!\n") (.fatal "all goroutines are asleep - deadlock!");refine⟨o',w',?_⟩;simp[m8,stepT,move,ask,askOn,wy,runnable_eq,due,ahead,Goroutine.canRun,List.range_succ,pure];rw[he]
theorem Gi{n:Nat}{g g':aB}{W W':ar}(h:g.status=.finished∨g.status=.blocked)(hr:g'.status=.running):runN P n (wy g W)≠.next (wy g' W'):=by
 cases n with
 |zero=>
  intro e;simp only[runN] at e;injection e with e
  obtain⟨rfl,_⟩:=og e;rw[hr] at h;rcases h with h|h<;>cases h
 |succ n=>
  obtain⟨o,w',e⟩:=Pn (P:=P) (W:=W) h;simp only[runN,e];intro e;cases e
theorem Ik(T:Quiet P){n:Nat}{g g':aB}{W W':ar}(hg:zN g)(cS:dw W)(hr:g.status=.running)(hd:g.dying=none)(hr':g'.status=.running)(LL:g'.dying=none)
  (h:runN P (n+1) (wy g W)=.next (wy g' W')):∃g1 W1,rf P g W g1 W1:=by
 letI:=Oh
 have Ah:=Gb T hg hd cS (F7 W);have M0:(#[g]:Array aB)[0]?=some g:=rfl;have hst:stepT P (wy g W)=runT P (qD #[g] W none) 0:=by rw[stepT_solo hr,m9]
 simp only[runN,m8,hst] at h;cases qh:stepG P true g W with
 |go g1 W1 es=>
  rw[qh] at Ah;have e:=Cr (P:=P) (gs:=#[g]) (w:=W) (sl:=none) (i:=0) M0 qh;have e1:(#[g].map (woken P g g1 W1)).setIfInBounds 0 g1 = #[g1]:=by simp
  have e:runT P (qD #[g] W none) 0=(.next (wy g1 W1),ic 0 g.frame.fn g.frame.place es):=e.trans (by rw[e1,←m9]);rw[e] at h;dsimp only at h;rcases Ah with hdy|⟨CL,hgd,_⟩
  ·exact absurd h (Dk n hdy LL)
  ·rcases CL.status with hs|hs
   ·exact⟨g1,W1,hr,hd,⟨_,hst.trans e⟩,hs,hgd⟩
   ·exact absurd h (Gi (.inl hs) hr')
 |comm g1 cs b sh W1 es=>
  rw[qh] at Ah;obtain⟨CL,⟨hgd,Y5⟩,w1,k1,hb,hm⟩:=Ah;have e:=runT_crowd_comm (P:=P) (gs:=#[g]) (w:=W) (sl:=none) (i:=0) M0 qh;have Y2:(#[g].setIfInBounds 0 { (default:aB) with status:=.finished }) = #[{ (default:aB) with status:=.finished }]:=by simp
  rw[Y2] at e;generalize hc:mg P { timers:=#[],alone:=none,slice:=none } #[{ (default:aB) with status:=.finished }] 0 g1 cs b sh W1=cc at e;obtain⟨st,more⟩:=cc;rw[e] at h;dsimp only at h e;cases st with
  |ended o w2=>cases h
  |next m1=>
   dsimp only at h;obtain⟨g2,W2,e2,Eb⟩:=K6 T (d0:={ (default:aB) with status:=.finished }) (by simp) (rest0:={ timers:=#[],alone:=none,slice:=none }) rfl hb.ok hb.sK CL hgd Y5 hc;have e3:m1=wy g2 W2:=e2;subst e3;rcases Eb with hblk|⟨w2,k2,hcr⟩
   ·exact absurd h (Gi (.inr hblk) hr')
   ·exact⟨g2,W2,hr,hd,⟨_,hst.trans e⟩,hcr.run,hcr.dy⟩
 |spawn g1 c W1 es=>
  have e:=runT_crowd_spawn (P:=P) (gs:=#[g]) (w:=W) (sl:=none) (i:=0) M0 qh;rw[e] at h;dsimp only at h
  have h2:runNT P n (qD ((#[g].setIfInBounds 0 g1).push c) W1 none) #[]=(.next (wy g' W'),(runNT P n (qD ((#[g].setIfInBounds 0 g1).push c) W1 none) #[]).2):=by
   have:=runNT_fst P n (qD ((#[g].setIfInBounds 0 g1).push c) W1 none) #[];rw[h] at this;exact Prod.ext this rfl
  have:=runNT_size P n _ _ _ _ h2;simp[qD,wy] at this
 |ended o W1 es=>
  have e:=runT_many_ended (P:=P) (gs:=#[g]) (w:=W) (sl:=none) (i:=0) M0 qh;rw[e] at h;cases h
 |_=>rw[qh] at Ah;exact Ah.elim
theorem least{p:Nat→Prop}:∀n,p n→∃m,p m∧∀j,j<m→¬p j:=by
 intro n
 induction n using Nat.strongRecOn with
 |ind n ih=>
  intro hn
  by_cases h:∃m,m<n∧p m
  ·obtain⟨m,h1,h2⟩:=h;exact ih m h1 h2
  ·exact⟨n,hn,fun j hj hp=>h ⟨j,hj,hp⟩⟩
structure Bad(P:aI)(Stop:aB→ar→Prop)(x:aB × ar):Prop where
 no:¬Bar P Stop x.1 x.2
 gok:zN x.1
 ok:dw x.2
 run:x.1.status=.running
 dy:x.1.dying=none
theorem BZ(T:Quiet P){Stop:aB→ar→Prop}(hS:∀g W τ d,Stop g (dr W τ d)→Stop g W)(hSr:∀g W,Stop g W→g.status=.running∧g.dying=none)
  {g:aB} {W:ar} (hg:zN g) (cS:dw W) (hr:g.status=.running) (hd:g.dying=none)
  (H:∀τ,Ext W τ→∃n g' W',runN P n (wy g (dr W τ W.drawn))=.next (wy g' W')∧Stop g' W'):Bar P Stop g W:=by
 classical
 refine eO fun hno=>?_;let St:={ x:aB × ar // Bad P Stop x }
 let R:St→St→Prop:=fun x y=>∃τ,Ext x.1.2 τ∧rf P x.1.1 (dr x.1.2 τ x.1.2.drawn) y.1.1 y.1.2;let E4:St→Prop:=fun x=>∃τ,Ext x.1.2 τ∧∀g' W',¬rf P x.1.1 (dr x.1.2 τ x.1.2.drawn) g' W'
 have next:∀x:St,¬E4 x→∃y,R x y:=by
  rintro⟨⟨g,W⟩,hb⟩ hnd;refine eO fun hny=>hb.no (.step (fun τ hτ=>?_) fun τ hτ g' W' hl=>?_)
  ·exact eO fun h=>hnd ⟨τ,hτ,fun g' W' hl=>h ⟨g',W',hl⟩⟩
  ·refine eO fun IB=>hny ?_;obtain⟨h1,h2,_⟩:=qM T hb.gok (lw:=dr W τ W.drawn) hb.ok hl;exact⟨⟨(g',W'),IB,h1,h2,hl.2.2.2.1,hl.2.2.2.2⟩,τ,hτ,hl⟩
 let f:St→St:=fun x=>if h:E4 x then x else Classical.choose (next x h)
 have hf:∀x,¬E4 x→R x (f x):=fun x h=>by
  simp only[f,dif_neg h];exact Classical.choose_spec (next x h)
 let seq:Nat→St:=fun n=>Nat.rec ⟨(g,W),hno,hg,cS,hr,hd⟩ (fun _ x=>f x) n
 have OG:∀x y:St,R x y→x.1.2.drawn≤y.1.2.drawn∧(∀p,p<x.1.2.drawn→y.1.2.tape p=x.1.2.tape p)∧
   ∀T',(∀p,p<y.1.2.drawn→T' p=y.1.2.tape p)→rf P x.1.1 (dr x.1.2 T' x.1.2.drawn) y.1.1 (dr y.1.2 T' y.1.2.drawn):=by
  rintro x y ⟨τ,hτ,hl⟩;obtain⟨_,_,h3,h4,_,h6⟩:=qM T x.2.gok (lw:=dr x.1.2 τ x.1.2.drawn) x.2.ok hl;simp only[yJ,pH] at h3 h4 h6;refine⟨h4,fun p hp=>by rw[h3];exact hτ p hp,fun T' hT'=>?_⟩;have:=h6 T' x.1.2.drawn fun i hi=>by rw[hT' _ (by omega),h3]
  rwa [Nat.add_sub_cancel' h4] at this
 have walk:∀(T':Nat→dA→Nat) (n i:Nat),(∀j,j<n→R (seq (i+j)) (seq (i+j+1))∧∀p,p<(seq (i+j+1)).1.2.drawn→T' p=(seq (i+j+1)).1.2.tape p)→
   runN P n (wy (seq i).1.1 (dr (seq i).1.2 T' (seq i).1.2.drawn))=.next (wy (seq (i+n)).1.1 (dr (seq (i+n)).1.2 T' (seq (i+n)).1.2.drawn)):=by
  intro T' n
  induction n with
  |zero=>intro i _;rfl
  |succ n ih=>
   intro i h;obtain⟨h1,h2⟩:=h 0 (by omega);obtain⟨_,_,hT⟩:=OG _ _ h1;obtain⟨_,_,⟨ops,hs⟩,_⟩:=hT T' h2
   have hs':m8 P (wy (seq i).1.1 (dr (seq i).1.2 T' (seq i).1.2.drawn))=.next (wy (seq (i+1)).1.1 (dr (seq (i+1)).1.2 T' (seq (i+1)).1.2.drawn)):=by
    rw[m8];exact congrArg Prod.fst hs
   simp only[runN,hs']
   have:=ih (i+1) fun j hj=>by
    have:=h (j+1) (by omega);rwa [show i+(j+1)=i+1+j by omega] at this
   rw[this,show i+1+n=i+(n+1) by omega]
 have mono:∀i n,(∀j,j<n→R (seq (i+j)) (seq (i+j+1)))→(seq i).1.2.drawn≤(seq (i+n)).1.2.drawn∧∀p,p<(seq i).1.2.drawn→(seq (i+n)).1.2.tape p=(seq i).1.2.tape p:=by
  intro i n
  induction n with
  |zero=>intro _;exact⟨ax _,fun _ _=>rfl⟩
  |succ n ih=>
   intro h;obtain⟨h1,h2⟩:=ih fun j hj=>h j (by omega);obtain⟨h3,h4,_⟩:=OG _ _ (h n (by omega));exact⟨aN h1 h3,fun p hp=>(h4 p (bz hp h1)).trans (h2 p hp)⟩
 have hseq:∀j,¬E4 (seq j)→R (seq j) (seq (j+1)):=fun j h=>hf _ h;have Sl:∀n T',¬Stop (seq n).1.1 (dr (seq n).1.2 T' (seq n).1.2.drawn):=fun n T' h=>(seq n).2.no (.stop (hS _ _ _ _ h));have acS:∀T',(∀p,p<W.drawn→T' p=W.tape p)→∃n g' W',runN P n (wy (seq 0).1.1 (dr (seq 0).1.2 T' (seq 0).1.2.drawn))=.next (wy g' W')∧Stop g' W':=fun T' h=>H T' h
 by_cases OD:∃n,E4 (seq n)
 ·obtain⟨n0,Xo⟩:=OD;obtain⟨N,hN,hlt⟩:=least (p:=fun n=>E4 (seq n)) n0 Xo;obtain⟨τ,hτ,hnl⟩:=hN;have hR:∀j,j<N→R (seq j) (seq (j+1)):=fun j hj=>hseq j (hlt j hj)
  have agree:∀j,j≤N→∀p,p<(seq j).1.2.drawn→τ p=(seq j).1.2.tape p:=by
   intro j hj p hp;have:=mono j (N-j) fun i hi=>hR (j+i) (by omega);rw[Nat.add_sub_cancel' hj] at this;rw[hτ p (bz hp this.1),this.2 p hp]
  have pre:∀n,n≤N→runN P n (wy (seq 0).1.1 (dr (seq 0).1.2 τ (seq 0).1.2.drawn))=.next (wy (seq n).1.1 (dr (seq n).1.2 τ (seq n).1.2.drawn)):=by
   intro n hn
   have:=walk τ n 0 fun j hj=>by
    rw[cZ];exact⟨hR j (by omega),agree (j+1) (by omega)⟩
   rwa [cZ] at this
  obtain⟨n,g',W',hrun,BF⟩:=acS τ (agree 0 (by omega));rcases Nat.lt_or_ge N n with Ci|hle
  ·obtain⟨m,rfl⟩:∃m,n=N+(m+1):=⟨n-N-1,by omega⟩
   have xp:∀(a b:Nat) (x y:Machine),runN P a x=.next y→runN P (a+b) x=runN P b y:=by
    intro a
    induction a with
    |zero=>intro b x y h;simp only[runN] at h;injection h with h;rw[h,cZ]
    |succ a ih=>
     intro b x y h;rw[show a+1+b=(a+b)+1 by omega];simp only[runN] at h ⊢;cases hs:m8 P x with
     |next x'=>rw[hs] at h;simp only at h ⊢;exact ih b x' y h
     |ended o w=>rw[hs] at h;cases h
   rw[xp N (m+1) _ _ (pre N (ax _))] at hrun;obtain⟨hr',LL⟩:=hSr _ _ BF;obtain⟨g1,W1,hl⟩:=Ik T (seq N).2.gok (W:=dr (seq N).1.2 τ (seq N).1.2.drawn) (seq N).2.ok (seq N).2.run (seq N).2.dy hr' LL hrun;exact hnl _ _ hl
  ·rw[pre n hle] at hrun;injection hrun with hrun
   obtain⟨h1,h2⟩:=og hrun;rw[←h1,←h2] at BF;exact Sl n τ BF
 ·have hnd:∀n,¬E4 (seq n):=fun n h=>OD ⟨n,h⟩;have hR:∀j,R (seq j) (seq (j+1)):=fun j=>hseq j (hnd j)
  have coh:∀i j p,i≤j→p<(seq i).1.2.drawn→(seq j).1.2.tape p=(seq i).1.2.tape p:=fun i j p UC hp=>by
   have:=(mono i (j-i) fun k _=>hR _).2 p hp;rwa [Nat.add_sub_cancel' UC] at this
  let τ:Nat→dA→Nat:=fun p=>if h:∃j,p<(seq j).1.2.drawn then(seq (Classical.choose h)).1.2.tape p else fun _=>0
  have agree:∀j p,p<(seq j).1.2.drawn→τ p=(seq j).1.2.tape p:=by
   intro j p hp;have hex:∃j,p<(seq j).1.2.drawn:=⟨j,hp⟩
   have hc:=Classical.choose_spec hex;simp only[τ,dif_pos hex];rcases Nat.le_total (Classical.choose hex) j with h|h
   ·exact(coh _ _ p h hc).symm
   ·exact coh _ _ p h hp
  obtain⟨n,g',W',hrun,BF⟩:=acS τ (agree 0)
  have:=walk τ n 0 fun j hj=>by
   rw[cZ];exact⟨hR j,agree (j+1)⟩
  rw[cZ] at this;rw[this] at hrun;injection hrun with hrun
  obtain⟨h1,h2⟩:=og hrun;rw[←h1,←h2] at BF;exact Sl n τ BF
end
end Go.Lag
namespace Go.Lag
open Go.Conc
open Go.ConcN (sumTo upd sumTo_upd upd_ne upd_same)
abbrev Lx:=Past (fun _=>False)
structure Beside(P:aI)(gs:Array aB)(g:aB)(w:ar)(t:Trace)(q:Nat→Nat):Prop where
 zero:gs[0]?=some g
 old:Leavers P t gs q
 past:Lx w.heap.size t
def qs(P:aI)(Q:aB→ar→Prop)(g:aB)(w:ar):Prop:=
 ∀(τ:Nat→dA→Nat) (d:Nat) (gs:Array aB) (sl:Option (Nat × Nat)) (t:Trace) (q:Nat→Nat),Beside P gs g w t q→
  ∃(N:Nat) (gs':Array aB) (g':aB) (w':ar) (d':Nat) (sl':Option (Nat × Nat)) (t':Trace) (q':Nat→Nat),
   runNT P N (qD gs (dr w τ d) sl) t=(.next (qD gs' (dr w' τ d') sl'),t')∧Beside P gs' g' w' t' q'∧Q g' w'
section
variable{P:aI}{Q Q':aB→ar→Prop}{g:aB}{w:ar}
theorem runNT_add(P:aI):∀(a b:Nat) (x y:Machine) (t u:Trace),runNT P a x t=(.next y,u)→runNT P (a+b) x t=runNT P b y u
 |0,b,x,y,t,u,h=>by
  simp only[runNT] at h;injection h with h1 h2
  injection h1 with h1
  rw[h1,h2,cZ]
 |a+1,b,x,y,t,u,h=>by
  rw[show a+1+b=(a+b)+1 by omega];simp only[runNT] at h ⊢;generalize stepT P x=s at h;obtain⟨r,ops⟩:=s;cases r with
  |next x'=>exact runNT_add P a b x' y _ u h
  |ended o w=>cases h
theorem qs.here(h:Q g w):qs P Q g w:=fun τ d gs sl t q hb=>⟨0,gs,g,w,d,sl,t,q,rfl,hb,h⟩
theorem qs.bind(h:qs P Q g w)(k:∀g' w',Q g' w'→qs P Q' g' w'):qs P Q' g w:=fun τ d gs sl t q hb=>by
 obtain⟨N,gs1,g1,w1,d1,C5,t1,q1,hr1,hb1,UA⟩:=h τ d gs sl t q hb;obtain⟨M,Zu,g2,w2,d2,X4,t2,q2,hr2,hb2,ML⟩:=k g1 w1 UA τ d1 gs1 C5 t1 q1 hb1;exact⟨N+M,Zu,g2,w2,d2,X4,t2,q2,by rw[runNT_add P N M _ _ _ _ hr1,hr2],hb2,ML⟩
theorem qs.mono(h:qs P Q g w)(k:∀g' w',Q g' w'→Q' g' w'):qs P Q' g w:=h.bind fun g' w' hq=>.here (k g' w' hq)
theorem Io{t:Trace}{gs:Array aB}{q:Nat→Nat}(h:Leavers P t gs q):Idle gs:=fun i x hi hx=>(h.old i x hi hx).status
theorem J2{B B':Nat}{t:Trace}{ops:Array MemOp}(h:Lx B t)(hB:B≤B')(ho:wP B' ops):Lx B' (t++ops):=
 (h.mono hB).app0 (fun op hop=>(ho op hop).1) (fun _ _ _ _ hf=>hf.elim) (zk ho t 0) fun op hop=>(ho op hop).2.1
theorem slip{gs:Array aB}{g:aB}{w:ar}{t:Trace}{q:Nat→Nat}(hb:Beside P gs g w t q)(hrun:g.status=.running){i:Nat}{x:aB}(kg:0<i)(hi:gs[i]?=some x)(hx:x.status=.running)(τ:Nat→dA→Nat)(d:Nat)(sl:Option (Nat × Nat)) :
  ∃gs' ops q',runT P (qD gs (dr w τ d) sl) i=(.next (qD gs' (dr w τ d) sl),ops)∧Beside P gs' g w (t++ops) q'∧gs'.size=gs.size∧sumTo gs.size q'<sumTo gs.size q:=by
 have hq:=hb.old.old i x kg hi;have hi0:(i==0)=false:=by simp;omega
 have hlt:i<gs.size:=(ak.1 hi).1;cases YI:q i with
 |zero=>rw[YI] at hq;rw[hq.1] at hx;cases hx
 |succ k=>
  rw[YI] at hq;rcases hq with⟨hf,_⟩|⟨_,g',es,hm,YE,hq'⟩
  ·rw[hf] at hx;cases hx
  have jK:=Cr (P:=P) (sl:=sl) (i:=i) hi (by rw[hi0];exact YE (dr w τ d))
  have aeX:sumTo gs.size (upd q i k)+(k+1)=sumTo gs.size q+k:=by
   have:=sumTo_upd q k id hlt;simpa [YI] using this
  refine⟨_,_,upd q i k,jK,⟨?_,⟨fun j y hj hy=>?_,fun j hj=>?_⟩,hb.past.mute (by omega) hm⟩,by simp,by omega⟩
  ·have hne:i≠0:=by omega
   rw[aA hne,jX,hb.zero];simp[woken_run hrun]
  ·by_cases VM:i=j
   ·subst VM;rw[aZ (by simpa using hlt)] at hy;obtain rfl:=bf hy;rw[upd_same,Deaf_own];exact hq'
   ·rw[aA VM,jX] at hy;obtain⟨z,hz,rfl⟩:=eu.1 hy;have hqj:=hb.old.old j z hj hz;rw[woken_quitsD hqj,upd_ne q k (Ne.symm VM),Deaf_other t VM _ (fun op hop=>by obtain⟨e,_,rfl⟩:=A5 hop;rfl)];exact hqj
  ·rw[Deaf_other t (g':=i) (by simp at hj;omega) _ (fun op hop=>by obtain⟨e,_,rfl⟩:=A5 hop;rfl)];exact hb.old.above j (by simpa using hj)
theorem zG{gs:Array aB}{g:aB}{w:ar}{t:Trace}{q:Nat→Nat}(hb:Beside P gs g w t q)(hrun:g.status=.running):∀x∈gs,awake x:=by
 intro x hx;obtain⟨i,hi,rfl⟩:=Array.mem_iff_getElem.1 hx;rcases iJ i with rfl|kg
 ·have:gs[0]=g:=by simpa [aM hi] using hb.zero
  rw[this];exact awake_of (.inl hrun)
 ·exact awake_of ((hb.old.old i _ kg (aM hi)).status.elim .inl fun x=>.inr (.inr x))
theorem qs.aaU(hrun:g.status=.running)
  (h:∀(τ:Nat→dA→Nat) (d:Nat) (gs:Array aB) (sl:Option (Nat × Nat)),gs[0]?=some g→Idle gs→
   ∃g' w' k ops,runT P (qD gs (dr w τ d) sl) 0=(.next (qD (gs.setIfInBounds 0 g') (dr w' τ k) sl),ops)∧wP w'.heap.size ops∧w.heap.size≤w'.heap.size∧qs P Q g' w'):qs P Q g w:=by
 intro τ d gs sl t q hb;generalize hM:sumTo gs.size q=M
 induction M using Nat.strongRecOn generalizing d gs sl t q with
 |ind M ih=>
  obtain⟨i,x,d1,C5,hi,hx,hst⟩:=crowd_pick (P:=P) (w:=dr w τ d) (sl:=sl) (zG hb hrun) ⟨0,g,hb.zero,hrun⟩;have ew:(dr w τ d).at d1=dr w τ d1:=rfl;rw[ew] at hst;rcases iJ i with rfl|kg
  ·obtain⟨g',w',k,ops,hr,ho,hs,hk⟩:=h τ d1 gs C5 hb.zero (Io hb.old)
   have hb':Beside P (gs.setIfInBounds 0 g') g' w' (t++ops) q:=by
    have hlt:0<gs.size:=(ak.1 hb.zero).1;refine⟨by simp[hlt],⟨fun j y hj hy=>?_,fun j hj=>?_⟩,J2 hb.past hs ho⟩
    ·have hne:0≠j:=by omega
     rw[aA hne] at hy;rw[zk ho];exact hb.old.old j y hj hy
    ·rw[zk ho];exact hb.old.above j (by simpa using hj)
   obtain⟨N,Zu,g2,w2,d2,X4,t2,q2,hr2,hb2,ML⟩:=hk τ k (gs.setIfInBounds 0 g') C5 (t++ops) q hb';exact⟨N+1,Zu,g2,w2,d2,X4,t2,q2,by simp only[runNT,hst,hr];exact hr2,hb2,ML⟩
  ·obtain⟨gs',ops,q',hr,hb',hsz,hlt⟩:=slip hb hrun kg hi hx τ d1 C5;obtain⟨N,Zu,g2,w2,d2,X4,t2,q2,hr2,hb2,ML⟩:=ih (sumTo gs'.size q') (by rw[hsz,←hM];exact hlt) d1 gs' C5 (t++ops) q' hb' rfl;exact⟨N+1,Zu,g2,w2,d2,X4,t2,q2,by simp only[runNT,hst,hr];exact hr2,hb2,ML⟩
theorem Hr[uf](T:Quiet P){Stop:aB→ar→Prop}{g:aB}{W:ar}(h:Bar P Stop g W):zN g→dw W→∀w,jc W w→
  qs P (fun g' w'=>∃W',Stop g' W'∧jc W' w'∧zN g'∧dw W'∧W.heap.size≤W'.heap.size) g w:=by
 induction h with
 |stop hs=>exact fun hg cS w V=>.here ⟨_,hs,V,hg,cS,ax _⟩
 |@step g W live down ih=>
  intro hg cS w V;obtain⟨_,_,hl0⟩:=live W.tape fun _ _=>rfl;refine .aaU hl0.1 fun τ d gs sl h0 hi=>?_;let τ':Nat→dA→Nat:=fun p=>if p<W.drawn then W.tape p else τ (d+(p-W.drawn))
  have MQ:Ext W τ':=fun i hi=>by simp only[τ',if_pos hi]
  obtain⟨g',W',hl⟩:=live τ' MQ;obtain⟨E8,w',k,ops,hb,ho,hm⟩:=BD T (lw:=dr W τ' W.drawn) hg cS (w:=w) ⟨V.size,V.os,V.out,V.at_,V.old,V.kept⟩ hl
  have ha:Agree k (dr W τ' W.drawn).tape (dr W τ' W.drawn).drawn τ d:=fun i hi=>by
   simp only[yJ,pH,τ',if_neg (show ¬W.drawn+i<W.drawn by omega),Nat.add_sub_cancel_left]
  have hsz:w'.heap.size=W'.heap.size:=hb.sK.size.symm;have hgr:=hb.grows;simp only[ot] at hgr;refine⟨g',w',d+k,ops,hm τ d gs sl ha h0 hi,by rw[hsz];exact ho,by rw[hsz,←V.size];exact hgr,(ih τ' MQ g' W' hl E8 hb.ok w' hb.sK).mono ?_⟩;rintro g2 w2 ⟨W2,h1,h2,h3,h4,h5⟩;exact⟨W2,h1,h2,h3,h4,aN hgr h5⟩
end
end Go.Lag
namespace Go.Lag
open Go.Conc
open Go.ConcN (sumTo upd)
def iP(P:aI)(Q:aB→ar→Prop)(g:aB)(W:ar):Prop:=
 ∀K:uf,zN g→dw W→∀w,jc W w→qs P (fun g' w'=>∃W',Q g' W'∧jc W' w'∧zN g'∧dw W'∧W.heap.size≤W'.heap.size) g w
section
variable{P:aI}{Q Q':aB→ar→Prop}{g:aB}{W:ar}
theorem iP.here(h:Q g W):iP P Q g W:=fun K hg cS w V=>.here ⟨W,h,V,hg,cS,ax _⟩
theorem iP.bind(h:iP P Q g W)(k:∀g' W',W.heap.size≤W'.heap.size→Q g' W'→iP P Q' g' W'):iP P Q' g W:=fun K hg cS w V=>
 (h K hg cS w V).bind fun g' w' ⟨W',hq,V',E8,rr,hs⟩=>(k g' W' hs hq K E8 rr w' V').mono fun g2 w2 ⟨W2,h1,h2,h3,h4,h5⟩=>⟨W2,h1,h2,h3,h4,aN hs h5⟩
theorem iP.mono(h:iP P Q g W)(k:∀g' W',W.heap.size≤W'.heap.size→Q g' W'→Q' g' W'):iP P Q' g W:=h.bind fun g' W' hs hq=>.here (k g' W' hs hq)
theorem iP.PY(h:iP P Q g W)(τ:Nat→dA→Nat)(d:Nat):iP P Q g (dr W τ d):=fun K hg cS w V=>h K hg cS w ⟨V.size,V.os,V.out,V.at_,V.old,V.kept⟩
theorem iP.ofT{τ:Nat→dA→Nat}{d:Nat}(h:iP P Q g (dr W τ d)):iP P Q g W:=fun K hg cS w V=>h K hg cS w ⟨V.size,V.os,V.out,V.at_,V.old,V.kept⟩
theorem Dg(T:Quiet P)(hr:g.status=.running)(hd:g.dying=none)
  (H:∀τ,∃n g' W',runN P n (wy g (dr W τ 0))=.next (wy g' W')∧Q g' W'∧g'.status=.running∧g'.dying=none) :
  iP P (fun g' W'=>∃τ d,Q g' (dr W' τ d)) g W:=fun K hg cS w V=>by
 have hb:Bar P (fun g' W'=>(∃τ d,Q g' (dr W' τ d))∧g'.status=.running∧g'.dying=none) g (dr W W.tape 0):=by
  refine BZ T (fun g' W' τ d h=>⟨h.1,h.2⟩) (fun g' W' h=>h.2) hg cS hr hd fun τ _=>?_;obtain⟨n,g',W',h1,h2,h3,h4⟩:=H τ;exact⟨n,g',W',h1,⟨W'.tape,W'.drawn,h2⟩,h3,h4⟩
 refine(Hr T hb hg cS w ⟨V.size,V.os,V.out,V.at_,V.old,V.kept⟩).mono ?_;rintro g' w' ⟨W',⟨hq,_⟩,V',E8,rr,hs⟩;exact⟨W',hq,V',E8,rr,hs⟩
theorem Bo(T:Quiet P){fr:bL}{cs:List bL}{Q:bL→ar→Prop}
  (H:∀τ,∃fr' W',Steps P (lone fr cs (dr W τ 0)) (lone fr' cs W')∧Q fr' W') :
  iP P (fun g' W'=>∃fr' τ d,g'=G fr' cs∧Q fr' (dr W' τ d)) (G fr cs) W:=by
 refine(Dg T (Q:=fun g' W'=>∃fr',g'=G fr' cs∧Q fr' W') rfl rfl fun τ=>?_).mono fun g' W' _ ⟨τ,d,fr',h1,h2⟩=>⟨fr',τ,d,h1,h2⟩
 obtain⟨fr',W',⟨n,hn⟩,hq⟩:=H τ;exact⟨n,G fr' cs,W',hn,⟨fr',rfl,hq⟩,rfl,rfl⟩
def iQ(P:aI)(f:dR)(args:Array aj)(W:ar)(R:aj→ar→Prop):Prop:=
 ∀cs,iP P (fun g' W'=>∃fr v τ d,g'=G fr cs∧R v W'∧fr.fn=f∧fr.leaving P (dr W' τ d) (.returned v)) (G (dZ P f args .normal) cs) W
theorem iQ.mono{f:dR}{args:Array aj}{R R':aj→ar→Prop}(h:iQ P f args W R)(k:∀v W',W.heap.size≤W'.heap.size→R v W'→R' v W'):iQ P f args W R':=
 fun cs=>(h cs).mono fun g' W' hs ⟨fr,v,τ,d,h1,h2,h3,h4⟩=>⟨fr,v,τ,d,h1,k v W' hs h2,h3,h4⟩
theorem iQ.PY{f:dR}{args:Array aj}{R:aj→ar→Prop}(h:iQ P f args W R)(τ:Nat→dA→Nat)(d:Nat):iQ P f args (dr W τ d) R:=fun cs=>(h cs).PY τ d
theorem xe(T:Quiet P){g':aB}{τ:Nat→dA→Nat}{d:Nat}(h:rf P g (dr W τ d) g' (dr W τ d)):iP P (fun g2 W2=>g2=g'∧∃τ d,W2=dr W τ d) g W:=fun K hg cS w V=>by
 obtain⟨_,_,_,_,_,hloc⟩:=qM T hg (lw:=dr W τ d) cS h;simp only[pH,Nat.sub_self,Nat.add_zero] at hloc;have hs:=fun τ'=>hloc τ' 0 (fun i hi=>absurd hi (by omega));refine(Dg T (Q:=fun g2 W2=>g2=g'∧∃τ d,W2=dr W τ d) h.1 h.2.1 (fun τ'=>?_)).mono ?_ K hg cS w V
 ·obtain⟨_,_,⟨ops,e⟩,h3,h4⟩:=hs τ';refine⟨1,g',dr W τ' 0,?_,⟨rfl,τ',0,rfl⟩,h3,h4⟩;simp only[runN,m8];have e':stepT P (wy g (dr W τ' 0))=(.next (wy g' (dr W τ' 0)),ops):=e;rw[e']
 ·rintro g2 W2 _ ⟨τ1,d1,h1,τ2,d2,h2⟩;have h3:=congrArg (fun x=>dr x W2.tape W2.drawn) h2;exact⟨h1,W2.tape,W2.drawn,h3⟩
theorem rp{fr fr':bL}{cs cs':List bL}{w w':ar}(h:m8 P (lone fr cs w)=.next (lone fr' cs' w')):rf P (G fr cs) w (G fr' cs') w':=by
 refine⟨rfl,rfl,?_,rfl,rfl⟩;have h':(stepT P (wy (G fr cs) w)).1=.next (wy (G fr' cs') w'):=h
 exact⟨_,Prod.ext h' rfl⟩
theorem Hq(T:Quiet P){fr c:bL}{cs:List bL}{v:aj}{τ:Nat→dA→Nat}{d:Nat}(h:fr.leaving P (dr W τ d) (.returned v)) :
  iP P (fun g' W'=>g'=G (c.finish v) cs∧∃τ d,W'=dr W τ d) (G fr (c::cs)) W:=
 xe T (rp (step_leave_returned h))
theorem Em[K:uf](T:Quiet P){f:dR}{args:Array aj}{R:aj→ar→Prop}(hi:P.inits.idxOf? f=none)(h:iQ P f args W R)(hW:dw W){w:ar}(V:jc W w) :
  ∃N last o w' t',runNT P (N+1) (wy (G (dZ P f args .normal) []) w) #[]=(.ended o w',t')∧runN P N (wy (G (dZ P f args .normal) []) w)=.next last∧
   m8 P last=.ended o w'∧Conc.Good P (fun v w'=>∃W',R v W'∧jc W' w'∧dw W'∧W.heap.size≤W'.heap.size) last o w' t':=by
 have hg0:zN (G (dZ P f args .normal) []):=⟨nW T f args .normal,by simp[G],.inl rfl⟩
 have hb0:Beside P #[G (dZ P f args .normal) []] (G (dZ P f args .normal) []) w #[] (fun _=>0):=
  ⟨rfl,leavers_one P _,past_nil.mono (by omega)⟩
 obtain⟨N,gs1,g1,w1,d1,C5,t1,q1,hr1,hb1,W1,⟨fr,v,τ1,d2,rfl,hv,hfn,hl⟩,V1,hg1,Ch,hs1⟩:=h [] K hg0 hW w V w.tape w.drawn _ none _ _ hb0
 have last:∀τ d,∃w2 es,stepG P true (G fr []) (dr w1 τ d)=.ended (.done v) (dr w2 τ d) es∧jc W1 w2∧∀e∈es,AV w1.heap.size e:=by
  obtain⟨hm,MU,hk,fn,hf,hres⟩:=hl;have hrun:((results fn fr.tmps).runT P (dr W1 τ1 d2) #[]).1=.ok v (dr W1 τ1 d2):=by rw[Sem.runT_eq];exact hres
  rcases vM (zv (P:=P) fn fr.tmps) (lw:=dr W1 τ1 d2) (w:=w1) Ch ⟨V1.size,V1.os,V1.out,V1.at_,V1.old,V1.kept⟩ with⟨why,ek,hx⟩|⟨ek,w2,k,r,new,hx⟩
  ·obtain⟨es',he⟩:=hx #[];rw[he] at hrun;cases hrun
  ·have h1:=hx.lone #[];rw[h1] at hrun;cases r with
   |error e=>cases hrun
   |ok v'=>
    simp only[Ac] at hrun;injection hrun with hv' hw'
    subst hv'
    have hk0:k=0:=by
     have:=hx.drawn;rw[hw'] at this;simp only[pH] at this;omega
    subst hk0;intro τ d;have h2:=hx.many τ d (fun i hi=>absurd hi (by omega)) #[];rw[Nat.add_zero,eL] at h2;refine⟨w2,seen P fr.fn new++#[],?_,?_,fun e he=>?_⟩
    ·obtain⟨fnn,tmps,todo,defers,mode,kind,ro⟩:=fr;simp only at hm MU hk hf h2 hfn;subst hm MU hk hfn;unfold stepG G;simp only;unfold unwind;simp only[hf,h2,Ac];unfold doReturn;simp only[hi];rfl
    ·have:=hx.sK;rw[hw'] at this;exact⟨this.size,this.os,this.out,this.at_,this.old,this.kept⟩
    ·have:=hx.evs e (fB e he);rw[hw'] at this;simp only[ot] at this;rw[←V1.size];exact this
 have fin:∀M (gs:Array aB) (d:Nat) (sl:Option (Nat × Nat)) (t:Trace) (q:Nat→Nat),sumTo gs.size q=M→Beside P gs (G fr []) w1 t q→
   ∃N last o w' t',runNT P (N+1) (qD gs (dr w1 w.tape d) sl) t=(.ended o w',t')∧runN P N (qD gs (dr w1 w.tape d) sl)=.next last∧m8 P last=.ended o w'∧
    Conc.Good P (fun v w'=>∃W',R v W'∧jc W' w'∧dw W'∧W.heap.size≤W'.heap.size) last o w' t':=by
  intro M
  induction M using Nat.strongRecOn with
  |ind M ih=>
   intro gs d sl t q hM hb;obtain⟨i,x,d1,C5,hi',hx,hst⟩:=crowd_pick (P:=P) (w:=dr w1 w.tape d) (sl:=sl) (zG hb rfl) ⟨0,_,hb.zero,rfl⟩;have ew:(dr w1 w.tape d).at d1=dr w1 w.tape d1:=rfl;rw[ew] at hst;rcases iJ i with rfl|kg
   ·obtain⟨w2,es,hend,hV2,hes⟩:=last w.tape d1;have jK:=runT_many_ended (P:=P) (sl:=C5) (i:=0) hb.zero hend;have Fx:=sT hes fr.fn fr.place;have hP:=J2 hb.past (ax _) Fx;refine⟨0,qD gs (dr w1 w.tape d) sl,.done v,dr w2 w.tape d1,_,by simp only[runNT,hst,jK];rfl,rfl,by simp only[m8,hst,jK],v,rfl,⟨W1,hv,⟨hV2.size,hV2.os,hV2.out,hV2.at_,hV2.old,hV2.kept⟩,Ch,hs1⟩,hP.clean,hP.over,⟨fun y hy=>?_,rfl⟩,fun j y hy hj=>?_⟩
    ·obtain⟨j,hj⟩:=List.mem_iff_getElem?.1 hy;rw[List.getElem?_drop] at hj;exact⟨_,(hb.old.old (1+j) y (by omega) (by simpa [qD] using hj)).leaves⟩
    ·have hq:=hb.old.old j y (by omega) hy;refine⟨q j,?_⟩;have e:(t++ic 0 fr.fn fr.place es).deaf j (t++ic 0 fr.fn fr.place es).size=Deaf t j:=zk Fx t j;rw[e];exact hq.hears _
   ·obtain⟨gs',ops,q',hr,hb',hsz,hlt⟩:=slip hb rfl kg hi' hx w.tape d1 C5;obtain⟨N,last,o,w',t',h1,h2,h3,h4⟩:=ih (sumTo gs'.size q') (by rw[hsz,←hM];exact hlt) gs' d1 C5 (t++ops) q' rfl hb';exact⟨N+1,last,o,w',t',by rw[runNT_succ_next (by rw[hst,hr])];exact h1,by rw[runN_succ_next (by rw[hst,hr])];exact h2,h3,h4⟩
 obtain⟨M,last,o,w',t',h1,h2,h3,h4⟩:=fin _ gs1 d1 C5 t1 q1 rfl hb1;have e0:wy (G (dZ P f args .normal) []) w=qD #[G (dZ P f args .normal) []] (dr w w.tape w.drawn) none:=rfl;refine⟨N+M,last,o,w',t',?_,?_,h3,h4⟩
 ·rw[e0,show N+M+1=N+(M+1) by omega,runNT_add P N (M+1) _ _ _ _ hr1];exact h1
 ·rw[e0,←runNT_fst P (N+M) _ #[],runNT_add P N M _ _ _ _ hr1,runNT_fst];exact h2
theorem BL[K:uf](w:ar)(hκ:∀b x,K.κ b=some x→b<w.heap.size∧∀o,w.heap[b]?=some o→fL o=false→o=x):∃W,jc W w∧dw W∧W.tape=w.tape∧W.drawn=w.drawn∧∀(b:Nat) (o:Obj),w.heap[b]?=some o→fL o=true→W.heap[b]?=some o:=by
 refine⟨{ w with heap:=w.heap.map fun o=>if fL o then o else .coro none },⟨by simp,rfl,rfl,fun b=>?_,fun b x h=>by simpa using (hκ b x h).1,fun b x h h1=>?_⟩,fun b o ho=>?_,rfl,rfl,fun b o ho hk=>?_⟩
 ·simp only[jX];cases h:w.heap[b]? with
  |none=>exact .inl rfl
  |some o=>
   simp only[dH]
   by_cases hk:fL o=true
   ·rw[if_pos hk];exact .inl rfl
   ·exact .inr ⟨by rw[if_neg hk],o,rfl,by simpa using hk⟩
 ·obtain⟨h2,h3⟩:=hκ b x h;simp only[jX,aM h2,dH,Option.some.injEq] at h1;rw[aM h2]
  by_cases hk:fL w.heap[b]=true
  ·rw[if_pos hk] at h1;rw[h1] at hk;cases hk
  ·rw[h3 _ (aM h2) (by simpa using hk)]
 ·simp only[jX] at ho;obtain⟨x,hx,rfl⟩:=eu.1 ho
  by_cases hk:fL x=true
  ·rw[if_pos hk];exact .inl hk
  ·rw[if_neg hk];exact .inr rfl
 ·simp only[jX,ho,dH,hk,if_true]
end
end Go.Lag
namespace Go.Lag
open Go.Conc
abbrev Rn:=Nat→Option Nat
def Rn.le(ρ ρ':Rn):Prop:=∀b c,ρ b=some c→ρ' b=some c
theorem Rn.le_refl(ρ:Rn):Rn.le ρ ρ:=fun _ _ h=>h
theorem Rn.le_trans{ρ ρ' ρ'':Rn}(h:Rn.le ρ ρ')(h':Rn.le ρ' ρ''):Rn.le ρ ρ'':=fun b c e=>h' b c (h b c e)
structure AR(ρ:Rn)(a a':cU):Prop where
 block:ρ a.block=some a'.block
 off:a'.off=a.off
 spot:a'.spot=a.spot
theorem AR.mono{ρ ρ':Rn}{a a':cU}(h:AR ρ a a')(hl:Rn.le ρ ρ'):AR ρ' a a':=⟨hl _ _ h.block,h.off,h.spot⟩
theorem AR.add{ρ:Rn}{a a':cU}(h:AR ρ a a')(n:Nat):AR ρ (a.add n) (a'.add n):=by
 unfold Addr.add;split
 ·exact h
 ·exact⟨h.block,by simp[h.off],rfl⟩
theorem AR.at{ρ:Rn}{a a':cU}(h:AR ρ a a')(off:Nat):AR ρ { a with off } { a' with off }:=⟨h.block,rfl,h.spot⟩
inductive VR(F:Nat→Bool)(ρ:Rn):aj→aj→Prop
 |bool (b:Bool):VR F ρ (.bool b) (.bool b)
 |int (k:IntKind) (n:Int):VR F ρ (.int k n) (.int k n)
 |string (s:ByteArray):VR F ρ (.string s) (.string s)
 |Cb:VR F ρ (.pointer none) (.pointer none)
 |ptr {a a':cU}:AR ρ a a'→VR F ρ (.pointer (some a)) (.pointer (some a'))
 |DJ (l c:Nat):VR F ρ (.slice none l c) (.slice none l c)
 |slice {a a':cU} (l c:Nat):AR ρ a a'→VR F ρ (.slice (some a) l c) (.slice (some a') l c)
 |Vk:VR F ρ (.map none) (.map none)
 |map {r r':Nat}:ρ r=some r'→VR F ρ (.map (some r)) (.map (some r'))
 |chan (r:Option Nat):VR F ρ (.chan r) (.chan r)
 |func {f:dR} {fs fs' cs cs':Array aj}:F f=true→fs.size=fs'.size→(∀(i:Nat) (x y:aj),fs[i]?=some x→fs'[i]?=some y→VR F ρ x y)→
   cs.size=cs'.size→(∀(i:Nat) (x y:aj),cs[i]?=some x→cs'[i]?=some y→VR F ρ x y)→VR F ρ (.func (.func f) fs cs) (.func (.func f) fs' cs')
 |Vl:VR F ρ .nilFunc .nilFunc
 |agg {cs cs':Array aj}:cs.size=cs'.size→(∀(i:Nat) (x y:aj),cs[i]?=some x→cs'[i]?=some y→VR F ρ x y)→VR F ρ (.agg cs) (.agg cs')
 |tuple {cs cs':Array aj}:cs.size=cs'.size→(∀(i:Nat) (x y:aj),cs[i]?=some x→cs'[i]?=some y→VR F ρ x y)→VR F ρ (.tuple cs) (.tuple cs')
structure iu(F:Nat→Bool)(ρ:Rn)(cs cs':Array aj):Prop where
 size:cs.size=cs'.size
 at_:∀(i:Nat) (x y:aj),cs[i]?=some x→cs'[i]?=some y→VR F ρ x y
section
variable{F:Nat→Bool}{ρ ρ':Rn}
theorem VR.mono{v v':aj}(h:VR F ρ v v')(hl:Rn.le ρ ρ'):VR F ρ' v v':=by
 induction h with
 |bool b=>exact .bool b
 |int k n=>exact .int k n
 |string s=>exact .string s
 |Cb=>exact .Cb
 |ptr h=>exact .ptr (h.mono hl)
 |DJ l c=>exact .DJ l c
 |slice l c h=>exact .slice l c (h.mono hl)
 |Vk=>exact .Vk
 |map h=>exact .map (hl _ _ h)
 |chan r=>exact .chan r
 |func hf h1 h2 h3 h4 Ux Yy=>exact .func hf h1 Ux h3 Yy
 |Vl=>exact .Vl
 |agg h1 h2 ih=>exact .agg h1 ih
 |tuple h1 h2 ih=>exact .tuple h1 ih
theorem iu.mono{cs cs':Array aj}(h:iu F ρ cs cs')(hl:Rn.le ρ ρ'):iu F ρ' cs cs':=⟨h.size,fun i x y h1 h2=>(h.at_ i x y h1 h2).mono hl⟩
theorem iu.agg{cs cs':Array aj}(h:iu F ρ cs cs'):VR F ρ (.agg cs) (.agg cs'):=.agg h.size h.at_
theorem iu.tuple{cs cs':Array aj}(h:iu F ρ cs cs'):VR F ρ (.tuple cs) (.tuple cs'):=.tuple h.size h.at_
theorem iu.get{cs cs':Array aj}(h:iu F ρ cs cs'){i:Nat}{x:aj}(hx:cs[i]?=some x):∃y,cs'[i]?=some y∧VR F ρ x y:=by
 have hi:i<cs.size:=(ak.1 hx).1;have hi':i<cs'.size:=h.size▸hi;exact⟨cs'[i],aM hi',h.at_ i x _ hx (aM hi')⟩
theorem iu.none{cs cs':Array aj}(h:iu F ρ cs cs'){i:Nat}(hx:cs[i]?=none):cs'[i]?=none:=by
 rw[Array.getElem?_eq_none_iff] at hx ⊢;rw[←h.size];exact hx
theorem iu.nil:iu F ρ #[] #[]:=⟨rfl,fun i x y h=>by simp at h⟩
theorem iu.of{n:Nat}{f g:Nat→aj}(h:∀i,i<n→VR F ρ (f i) (g i)):iu F ρ (Array.ofFn (n:=n) fun i=>f i) (Array.ofFn (n:=n) fun i=>g i):=by
 refine⟨by simp,fun i x y h1 h2=>?_⟩;simp only[Array.getElem?_ofFn] at h1 h2;split at h1
 ·rename_i hi;simp only[hi,dif_pos] at h2;cases h1;cases h2;exact h i hi
 ·cases h1
theorem iu.append{a a' b b':Array aj}(h:iu F ρ a a')(h':iu F ρ b b'):iu F ρ (a++b) (a'++b'):=by
 refine⟨by simp[h.size,h'.size],fun i x y h1 h2=>?_⟩;rw[Array.getElem?_append] at h1 h2;rw[←h.size] at h2;split at h1
 ·rename_i hi;simp only[hi,if_true] at h2;exact h.at_ _ _ _ h1 h2
 ·rename_i hi;simp only[hi,if_false] at h2;exact h'.at_ _ _ _ h1 h2
theorem iu.push{a a':Array aj}{v v':aj}(h:iu F ρ a a')(h':VR F ρ v v'):iu F ρ (a.push v) (a'.push v'):=by
 refine⟨by simp[h.size],fun i x y h1 h2=>?_⟩;rw[kN] at h1 h2;rw[←h.size] at h2;split at h1
 ·rename_i hi;simp only[hi,if_true] at h2;cases h1;cases h2;exact h'
 ·rename_i hi;simp only[hi,if_false] at h2;exact h.at_ _ _ _ h1 h2
theorem iu.one{v v':aj}(h:VR F ρ v v'):iu F ρ #[v] #[v']:=iu.nil.push h
theorem iu.extract{a a':Array aj}(h:iu F ρ a a')(i j:Nat):iu F ρ (a.extract i j) (a'.extract i j):=by
 refine⟨by simp[h.size],fun k x y h1 h2=>?_⟩;rw[Array.getElem?_extract] at h1 h2;rw[←h.size] at h2;split at h1
 ·rename_i hi;simp only[hi,if_true] at h2;exact h.at_ _ _ _ h1 h2
 ·cases h1
theorem iu.set{a a':Array aj}{v v':aj}(h:iu F ρ a a')(h':VR F ρ v v')(i:Nat):iu F ρ (a.setIfInBounds i v) (a'.setIfInBounds i v'):=by
 refine⟨by simp[h.size],fun k x y h1 h2=>?_⟩;rw[bw] at h1 h2;split at h1
 ·rename_i hi;simp only[hi,if_true] at h2;split at h1
  ·rename_i hl;rw[if_pos (by rw[←h.size];omega)] at h2;cases h1;cases h2;exact h'
  ·cases h1
 ·rename_i hi;simp only[hi,if_false] at h2;exact h.at_ _ _ _ h1 h2
theorem iu.replicate{v v':aj}(h:VR F ρ v v')(n:Nat):iu F ρ (aT n v) (aT n v'):=by
 refine⟨by simp,fun k x y h1 h2=>?_⟩;rw[Array.getElem?_replicate] at h1 h2
 by_cases hi:k<n
 ·rw[if_pos hi] at h1 h2;cases h1;cases h2;exact h
 ·rw[if_neg hi] at h1;cases h1
theorem iu.getD{a a':Array aj}{v v':aj}(h:iu F ρ a a')(h':VR F ρ v v')(i:Nat):VR F ρ (a.getD i v) (a'.getD i v'):=by
 rw[aV,aV];cases hx:a[i]? with
 |none=>rw[h.none hx];exact h'
 |some x=>
  obtain⟨y,hy,hv⟩:=h.get hx;rw[hy];exact hv
theorem iu.map{α:Type}{l:Array α}{f g:α→aj}(h:∀x∈l,VR F ρ (f x) (g x)):iu F ρ (l.map f) (l.map g):=by
 refine⟨by simp,fun k x y h1 h2=>?_⟩;simp only[jX] at h1 h2;cases hk:l[k]? with
 |none=>rw[hk] at h1;cases h1
 |some z=>
  rw[hk] at h1 h2;cases h1;cases h2;exact h z (eH hk)
theorem sM:VR F ρ undef undef:=iu.nil.tuple
theorem VR.cells{v v':aj}(h:VR F ρ v v'):iu F ρ v.cells v'.cells:=by
 cases h with
 |agg h1 h2=>exact⟨h1,h2⟩
 |bool b=>exact .one (.bool b)
 |int k n=>exact .one (.int k n)
 |string s=>exact .one (.string s)
 |Cb=>exact .one .Cb
 |ptr h=>exact .one (.ptr h)
 |DJ l c=>exact .one (.DJ l c)
 |slice l c h=>exact .one (.slice l c h)
 |Vk=>exact .one .Vk
 |map h=>exact .one (.map h)
 |chan r=>exact .one (.chan r)
 |func hf h1 h2 h3 h4=>exact .one (.func hf h1 h2 h3 h4)
 |Vl=>exact .one .Vl
 |tuple h1 h2=>exact .one (.tuple h1 h2)
def ze:aj→Bool
 |.bool _|.int ..|.string _|.pointer none|.slice none _ _|.map none|.chan _|.nilFunc=>true
 |_=>false
def Ej:aj→Bool
 |.agg cs=>cs.all ze
 |.tuple cs=>cs.all ze
 |v=>ze v
theorem KM{v:aj}(h:ze v=true):VR F ρ v v:=by
 unfold ze at h;split at h
 all_goals first|cases h;done|constructor
theorem XC{cs:Array aj}(h:cs.all ze=true):iu F ρ cs cs:=⟨rfl,fun i x y h1 h2=>by
 rw[h1] at h2;cases h2
 exact KM (jY.1 h x (eH h1))⟩
theorem za{v:aj}(h:Ej v=true):VR F ρ v v:=by
 unfold Ej at h;split at h
 ·exact(XC h).agg
 ·exact(XC h).tuple
 ·exact KM h
end
structure MER(F:Nat→Bool)(ρ:Rn)(x y:tM):Prop where
 key:VR F ρ x.key y.key
 val:VR F ρ x.val y.val
 born:x.born=y.born
inductive OR(F:Nat→Bool)(ρ:Rn):Obj→Obj→Prop
 |cells {cs cs':Array aj} {e:aX} {z z':Nat × Nat}:iu F ρ cs cs'→(∀i,z'.1≤i→i<z'.2→z.1≤i∧i<z.2)→OR F ρ (.cells cs e z) (.cells cs' e z')
 |map {es es':Array tM} {k:Nat}:es.size=es'.size→(∀(i:Nat) (x y:tM),es[i]?=some x→es'[i]?=some y→MER F ρ x y)→OR F ρ (.map es k) (.map es' k)
 |number {a a':cU} (l:Bool):AR ρ a a'→OR F ρ (.number a l) (.number a' l)
theorem OR.H6{F:Nat→Bool}{ρ:Rn}{o o':Obj}(h:OR F ρ o o'):o.isChan=false:=by cases h<;>rfl
theorem OR.mono{F:Nat→Bool}{ρ ρ':Rn}{o o':Obj}(h:OR F ρ o o')(hl:Rn.le ρ ρ'):OR F ρ' o o':=by
 cases h with
 |cells h1 h2=>exact .cells (h1.mono hl) h2
 |map h1 h2=>exact .map h1 fun i x y a b=>⟨(h2 i x y a b).key.mono hl,(h2 i x y a b).val.mono hl,(h2 i x y a b).born⟩
 |number l h=>exact .number l (h.mono hl)
structure WR(F:Nat→Bool)(G:Nat)(B:Nat→Prop)(ρ:Rn)(lw w:ar):Prop where
 inj:∀a b c,ρ a=some c→ρ b=some c→a=b
 low:∀b c,ρ b=some c→G≤b∧G≤c
 base:∀b,B b→b<lw.heap.size
 at_:∀b c,ρ b=some c→∃o o',lw.heap[b]?=some o∧w.heap[c]?=some o'∧OR F ρ o o'∧(B b→∃cs e n,o=.cells cs e (0,n)∧cs.size≤n)
 H6:∀(b:Nat) (o:Obj),lw.heap[b]?=some o→o.isChan=false
def E3:Halt→Prop
 |.panic _|.stuck _=>True
 |.unsupported (.initOrder _)=>False
 |.unsupported _=>True
 |_=>False
section
variable{F:Nat→Bool}{G:Nat}{B:Nat→Prop}{ρ:Rn}{lw w:ar}
theorem WR.cell(h:WR F G B ρ lw w){a a':cU}(ha:AR ρ a a'){v:aj}(hv:lw.cell? a=some v):∃v',w.cell? a'=some v'∧VR F ρ v v':=by
 obtain⟨o,o',h1,h2,h3,_⟩:=h.at_ _ _ ha.block;unfold World.cell? at hv ⊢;rw[h1] at hv;rw[h2];cases h3 with
 |map _ _=>cases hv
 |number _ _=>cases hv
 |cells hc hz=>
  simp only at hv ⊢;rw[ha.spot,ha.off];split at hv
  ·cases hv
  ·rename_i hs;rw[if_neg hs];exact hc.get hv
theorem WR.noCell(h:WR F G B ρ lw w){P:aI}{a a':cU}(ha:AR ρ a a')(hv:lw.cell? a=none){b:Bool}:∃e,lw.farLoad P a b=.error e∧E3 e:=by
 obtain⟨o,o',h1,h2,h3,_⟩:=h.at_ _ _ ha.block;unfold World.farLoad World.noCell;rw[h1];cases h3 with
 |map _ _=>exact⟨_,rfl,trivial⟩
 |number _ _=>exact⟨_,rfl,trivial⟩
 |cells hc hz=>exact⟨_,rfl,trivial⟩
theorem WR.Vj(h:WR F G B ρ lw w){P:aI}{a a':cU}(ha:AR ρ a a')(hv:lw.cell? a=none){b:Bool}{v:aj}:∃e,lw.farStore P a v b=.error e∧E3 e:=by
 obtain⟨o,o',h1,h2,h3,_⟩:=h.at_ _ _ ha.block;unfold World.farStore World.noCell;rw[h1];cases h3 with
 |map _ _=>exact⟨_,rfl,trivial⟩
 |number _ _=>exact⟨_,rfl,trivial⟩
 |cells hc hz=>exact⟨_,rfl,trivial⟩
theorem WR.shape(h:WR F G B ρ lw w){r r':Nat}(hr:ρ r=some r'):w.shape? r'=lw.shape? r:=by
 obtain⟨o,o',h1,h2,h3,_⟩:=h.at_ _ _ hr;unfold World.shape?;rw[h1,h2];cases h3 with
 |map _ _=>rfl
 |number _ _=>rfl
 |cells hc hz=>simp[hc.size]
theorem WR.tape(h:WR F G B ρ lw w)(τ τ':Nat→dA→Nat)(d d':Nat):WR F G B ρ (dr lw τ d) (dr w τ' d'):=⟨h.inj,h.low,h.base,h.at_,h.H6⟩
theorem WR.turn(h:WR F G B ρ lw w){b c:Nat}(hb:ρ b=some c)(hB:¬B b){o o':Obj}(ho:OR F ρ o o'){ek w':ar}(h1:ek.heap=lw.heap.setIfInBounds b o)(h2:w'.heap=w.heap.setIfInBounds c o'):WR F G B ρ ek w':=by
 refine⟨h.inj,h.low,fun x hx=>by rw[h1];simpa using h.base x hx,fun x y hx=>?_,fun x y hx=>?_⟩
 rotate_left
 ·rw[h1] at hx
  by_cases hxb:b=x
  ·subst hxb;rcases Nat.lt_or_ge b lw.heap.size with hl|hl
   ·rw[aZ hl] at hx;cases hx;exact ho.H6
   ·rw[Array.getElem?_eq_none (by simpa using hl)] at hx;cases hx
  ·rw[aA hxb] at hx;exact h.H6 _ _ hx
 rw[h1,h2];obtain⟨p,p',e1,e2,e3,e4⟩:=h.at_ x y hx
 by_cases hxb:b=x
 ·subst hxb;have:c=y:=by rw[hb] at hx;exact bf hx
  subst this;refine⟨o,o',?_,?_,ho,fun hlt=>absurd hlt hB⟩
  ·rw[aZ (ey e1)]
  ·rw[aZ (ey e2)]
 ·have hyc:c≠y:=fun hc=>hxb (h.inj b x c hb (hc▸hx));rw[aA hxb,aA hyc];exact⟨p,p',e1,e2,e3,e4⟩
theorem yo{w:ar}{a:cU}{v:aj}{cs:Array aj}{e:aX}{z:Nat × Nat}(h:w.heap[a.block]?=some (.cells cs e z)) :
  (w.setCell a v).heap=w.heap.setIfInBounds a.block (.cells (if a.spot.isSome then cs else cs.setIfInBounds a.off v) e z):=by
 apply Array.ext_getElem?;intro j;simp only[j4];rw[oY,bw];split
 ·rename_i UC;subst UC;rw[h,if_pos (ey h)];rfl
 ·rfl
theorem WR.setCell(h:WR F G B ρ lw w){a a':cU}(ha:AR ρ a a'){v v' x:aj}(hv:VR F ρ v v')(hc:lw.cell? a=some x)(hz:lw.frozen? a=false) :
  ¬B a.block∧w.frozen? a'=false∧WR F G B ρ (lw.setCell a v) (w.setCell a' v'):=by
 obtain⟨o,o',h1,h2,h3,h4⟩:=h.at_ _ _ ha.block;unfold World.cell? at hc;unfold World.frozen? at hz ⊢;rw[h1] at hc hz;rw[h2];cases h3 with
 |map _ _=>cases hc
 |number _ _=>cases hc
 |@cells cs cs' e z z' hcs hfz=>
  simp only at hc hz ⊢
  have afe:cs[a.off]?=some x:=by
   split at hc
   ·cases hc
   ·exact hc
  have hB:¬B a.block:=by
   intro hlt;obtain⟨cs1,e1,n,he,hn⟩:=h4 hlt;injection he with he1 he2 he3
   subst he1;subst he3;have:=(ak.1 afe).1;have h5:a.off<n:=by omega
   simp[h5] at hz
  refine⟨hB,?_,?_⟩
  ·rw[ha.off];cases hcc:(decide (z'.1≤a.off)&&decide (a.off<z'.2)) with
   |false=>rfl
   |true=>
    simp only[aC,decide_eq_true_eq] at hcc;have:=hfz _ hcc.1 hcc.2;simp[this] at hz
  ·refine h.turn ha.block hB (o:=.cells (if a.spot.isSome then cs else cs.setIfInBounds a.off v) e z) (o':=.cells (if a'.spot.isSome then cs' else cs'.setIfInBounds a'.off v') e z') ?_ (yo h1) (yo h2);rw[ha.spot,ha.off];split
   ·exact .cells hcs hfz
   ·exact .cells (hcs.set hv _) hfz
def Rn.with(ρ:Rn)(b c:Nat):Rn:=fun x=>if x=b then some c else ρ x
theorem Rn.Om{ρ:Rn}{b c:Nat}(h:ρ b=none):Rn.le ρ (ρ.with b c):=fun x y hx=>by
 unfold Rn.with
 split
 ·rename_i he;subst he;rw[h] at hx;cases hx
 ·exact hx
theorem Rn.zT{ρ:Rn}{b c:Nat}:ρ.with b c b=some c:=by simp[Rn.with]
theorem WR.fresh(h:WR F G B ρ lw w):ρ lw.heap.size=none:=by
 cases e:ρ lw.heap.size with
 |none=>rfl
 |some c=>
  obtain⟨o,_,h1,_⟩:=h.at_ _ _ e;have:=ey h1;omega
theorem WR.new(h:WR F G B ρ lw w)(hG:G≤lw.heap.size)(CN:G≤w.heap.size){o o':Obj}(ho:OR F ρ o o') :
  WR F G B (ρ.with lw.heap.size w.heap.size) { lw with heap:=lw.heap.push o } { w with heap:=w.heap.push o' }:=by
 have hle:=Rn.Om (c:=w.heap.size) h.fresh;refine⟨fun a b c ha hb=>?_,fun b c hb=>?_,fun b hb=>by have:=h.base b hb;simp;omega,fun b c hb=>?_,fun b x hx=>?_⟩
 ·unfold Rn.with at ha hb
  have lt:∀x,ρ x=some w.heap.size→False:=fun x hx=>by
   obtain⟨_,_,_,h2,_⟩:=h.at_ _ _ hx;have:=ey h2;omega
  split at ha
  ·split at hb
   ·rename_i h1 h2;rw[h1,h2]
   ·cases ha;exact(lt _ hb).elim
  ·split at hb
   ·cases hb;exact(lt _ ha).elim
   ·exact h.inj _ _ _ ha hb
 ·unfold Rn.with at hb
  split at hb
  ·rename_i he;cases hb;rw[he];exact⟨hG,CN⟩
  ·exact h.low _ _ hb
 ·by_cases he:b=lw.heap.size
  ·subst he;rw[Rn.zT] at hb;cases hb;refine⟨o,o',by simp,by simp,ho.mono hle,fun hlt=>absurd (h.base _ hlt) (by omega)⟩
  ·unfold Rn.with at hb
   simp only[he,if_false] at hb;obtain⟨p,p',e1,e2,e3,e4⟩:=h.at_ _ _ hb;refine⟨p,p',?_,?_,e3.mono hle,e4⟩
   ·simp only;rw[Array.getElem?_push_lt (ey e1)];rw[←e1];exact(aM (ey e1)).symm
   ·simp only;rw[Array.getElem?_push_lt (ey e2)];rw[←e2];exact(aM (ey e2)).symm
 ·simp only at hx;rw[kN] at hx;split at hx
  ·cases hx;exact ho.H6
  ·exact h.H6 _ _ hx
end
def qu(P:aI){α:Type}(s:gZ α):Prop:=∀w es,∃h w' es',s.runT P w es=(.halt h w',es')∧E3 h
inductive bP(P:aI)(F:Nat→Bool){α β:Type}(A:Rn→α→β→Prop):Rn→gZ α→gZ β→Prop
 |pure {ρ:Rn} {a:α} {b:β}:A ρ a b→bP P F A ρ (.pure a) (.pure b)
 |dead {ρ:Rn} {s:gZ α} {s':gZ β}:qu P s→bP P F A ρ s s'
 |load {ρ:Rn} {a a':cU} {k:aj→gZ α} {k':aj→gZ β}:AR ρ a a'→(∀v v',VR F ρ v v'→bP P F A ρ (k v) (k' v'))→bP P F A ρ (.load .plain a k) (.load .plain a' k')
 |store {ρ:Rn} {a a':cU} {v v':aj} {k:gZ α} {k':gZ β}:AR ρ a a'→VR F ρ v v'→bP P F A ρ k k'→bP P F A ρ (.store .plain a v k) (.store .plain a' v' k')
 |new {ρ:Rn} {o o':Obj} {k:Nat→gZ α} {k':Nat→gZ β}:OR F ρ o o'→(∀ρ' r r',Rn.le ρ ρ'→ρ' r=some r'→bP P F A ρ' (k r) (k' r'))→bP P F A ρ (.new o k) (.new o' k')
 |shape {ρ:Rn} {r r':Nat} {k:Option (aX × Nat)→gZ α} {k':Option (aX × Nat)→gZ β}:ρ r=some r'→(∀s,bP P F A ρ (k s) (k' s))→bP P F A ρ (.shape r k) (.shape r' k')
 |getObj {ρ:Rn} {r r':Nat} {k:Obj→gZ α} {k':Obj→gZ β}:ρ r=some r'→(∀o o',OR F ρ o o'→bP P F A ρ (k o) (k' o'))→bP P F A ρ (.getObj r k) (.getObj r' k')
 |setObj {ρ:Rn} {r r':Nat} {o o':Obj} {k:gZ α} {k':gZ β}:ρ r=some r'→OR F ρ o o'→bP P F A ρ k k'→bP P F A ρ (.setObj r o k) (.setObj r' o' k')
 |choose {ρ:Rn} {q:dA} {k:Nat→gZ α} {k':Nat→gZ β}:(∀n,bP P F A ρ (k n) (k' n))→bP P F A ρ (.choose q k) (.choose q k')
 |program {ρ:Rn} {k:aI→gZ α} {k':aI→gZ β}:bP P F A ρ (k P) (k' P)→bP P F A ρ (.program k) (.program k')
 |noRoom {ρ:Rn} {k:gZ α} {k':gZ β}:bP P F A ρ k k'→bP P F A ρ (.mark .noRoom k) (.mark .noRoom k')
section
variable{P:aI}{F:Nat→Bool}{α β γ δ:Type}{A:Rn→α→β→Prop}{A':Rn→γ→δ→Prop}{ρ:Rn}
theorem qU{h:Halt}(hh:E3 h):qu P (.halt h:gZ α):=fun w es=>⟨h,w,es,rfl,hh⟩
theorem qu.bind{s:gZ α}(h:qu P s)(f:α→gZ γ):qu P (s >>= f):=fun w es=>by
 obtain⟨e,w',es',h1,h2⟩:=h w es;refine⟨e,w',es',?_,h2⟩;show(s.bind f).runT P w es=_;rw[Sem.runT_bind',h1]
theorem bP.bind{s:gZ α}{s':gZ β}{f:α→gZ γ}{f':β→gZ δ}(h:bP P F A ρ s s')(hf:∀ρ' a b,Rn.le ρ ρ'→A ρ' a b→bP P F A' ρ' (f a) (f' b)) :
  bP P F A' ρ (s >>= f) (s' >>= f'):=by
 show bP P F A' ρ (s.bind f) (s'.bind f')
 induction h with
 |pure ha=>exact hf _ _ _ (Rn.le_refl _) ha
 |dead hd=>exact .dead (hd.bind f)
 |load ha _ ih=>exact .load ha fun v v' hv=>ih v v' hv hf
 |store ha hv _ ih=>exact .store ha hv (ih hf)
 |new ho _ ih=>exact .new ho fun ρ' r r' hl hr=>ih ρ' r r' hl hr fun ρ'' a b hl'=>hf ρ'' a b (Rn.le_trans hl hl')
 |shape hr _ ih=>exact .shape hr fun s=>ih s hf
 |getObj hr _ ih=>exact .getObj hr fun o o' ho=>ih o o' ho hf
 |setObj hr ho _ ih=>exact .setObj hr ho (ih hf)
 |choose _ ih=>exact .choose fun n=>ih n hf
 |program _ ih=>exact .program (ih hf)
 |noRoom _ ih=>exact .noRoom (ih hf)
theorem bP.imp{A':Rn→α→β→Prop}{s:gZ α}{s':gZ β}(h:bP P F A ρ s s')(hf:∀ρ' a b,Rn.le ρ ρ'→A ρ' a b→A' ρ' a b):bP P F A' ρ s s':=by
 induction h with
 |pure ha=>exact .pure (hf _ _ _ (Rn.le_refl _) ha)
 |dead hd=>exact .dead hd
 |load ha _ ih=>exact .load ha fun v v' hv=>ih v v' hv hf
 |store ha hv _ ih=>exact .store ha hv (ih hf)
 |new ho _ ih=>exact .new ho fun ρ' r r' hl hr=>ih ρ' r r' hl hr fun ρ'' a b hl'=>hf ρ'' a b (Rn.le_trans hl hl')
 |shape hr _ ih=>exact .shape hr fun s=>ih s hf
 |getObj hr _ ih=>exact .getObj hr fun o o' ho=>ih o o' ho hf
 |setObj hr ho _ ih=>exact .setObj hr ho (ih hf)
 |choose _ ih=>exact .choose fun n=>ih n hf
 |program _ ih=>exact .program (ih hf)
 |noRoom _ ih=>exact .noRoom (ih hf)
abbrev At(ρ:Rn)(Q:α→β→Prop):Rn→α→β→Prop:=fun ρ' a b=>ρ'=ρ∧Q a b
theorem bP.dB{Q:α→β→Prop}{s:gZ α}{s':gZ β}{f:α→gZ γ}{f':β→gZ δ}(h:bP P F (At ρ Q) ρ s s')(hf:∀a b,Q a b→bP P F A' ρ (f a) (f' b)) :
  bP P F A' ρ (s >>= f) (s' >>= f'):=h.bind fun ρ' a b _ ⟨e,hq⟩=>by subst e;exact hf a b hq
theorem bP.dn{Q:α→β→Prop}{a:α}{b:β}(h:Q a b):bP P F (At ρ Q) ρ (eE a) (eE b):=.pure ⟨rfl,h⟩
theorem a7{s:String}{s':gZ β}:bP P F A ρ (stuck s) s':=.dead (qU trivial)
theorem cg{u:Unsupported}{s':gZ β}(h:∀g,u≠.initOrder g):bP P F A ρ (qC u) s':=.dead (qU (by cases u<;>first|trivial|exact absurd rfl (h _)))
end
def NM(R W:Nat→Prop)(e:fP):Prop:=
 (∃a:cU,e.loc=.cell a∧e.sync=false∧R a.block∧(e.write=true→W a.block))∨(∃r,e.loc=.obj r∧e.sync=false∧R r∧(e.write=true→W r))∨e.loc=.mark .noRoom
theorem NM.mono{R R' W W':Nat→Prop}{e:fP}(h:NM R W e)(hR:∀c,R c→R' c)(hW:∀c,W c→W' c):NM R' W' e:=by
 rcases h with⟨a,h1,h2,h3,h4⟩|⟨r,h1,h2,h3,h4⟩|h
 ·exact .inl ⟨a,h1,h2,hR _ h3,fun e=>hW _ (h4 e)⟩
 ·exact .inr (.inl ⟨r,h1,h2,hR _ h3,fun e=>hW _ (h4 e)⟩)
 ·exact .inr (.inr h)
def Rn.knows(ρ:Rn)(c:Nat):Prop:=∃b,ρ b=some c
def Rn.owns(ρ:Rn)(B:Nat→Prop)(c:Nat):Prop:=∃b,¬B b∧ρ b=some c
def vv(lw w:ar):Prop:=∀i,lw.tape (lw.drawn+i)=w.tape (w.drawn+i)
structure l8(F:Nat→Bool)(G:Nat)(B:Nat→Prop)(ρ:Rn)(lw w:ar)(ρ':Rn)(ek w':ar)(evs:Array fP):Prop where
 wr:WR F G B ρ' ek w'
 le:Rn.le ρ ρ'
 new:∀b c,ρ' b=some c→ρ b=some c∨(lw.heap.size≤b∧w.heap.size≤c)
 Gn:lw.heap.size≤ek.heap.size
 grow:w.heap.size≤w'.heap.size
 keep:∀c,c<w.heap.size→¬ρ.owns B c→w'.heap[c]?=w.heap[c]?
 fresh:∀c,w.heap.size≤c→c<w'.heap.size→ρ'.knows c
 tape:w'.tape=w.tape
 Ol:ek.tape=lw.tape
 draw:∃k,ek.drawn=lw.drawn+k∧w'.drawn=w.drawn+k
 os:w'.os=w.os
 out:w'.output=w.output
 evs:∀e∈evs,NM ρ'.knows (ρ'.owns B) e
section
variable{P:aI}{F:Nat→Bool}{G:Nat}{B:Nat→Prop}{ρ ρ' ρ'':Rn}{lw w ek w' abH w'':ar}{es es':Array fP}
theorem l8.refl(h:WR F G B ρ lw w):l8 F G B ρ lw w ρ lw w #[]:=
 ⟨h,Rn.le_refl _,fun b c h=>.inl h,ax _,ax _,fun _ _ _=>rfl,fun c h1 h2=>absurd h1 (by omega),rfl,rfl,⟨0,rfl,rfl⟩,rfl,rfl,by simp⟩
theorem l8.trans(h:l8 F G B ρ lw w ρ' ek w' es)(h':l8 F G B ρ' ek w' ρ'' abH w'' es')(hB:∀b,B b→b<lw.heap.size):l8 F G B ρ lw w ρ'' abH w'' (es++es'):=by
 refine⟨h'.wr,Rn.le_trans h.le h'.le,fun b c hb=>?_,aN h.Gn h'.Gn,aN h.grow h'.grow,fun c hc hn=>?_,fun c h1 h2=>?_,h'.tape.trans h.tape,h'.Ol.trans h.Ol,?_,h'.os.trans h.os,h'.out.trans h.out,fun e he=>?_⟩
 ·rcases h'.new b c hb with h1|⟨h1,h2⟩
  ·exact h.new b c h1
  ·exact .inr ⟨aN h.Gn h1,aN h.grow h2⟩
 ·rw[h'.keep c (bz hc h.grow) ?_,h.keep c hc hn];rintro⟨b,hb,he⟩;rcases h.new b c he with h1|⟨_,h2⟩
  ·exact hn ⟨b,hb,h1⟩
  ·omega
 ·rcases Nat.lt_or_ge c w'.heap.size with hl|hg
  ·obtain⟨b,hb⟩:=h.fresh c h1 hl;exact⟨b,h'.le _ _ hb⟩
  ·exact h'.fresh c hg h2
 ·obtain⟨k,h1,h2⟩:=h.draw;obtain⟨k',h3,h4⟩:=h'.draw;exact⟨k+k',by omega,by omega⟩
 ·rcases F2.1 he with h1|h1
  ·exact(h.evs e h1).mono (fun c ⟨b,hb⟩=>⟨b,h'.le _ _ hb⟩) (fun c ⟨b,h1,hb⟩=>⟨b,h1,h'.le _ _ hb⟩)
  ·exact h'.evs e h1
theorem l8.WZ(h:l8 F G B ρ lw w ρ' ek w' es)(ht:vv lw w):vv ek w':=fun i=>by
 obtain⟨k,h1,h2⟩:=h.draw;rw[h.Ol,h.tape,h1,h2,ng,ng];exact ht _
theorem l8.more(h:l8 F G B ρ lw w ρ' ek w' es)(h2:∀e∈es',NM ρ'.knows (ρ'.owns B) e):l8 F G B ρ lw w ρ' ek w' es':=
 ⟨h.wr,h.le,h.new,h.Gn,h.grow,h.keep,h.fresh,h.tape,h.Ol,h.draw,h.os,h.out,h2⟩
theorem l8.push(h:l8 F G B ρ lw w ρ' ek w' es){e:fP}(he:NM ρ.knows (ρ.owns B) e):l8 F G B ρ lw w ρ' ek w' (#[e]++es):=
 h.more fun x hx=>by
  rcases F2.1 hx with h1|h1
  ·simp only[eF,List.mem_singleton] at h1;subst h1;exact he.mono (fun c ⟨b,hb⟩=>⟨b,h.le _ _ hb⟩) (fun c ⟨b,h1,hb⟩=>⟨b,h1,h.le _ _ hb⟩)
  ·exact h.evs x h1
theorem F3(h:WR F G B ρ lw w)(h':WR F G B ρ ek w'){c:Nat}(hc:ρ.owns B c)(hl:ek.heap.size=lw.heap.size){o':Obj}(hh:w'.heap=w.heap.setIfInBounds c o')
  (h1:w'.tape=w.tape) (h2:ek.tape=lw.tape) (h3:ek.drawn=lw.drawn) (h4:w'.drawn=w.drawn) (h5:w'.os=w.os) (h6:w'.output=w.output):l8 F G B ρ lw w ρ ek w' #[]:=
 ⟨h',Rn.le_refl _,fun b c h=>.inl h,by omega,by rw[hh];simp,fun x hx hn=>by
  rw[hh,aA (fun e=>hn (by rw[←e];exact hc))],
  fun c h1 h2=>by rw[hh] at h2;simp at h2;omega,h1,h2,⟨0,by simp[h3],by simp[h4]⟩,h5,h6,by simp⟩
theorem Rs(h:WR F G B ρ lw w)(hG:G≤lw.heap.size)(CN:G≤w.heap.size){o o':Obj}(ho:OR F ρ o o') :
  l8 F G B ρ lw w (ρ.with lw.heap.size w.heap.size) { lw with heap:=lw.heap.push o } { w with heap:=w.heap.push o' } #[]:=by
 refine⟨h.new hG CN ho,Rn.Om h.fresh,fun b c hb=>?_,by simp,by simp,fun c hc _=>?_,fun c h1 h2=>?_,rfl,rfl,⟨0,rfl,rfl⟩,rfl,rfl,by simp⟩
 ·unfold Rn.with at hb
  split at hb
  ·rename_i he;cases hb;exact .inr ⟨by omega,ax _⟩
  ·exact .inl hb
 ·simp only;rw[Array.getElem?_push_lt hc];exact(aM hc).symm
 ·simp only[Array.size_push] at h2;have:c=w.heap.size:=by omega
  subst this;exact⟨lw.heap.size,Rn.zT⟩
theorem F4(h:WR F G B ρ lw w):l8 F G B ρ lw w ρ { lw with drawn:=lw.drawn+1 } { w with drawn:=w.drawn+1 } #[]:=
 ⟨h.tape _ _ _ _,Rn.le_refl _,fun b c h=>.inl h,ax _,ax _,fun _ _ _=>rfl,fun c h1 h2=>absurd h2 (by simp only;omega),rfl,rfl,⟨1,rfl,rfl⟩,rfl,rfl,by simp⟩
theorem qa{α:Type}(es evs:Array α)(e:α):es.push e++evs=es++(#[e]++evs):=by
 rw[←Array.append_assoc,Array.append_singleton]
theorem bP.runT{α β:Type}{A:Rn→α→β→Prop}{s:gZ α}{s':gZ β}(h:bP P F A ρ s s'):∀ {lw w:ar},WR F G B ρ lw w→vv lw w→G≤lw.heap.size→G≤w.heap.size→∀es es',
  (∃a ek l b w' evs ρ',s.runT P lw es=(.ok a ek,l)∧s'.runT P w es'=(.ok b w',es'++evs)∧A ρ' a b∧l8 F G B ρ lw w ρ' ek w' evs)∨
  (∃e ek l,s.runT P lw es=(.halt e ek,l)∧E3 e):=by
 induction h with
 |@pure ρ a b ha=>exact fun hw _ _ _ es es'=>.inl ⟨a,_,es,b,_,#[],ρ,rfl,by simp[dz],ha,.refl hw⟩
 |@dead ρ s s' hd=>
  intro lw w hw _ _ _ es es';obtain⟨e,w1,l,h1,h2⟩:=hd lw es;exact .inr ⟨e,w1,l,h1,h2⟩
 |@load ρ a a' k k' ha _ ih=>
  intro lw w hw ht hG CN es es';simp only[dz];cases hc:lw.cell? a with
  |none=>
   obtain⟨e,h1,h2⟩:=hw.noCell (P:=P) ha hc (b:=(lW == .atomic));rw[h1];exact .inr ⟨e,lw,es,rfl,h2⟩
  |some v=>
   obtain⟨v',hc',hv⟩:=hw.cell ha hc;rw[hc'];rcases ih v v' hv hw ht hG CN (es.push ⟨.cell a,false,lW == .atomic⟩) (es'.push ⟨.cell a',false,lW == .atomic⟩) with⟨x,jJ,l,y,w1,evs,ρ1,h1,h2,h3,h4⟩|h
   ·refine .inl ⟨x,jJ,l,y,w1,_,ρ1,h1,?_,h3,h4.push (e:=⟨.cell a',false,lW == .atomic⟩) (.inl ⟨a',rfl,rfl,⟨_,ha.block⟩,by simp⟩)⟩;exact h2.trans (by rw[qa])
   ·exact .inr h
 |@store ρ a a' v v' k k' ha hv _ ih=>
  intro lw w hw ht hG CN es es'
  have main:(∃a1 ek l b w' evs ρ',(match lw.cell? a with
     |some _=>if lw.frozen? a then(.halt (.unsupported (.unsafePointer "a write to bytes that a string shares")) lw,es) else k.runT P (lw.setCell a v) (es.push ⟨.cell a,true,lW == .atomic⟩)
     |none=>match lw.farStore P a v (lW == .atomic) with
      |.ok (w,sN)=>k.runT P w (es++sN.toArray.map (⟨.cell ·,true,lW == .atomic⟩))
      |.error h=>(.halt h lw,es))=(.ok a1 ek,l)∧(match w.cell? a' with
     |some _=>if w.frozen? a' then(.halt (.unsupported (.unsafePointer "a write to bytes that a string shares")) w,es') else k'.runT P (w.setCell a' v') (es'.push ⟨.cell a',true,lW == .atomic⟩)
     |none=>match w.farStore P a' v' (lW == .atomic) with
      |.ok (w,sN)=>k'.runT P w (es'++sN.toArray.map (⟨.cell ·,true,lW == .atomic⟩))
      |.error h=>(.halt h w,es'))=(.ok b w',es'++evs)∧A ρ' a1 b∧l8 F G B ρ lw w ρ' ek w' evs)∨(∃e ek l,(match lw.cell? a with
     |some _=>if lw.frozen? a then(.halt (.unsupported (.unsafePointer "a write to bytes that a string shares")) lw,es) else k.runT P (lw.setCell a v) (es.push ⟨.cell a,true,lW == .atomic⟩)
     |none=>match lw.farStore P a v (lW == .atomic) with
      |.ok (w,sN)=>k.runT P w (es++sN.toArray.map (⟨.cell ·,true,lW == .atomic⟩))
      |.error h=>(.halt h lw,es))=(.halt e ek,l)∧E3 e):=by
   cases hc:lw.cell? a with
   |none=>
    obtain⟨e,h1,h2⟩:=hw.Vj (P:=P) ha hc (b:=(lW == .atomic)) (v:=v);simp only[h1];exact .inr ⟨e,lw,es,rfl,h2⟩
   |some x=>
    obtain⟨x',hc',_⟩:=hw.cell ha hc;simp only[hc'];cases hz:lw.frozen? a with
    |true=>exact .inr ⟨_,lw,es,rfl,trivial⟩
    |false=>
     obtain⟨hB,hz',hw'⟩:=hw.setCell ha hv hc hz;simp only[hz',bu,if_false];have hsz:(lw.setCell a v).heap.size=lw.heap.size:=by simp[j4]
     have hown:ρ.owns B a'.block:=⟨a.block,hB,ha.block⟩
     have hturn:l8 F G B ρ lw w ρ (lw.setCell a v) (w.setCell a' v') #[]:=by
      obtain⟨o,o',_,e2,_,_⟩:=hw.at_ _ _ ha.block;refine⟨hw',Rn.le_refl _,fun b c h=>.inl h,by omega,by simp[j4],fun c hcl hn=>?_,fun c h1 h2=>by simp[j4] at h2;omega,rfl,rfl,⟨0,rfl,rfl⟩,rfl,rfl,by simp⟩;simp only[j4,oY];rw[if_neg (fun e=>hn (by rw[←e];exact hown))]
     rcases ih hw' (fun i=>ht i) (by omega) (by simp[j4];exact CN) (es.push ⟨.cell a,true,lW == .atomic⟩) (es'.push ⟨.cell a',true,lW == .atomic⟩) with⟨x,jJ,l,y,w1,evs,ρ1,h1,h2,h3,h4⟩|h
     ·refine .inl ⟨x,jJ,l,y,w1,#[⟨.cell a',true,lW == .atomic⟩]++(#[]++evs),ρ1,h1,?_,h3,(hturn.trans h4 hw.base).push (.inl ⟨a',rfl,rfl,⟨_,ha.block⟩,fun _=>hown⟩)⟩;exact h2.trans (by simp only[qa,eL])
     ·exact .inr h
  cases hv with
  |agg _ _=>exact .inr ⟨_,lw,es,rfl,trivial⟩
  |tuple _ _=>exact .inr ⟨_,lw,es,rfl,trivial⟩
  |_=>simp only[dz];exact main
 |@new ρ o o' k k' ho _ ih=>
  intro lw w hw ht hG CN es es';simp only[dz];have h0:=Rs hw hG CN ho;rcases ih _ lw.heap.size w.heap.size h0.le Rn.zT h0.wr (h0.WZ ht) (by simp;omega) (by simp;omega) es es' with⟨x,jJ,l,y,w1,evs,ρ1,h1,h2,h3,h4⟩|h
  ·exact .inl ⟨x,jJ,l,y,w1,_,ρ1,h1,by rw[h2];simp,h3,h0.trans h4 hw.base⟩
  ·exact .inr h
 |@shape ρ r r' k k' hr _ ih=>
  intro lw w hw ht hG CN es es';simp only[dz];rw[hw.shape hr];exact ih _ hw ht hG CN es es'
 |@getObj ρ r r' k k' hr _ ih=>
  intro lw w hw ht hG CN es es';obtain⟨o,o',e1,e2,ho,_⟩:=hw.at_ _ _ hr;simp only[dz,e1,e2];cases ho with
  |cells _ _=>exact .inr ⟨_,lw,es,rfl,trivial⟩
  |@map es1 es2 k1 hs hm=>
   simp only;rcases ih _ _ (.map hs hm) hw ht hG CN (es.push ⟨.obj r,false,(Obj.map es1 k1).isChan⟩) (es'.push ⟨.obj r',false,(Obj.map es2 k1).isChan⟩) with⟨x,jJ,l,y,w1,evs,ρ1,h1,h2,h3,h4⟩|h
   ·refine .inl ⟨x,jJ,l,y,w1,_,ρ1,h1,?_,h3,h4.push (e:=⟨.obj r',false,(Obj.map es2 k1).isChan⟩) (.inr (.inl ⟨r',rfl,rfl,⟨_,hr⟩,by simp⟩))⟩;exact h2.trans (by simp only[qa,eL])
   ·exact .inr h
  |@number a1 a2 k1 hs=>
   simp only;rcases ih _ _ (.number k1 hs) hw ht hG CN (es.push ⟨.obj r,false,(Obj.number a1 k1).isChan⟩) (es'.push ⟨.obj r',false,(Obj.number a2 k1).isChan⟩) with⟨x,jJ,l,y,w1,evs,ρ1,h1,h2,h3,h4⟩|h
   ·refine .inl ⟨x,jJ,l,y,w1,_,ρ1,h1,?_,h3,h4.push (e:=⟨.obj r',false,(Obj.number a2 k1).isChan⟩) (.inr (.inl ⟨r',rfl,rfl,⟨_,hr⟩,by simp⟩))⟩;exact h2.trans (by simp only[qa,eL])
   ·exact .inr h
 |@setObj ρ r r' o o' k k' hr ho _ ih=>
  intro lw w hw ht hG CN es es';obtain⟨p,p',e1,e2,hp,hfz⟩:=hw.at_ _ _ hr;simp only[dz,e1,e2];cases hp with
  |cells _ _=>exact .inr ⟨_,lw,es,rfl,trivial⟩
  |@map es1 es2 k1 hs hm=>
   simp only
   have hB:¬B r:=fun hl=>by
    obtain⟨_,_,_,h,_⟩:=hfz hl;cases h
   have hown:ρ.owns B r':=⟨r,hB,hr⟩
   have hw':WR F G B ρ { lw with heap:=lw.heap.setIfInBounds r o } { w with heap:=w.heap.setIfInBounds r' o' }:=hw.turn hr hB ho rfl rfl
   have hturn:l8 F G B ρ lw w ρ { lw with heap:=lw.heap.setIfInBounds r o } { w with heap:=w.heap.setIfInBounds r' o' } #[]:=
    F3 hw hw' hown (by simp) rfl rfl rfl rfl rfl rfl rfl
   have hch:o'.isChan=false:=by cases ho<;>rfl
   rcases ih hw' (fun i=>ht i) (by simpa using hG) (by simpa using CN) (es.push ⟨.obj r,true,o.isChan⟩) (es'.push ⟨.obj r',true,o'.isChan⟩) with⟨x,jJ,l,y,w1,evs,ρ1,h1,h2,h3,h4⟩|h
   ·refine .inl ⟨x,jJ,l,y,w1,#[⟨.obj r',true,o'.isChan⟩]++(#[]++evs),ρ1,h1,?_,h3,(hturn.trans h4 hw.base).push (.inr (.inl ⟨r',rfl,hch,⟨_,hr⟩,fun _=>hown⟩))⟩;exact h2.trans (by simp only[qa,eL])
   ·exact .inr h
  |@number a1 a2 k1 hs=>
   simp only
   have hB:¬B r:=fun hl=>by
    obtain⟨_,_,_,h,_⟩:=hfz hl;cases h
   have hown:ρ.owns B r':=⟨r,hB,hr⟩
   have hw':WR F G B ρ { lw with heap:=lw.heap.setIfInBounds r o } { w with heap:=w.heap.setIfInBounds r' o' }:=hw.turn hr hB ho rfl rfl
   have hturn:l8 F G B ρ lw w ρ { lw with heap:=lw.heap.setIfInBounds r o } { w with heap:=w.heap.setIfInBounds r' o' } #[]:=
    F3 hw hw' hown (by simp) rfl rfl rfl rfl rfl rfl rfl
   have hch:o'.isChan=false:=by cases ho<;>rfl
   rcases ih hw' (fun i=>ht i) (by simpa using hG) (by simpa using CN) (es.push ⟨.obj r,true,o.isChan⟩) (es'.push ⟨.obj r',true,o'.isChan⟩) with⟨x,jJ,l,y,w1,evs,ρ1,h1,h2,h3,h4⟩|h
   ·refine .inl ⟨x,jJ,l,y,w1,#[⟨.obj r',true,o'.isChan⟩]++(#[]++evs),ρ1,h1,?_,h3,(hturn.trans h4 hw.base).push (.inr (.inl ⟨r',rfl,hch,⟨_,hr⟩,fun _=>hown⟩))⟩;exact h2.trans (by simp only[qa,eL])
   ·exact .inr h
 |@choose ρ q k k' _ ih=>
  intro lw w hw ht hG CN es es';simp only[dz];split
  ·exact ih 0 hw ht hG CN es es'
  ·have h0:lw.tape lw.drawn=w.tape w.drawn:=ht 0;rw[h0];have hd:=F4 hw;rcases ih (q.cut (w.tape w.drawn q)) hd.wr (hd.WZ ht) hG CN es es' with⟨x,jJ,l,y,w1,evs,ρ1,h1,h2,h3,h4⟩|h
   ·exact .inl ⟨x,jJ,l,y,w1,_,ρ1,h1,by rw[h2];simp,h3,hd.trans h4 hw.base⟩
   ·exact .inr h
 |@program ρ k k' _ ih=>
  intro lw w hw ht hG CN es es';simp only[dz];exact ih hw ht hG CN es es'
 |@noRoom ρ k k' _ ih=>
  intro lw w hw ht hG CN es es';simp only[dz];rcases ih hw ht hG CN (es.push ⟨.mark .noRoom,false,true⟩) (es'.push ⟨.mark .noRoom,false,true⟩) with⟨x,jJ,l,y,w1,evs,ρ1,h1,h2,h3,h4⟩|h
  ·refine .inl ⟨x,jJ,l,y,w1,_,ρ1,h1,?_,h3,h4.push (e:=⟨.mark .noRoom,false,true⟩) (.inr (.inr rfl))⟩;exact h2.trans (by simp only[qa,eL])
  ·exact .inr h
end
section
variable{P:aI}{F:Nat→Bool}{α β γ δ:Type}{A:Rn→α→β→Prop}{A':Rn→γ→δ→Prop}{ρ:Rn}
abbrev Same(ρ:Rn)(C:α→Prop):Rn→α→α→Prop:=At ρ fun a b=>a=b∧C a
theorem bP.bD{C:α→Prop}{s s':gZ α}{f:α→gZ γ}{f':α→gZ δ}(h:bP P F (Same ρ C) ρ s s')(hf:∀a,C a→bP P F A' ρ (f a) (f' a)) :
  bP P F A' ρ (s >>= f) (s' >>= f'):=h.dB fun a b ⟨e,hc⟩=>by subst e;exact hf a hc
theorem vC{C:α→Prop}{a:α}(h:C a):bP P F (Same ρ C) ρ (eE a) (eE a):=.pure ⟨rfl,rfl,h⟩
theorem cI{a:α}:bP P F (Same ρ fun _=>True) ρ (eE a) (eE a):=.pure ⟨rfl,rfl,trivial⟩
theorem j8{f:aI→gZ α}{f':aI→gZ β}(h:bP P F A ρ (f P) (f' P)):bP P F A ρ (Go.program >>= f) (Go.program >>= f'):=.program h
theorem dh{t:aX}:bP P F (Same ρ fun d=>P.underlying t=some d) ρ (iG t) (iG t):=by
 unfold iG;refine j8 ?_;cases h:P.underlying t with
 |none=>exact a7
 |some d=>exact vC rfl
theorem jn{t:aX}:bP P F (Same ρ fun d=>P.info? t=some d) ρ (typeInfo t) (typeInfo t):=by
 unfold typeInfo;refine j8 ?_;cases h:P.info? t with
 |none=>exact a7
 |some d=>exact vC rfl
theorem gu{t:aX}:bP P F (Same ρ fun n=>∃i,P.info? t=some i∧n=i.size) ρ (sizeOf t) (sizeOf t):=by
 unfold sizeOf;refine jn.bD fun i hi=>?_;exact vC ⟨i,hi,rfl⟩
theorem Db{t:aX}:bP P F (Same ρ fun _=>True) ρ (isAgg t) (isAgg t):=by
 unfold isAgg;refine dh.bD fun d _=>?_;cases d<;>exact cI
def nZ(P:aI)(t:aX):Bool:=((P.info? t).bind (·.zero)).all Ej
theorem kP{t:aX}(h:nZ P t=true):bP P F (At ρ (VR F ρ)) ρ (iD t) (iD t):=by
 unfold iD;refine jn.bD fun i hi=>?_;unfold nZ at h;rw[hi] at h;cases hz:i.zero with
 |none=>exact cg (fun g=>by simp)
 |some v=>
  simp only[Option.bind_some,hz,Option.all_some] at h;exact .dn (za h)
theorem Gg{a a':cU}(ha:AR ρ a a'):bP P F (At ρ (VR F ρ)) ρ (load a) (load a'):=.load ha fun v v' hv=>.dn hv
theorem pX{a a':cU}(ha:AR ρ a a'):∀(n i:Nat) {acc Wx:Array aj},iu F ρ acc Wx→bP P F (At ρ (iu F ρ)) ρ (loadCellsFrom a i n acc) (loadCellsFrom a' i n Wx)
 |0,i,acc,Wx,h=>.dn h
 |n+1,i,acc,Wx,h=>(Gg (ha.add i)).dB fun v v' hv=>pX ha n (i+1) (h.push hv)
theorem uI{a a':cU}(ha:AR ρ a a')(n:Nat):bP P F (At ρ (iu F ρ)) ρ (loadCells a n) (loadCells a' n):=pX ha n 0 .nil
theorem yr{t:aX}{a a':cU}(ha:AR ρ a a'):bP P F (At ρ (VR F ρ)) ρ (loadVar t a) (loadVar t a'):=by
 unfold loadVar;refine Db.bD fun b _=>?_;cases b with
 |true=>exact gu.bD fun n _=>(uI ha n).dB fun cs cs' h=>.dn h.agg
 |false=>exact Gg ha
theorem L6{a a':cU}{v v':aj}(ha:AR ρ a a')(hv:VR F ρ v v'):bP P F (At ρ fun _ _=>True) ρ (store a v) (store a' v'):=.store ha hv (.dn trivial)
inductive Q6(F:Nat→Bool)(ρ:Rn):List aj→List aj→Prop
 |nil:Q6 F ρ [] []
 |cons {x y:aj} {l m:List aj}:VR F ρ x y→Q6 F ρ l m→Q6 F ρ (x::l) (y::m)
theorem Ys{l m:List aj}(hs:l.length=m.length)(h:∀(i:Nat) (x y:aj),l[i]?=some x→m[i]?=some y→VR F ρ x y):Q6 F ρ l m:=by
 induction l generalizing m with
 |nil=>
  cases m with
  |nil=>exact .nil
  |cons y m=>cases hs
 |cons x l ih=>
  cases m with
  |nil=>cases hs
  |cons y m=>exact .cons (h 0 x y rfl rfl) (ih (by simpa using hs) fun i a b h1 h2=>h (i+1) a b (by simpa using h1) (by simpa using h2))
theorem iu.list{a a':Array aj}(h:iu F ρ a a'):Q6 F ρ a.toList a'.toList:=Ys (by simpa using h.size) fun i x y h1 h2=>h.at_ i x y (by simpa using h1) (by simpa using h2)
theorem Q6.row{l m:List aj}(h:Q6 F ρ l m):iu F ρ l.toArray m.toArray:=by
 induction h with
 |nil=>exact .nil
 |@cons x y l m hv _ ih=>
  have:=(iu.one hv).append ih;simpa using this
theorem tR{a a':cU}(ha:AR ρ a a'){l m:List aj}(h:Q6 F ρ l m):∀i,bP P F (At ρ fun _ _=>True) ρ (storeCells a l i) (storeCells a' m i):=by
 induction h with
 |nil=>intro i;exact .dn trivial
 |cons hv _ ih=>intro i;exact(L6 (ha.add i) hv).dB fun _ _ _=>ih (i+1)
theorem Fh{t:aX}{a a':cU}{v v':aj}(ha:AR ρ a a')(hv:VR F ρ v v'):bP P F (At ρ fun _ _=>True) ρ (storeVar t a v) (storeVar t a' v'):=by
 unfold storeVar;refine gu.bD fun n _=>?_;rw[←hv.cells.size];split
 ·exact .dead ((qU (h:=.stuck _) trivial).bind _)
 ·exact tR ha hv.cells.list 0
theorem uH{e:aX}{cs cs':Array aj}(h:iu F ρ cs cs'):bP P F AR ρ (newRow e cs) (newRow e cs'):=by
 unfold newRow;exact bP.bind (A:=fun ρ' r r'=>ρ' r=some r') (.new (.cells h fun i h1 h2=>absurd h2 (Nat.not_lt_zero _)) fun ρ' r r' _ hr=>.pure hr) fun ρ' r r' _ hr=>.pure ⟨hr,rfl,rfl⟩
theorem Bi{e:aX}{v v':aj}(h:VR F ρ v v'):bP P F AR ρ (newVar e v) (newVar e v'):=uH h.cells
theorem nE{t:aX}{cs cs':Array aj}(h:iu F ρ cs cs')(off:Nat):bP P F (At ρ (VR F ρ)) ρ (part t cs off) (part t cs' off):=by
 unfold part;refine Db.bD fun b _=>?_;cases b with
 |true=>exact gu.bD fun n _=>.dn (h.extract _ _).agg
 |false=>
  simp only[bu,if_false];cases hx:cs[off]? with
  |none=>exact a7
  |some x=>
   obtain⟨y,hy,hv⟩:=h.get hx;rw[hy];exact .dn hv
theorem pW{r r':Nat}(h:ρ r=some r'):bP P F (Same ρ fun _=>True) ρ (shape r) (shape r'):=.shape h fun s=>cI
theorem Fi{r r':Nat}(h:ρ r=some r'):bP P F (At ρ fun x y=>(x=none∧y=none)∨∃a a' l,x=some (a,l)∧y=some (a',l)∧AR ρ a a') ρ (numberAt r) (numberAt r'):=by
 unfold numberAt;refine(pW h).bD fun s _=>?_;split
 ·exact .dn (.inl ⟨rfl,rfl⟩)
 ·refine bP.dB (Q:=OR F ρ) (.getObj h fun o o' ho=>.dn ho) fun o o' ho=>?_;cases ho with
  |cells _ _=>exact .dn (.inl ⟨rfl,rfl⟩)
  |map _ _=>exact .dn (.inl ⟨rfl,rfl⟩)
  |number l ha=>exact .dn (.inr ⟨_,_,l,rfl,rfl,ha⟩)
theorem ig{a a':cU}(h:AR ρ a a'):bP P F (At ρ fun x y=>AR ρ x.1 y.1∧x.2=y.2) ρ (uA a) (uA a'):=by
 unfold uA;refine(Fi h.block).dB fun x y Yz=>?_;rcases Yz with⟨rfl,rfl⟩|⟨b,b',l,rfl,rfl,hb⟩
 ·exact .dn ⟨h,rfl⟩
 ·exact .dn ⟨hb,rfl⟩
theorem Bf{r r':Nat}(h:ρ r=some r'):bP P F (At ρ fun x y=>x=none∧y=none) ρ (viewAt r) (viewAt r'):=by
 unfold viewAt;refine(pW h).bD fun s _=>?_;split
 ·exact .dn ⟨rfl,rfl⟩
 ·refine bP.dB (Q:=OR F ρ) (.getObj h fun o o' ho=>.dn ho) fun o o' ho=>?_;cases ho<;>exact .dn ⟨rfl,rfl⟩
theorem JL{a a':cU}(h:AR ρ a a'):bP P F (At ρ fun _ _=>True) ρ (noView a) (noView a'):=by
 unfold noView;refine(Bf h.block).dB fun x y ⟨hx,hy⟩=>?_;subst hx;subst hy;exact .dn trivial
theorem sP{v v':aj}(h:VR F ρ v v'):bP P F (Same ρ fun x=>v=.int x.1 x.2∧v'=.int x.1 x.2) ρ (asIntOf v) (asIntOf v'):=by
 cases h<;>first|exact .pure ⟨rfl,rfl,rfl,rfl⟩|exact a7|exact cg (by simp)
theorem Md{v v':aj}(h:VR F ρ v v'):bP P F (Same ρ fun n=>∃k,v=.int k n∧v'=.int k n) ρ (asInt v) (asInt v'):=by
 unfold asInt;exact(sP h).bD fun x hx=>vC ⟨_,hx⟩
theorem JR{a a':cU}(h:AR ρ a a'):bP P F (Same ρ fun _=>True) ρ (byteOf a) (byteOf a'):=by
 unfold byteOf;rw[h.spot];cases a.spot with
 |some s=>exact cI
 |none=>
  simp only[pure_bind];refine j8 ?_;refine(JL h).dB fun _ _ _=>(pW h.block).bD fun s _=>?_;cases s with
  |none=>exact a7
  |some x=>
   obtain⟨e,n⟩:=x;simp only[h.off];split
   ·exact cI
   ·cases byteOfCell P P.depth e (a.off % P.cellsOf e) with
    |none=>exact a7
    |some b=>exact cI
theorem oZ{α:Type}{e:RuntimeError}(h:∀i c a m,e≠.typeAssertion i c a m)(h':e≠.panicNil):qu P (ej e:gZ α):=by
 intro w es;cases e with
 |typeAssertion i c a m=>exact absurd rfl (h _ _ _ _)
 |panicNil=>exact absurd rfl h'
 |_=>exact⟨_,w,es,rfl,trivial⟩
theorem fX{e:RuntimeError}{s':gZ β}(h:∀i c a m,e≠.typeAssertion i c a m:=by simp)(h':e≠.panicNil:=by simp):bP P F A ρ (ej e) s':=.dead (oZ h h')
theorem eR{u:Unsupported}(h:∀g,u≠.initOrder g):qu P (qC u:gZ α):=qU (by cases u<;>first|trivial|exact absurd rfl (h _))
theorem uK{q:dA}:bP P F (Same ρ fun _=>True) ρ (zJ q) (zJ q):=.choose fun n=>cI
theorem lh{k:IntKind}{x y:Int}{c:BoundsCode}:bP P F A ρ (boundsPanic k x y c:gZ α) (boundsPanic k x y c:gZ β):=by
 unfold boundsPanic;dsimp only;split
 ·refine bP.bind (A:=fun _ _ _=>True) (bP.bind (A:=fun _ _ _=>True) (uK.imp fun _ _ _ _ _=>trivial) fun _ _ _ _ _=>.pure trivial) fun ρ' a b _ _=>?_;exact fX
 ·refine bP.bind (A:=fun _ _ _=>True) (.pure trivial) fun ρ' a b _ _=>?_;exact fX
theorem uF{ts ts':Array aX}{t t':aX}{p p':Option cU}{v v':aj}(hp:VR F ρ (.pointer p) (.pointer p'))(hv:VR F ρ v v') :
  bP P F (At ρ fun x y=>∃a a',AR ρ a a'∧x=.pointer (some a)∧y=.pointer (some a')) ρ (Builtin.unsafeAdd_ ts t #[.pointer p,v]) (Builtin.unsafeAdd_ ts' t' #[.pointer p',v']):=by
 unfold Builtin.unsafeAdd_;refine(Md hv).bD fun n _=>?_
 by_cases h0:n=0
 ·simp only[h0,if_true];cases hp with
  |Cb=>exact .dead ((eR (by simp)).bind _)
  |ptr ha=>
   simp only[bind_assoc];refine(Bf ha.block).dB fun x y ⟨hx,hy⟩=>?_;subst hx;subst hy;exact .dn ⟨_,_,ha,rfl,rfl⟩
 ·simp only[h0,if_false,pure_bind]
  by_cases h1:n<0
  ·simp only[h1,if_true];exact .dead ((eR (by simp)).bind _)
  ·simp only[h1,if_false,pure_bind];cases hp with
   |Cb=>exact cg (by simp)
   |@ptr a a' ha=>
    refine(pW ha.block).bD fun s _=>?_;cases s with
    |none=>exact cg (by simp)
    |some x=>
     obtain⟨e,n'⟩:=x;refine j8 ?_;simp only[ha.off];cases cellAtBytes P P.depth e (n' / P.cellsOf e) a.off n with
     |none=>exact cg (by simp)
     |some off=>exact .dn ⟨_,_,ha.at off,rfl,rfl⟩
theorem Fo{a a':cU}(ha:AR ρ a a')(l:Bool):bP P F (VR F) ρ (asNumber a l) (asNumber a' l):=by
 unfold asNumber;exact bP.bind (A:=fun ρ' r r'=>ρ' r=some r') (.new (.number l ha) fun ρ' r r' _ hr=>.pure hr) fun ρ' r r' _ hr=>.pure (.ptr ⟨hr,rfl,rfl⟩)
end
structure Ua(P:aI)(ρ:Rn):Prop where
 inj:∀a b c,ρ a=some c→ρ b=some c→a=b
 low:∀b c,ρ b=some c→P.globals.size≤b∧P.globals.size≤c
theorem AR.eq_iff{ρ:Rn}(hi:∀a b c,ρ a=some c→ρ b=some c→a=b){a a' b b':cU}(ha:AR ρ a a')(hb:AR ρ b b'):a=b↔a'=b':=by
 constructor
 ·rintro rfl;have h1:=ha.block;rw[hb.block] at h1;injection h1 with h1
  cases a';cases b';have:=ha.off;have:=hb.off;have:=ha.spot;have:=hb.spot;simp_all
 ·rintro rfl;have:=hi _ _ _ ha.block hb.block;cases a;cases b;have:=ha.off;have:=hb.off;have:=ha.spot;have:=hb.spot;simp_all
section
variable{P:aI}{F:Nat→Bool}{α β γ δ:Type}{A:Rn→α→β→Prop}{A':Rn→γ→δ→Prop}{ρ:Rn}
theorem xd{t:aX}{k:IntKind}(ht:P.underlying t=some (.int k)){p p':Option cU}(hp:VR F ρ (.pointer p) (.pointer p')){v v':aj}(hv:VR F ρ v v') :
  bP P F (VR F) ρ (movedNumber t (.pointer p) v) (movedNumber t (.pointer p') v'):=by
 unfold movedNumber;refine dh.bD fun d hd=>?_;rw[ht] at hd;cases hd;simp only[bu,if_false,pure_bind];cases hp with
 |Cb=>
  refine(uF (.Cb) hv).imp fun ρ' x y _ h=>?_;obtain⟨rfl,a,a',ha,rfl,rfl⟩:=h;exact .ptr ha
 |ptr ha=>
  refine(ig ha).dB fun x y Yz=>?_;obtain⟨x1,x2⟩:=x;obtain⟨y1,y2⟩:=y;obtain⟨h1,h2⟩:=Yz;simp only at h1 h2;subst h2;refine(uF (.ptr h1) hv).dB fun x y Yz=>?_;obtain⟨a,a',ha,rfl,rfl⟩:=Yz;exact Fo ha _
theorem Hn{k:IntKind}{a a':cU}(ha:AR ρ a a')(n:Int):bP P F (VR F) ρ (Op.addrMod k a n) (Op.addrMod k a' n):=by
 unfold Op.addrMod;refine(pW ha.block).bD fun s _=>?_;cases s with
 |none=>exact cg (by simp)
 |some x=>
  obtain⟨e,m⟩:=x;refine jn.bD fun i _=>?_;dsimp only;split
  ·exact .dead ((eR (by simp)).bind _)
  ·refine(JR ha).bD fun b _=>?_;exact .pure (.int _ _)
theorem uG(R:Ua P ρ){a a' b b':cU}(ha:AR ρ a a'){f:Nat × Nat→gZ α}{s':gZ β}:bP P F A ρ (Op.twoPlaces a b >>= f) s':=by
 refine .dead (qu.bind ?_ f);unfold Op.twoPlaces;intro w es;have h:=(R.low _ _ ha.block).1;have hh:(a.block !=b.block||decide (a.block≥P.globals.size))=true:=by simp[h]
 have hp:∀ {γ:Type} (f:aI→gZ γ),(Go.program >>= f).runT P w es=(f P).runT P w es:=fun f=>rfl;rw[hp];dsimp only;rw[if_pos hh];exact((eR (by simp)).bind _) w es
theorem Fj{op:BinOp}{k:IntKind}{a b:Int}:bP P F (VR F) ρ (Op.intArith op k a b) (Op.intArith op k a b):=by
 unfold Op.intArith;split<;>first|exact .pure (.int _ _)|exact a7
theorem JO{op:BinOp}{k:IntKind}{a b:Int}:bP P F (VR F) ρ (Op.intDiv op k a b) (Op.intDiv op k a b):=by
 unfold Op.intDiv;split
 ·exact fX
 ·split<;>first|exact .pure (.int _ _)|exact a7
theorem Hi{op:BinOp}{k:IntKind}{a b:Int}:bP P F (VR F) ρ (Op.intBits op k a b) (Op.intBits op k a b):=by
 unfold Op.intBits;dsimp only;split<;>first|exact .pure (.int _ _)|exact a7
theorem JP{op:BinOp}{a b:Int}:bP P F (VR F) ρ (Op.intCmp op a b) (Op.intCmp op a b):=by
 unfold Op.intCmp;split<;>first|exact .pure (.bool _)|exact a7
theorem C8{op:BinOp}{k k':IntKind}{a b:Int}:bP P F (VR F) ρ (Op.shift op k a k' b) (Op.shift op k a k' b):=by
 unfold Op.shift;split
 ·exact fX
 ·dsimp only;split<;>first|exact .pure (.int _ _)|exact a7
theorem wF{op:BinOp}{a b:ByteArray}:bP P F (VR F) ρ (Op.stringOp op a b) (Op.stringOp op a b):=by
 unfold Op.stringOp;dsimp only;split
 ·split
  ·exact cg (by simp)
  ·exact .pure (.string _)
 all_goals first|exact .pure (.bool _)|exact a7
def W9:BinOp→Bool
 |.add|.sub|.mul|.quo|.shl|.shr|.and|.or|.lss|.leq|.gtr|.geq=>true
 |_=>false
theorem uJ{op:BinOp}{t:aX}{k k':IntKind}{a b:Int}:bP P F (VR F) ρ (binOp op t (.int k a) (.int k' b)) (binOp op t (.int k a) (.int k' b)):=by
 by_cases hk:k=k'
 ·cases op<;>simp only[binOp,hk,ne_eq,not_true,not_false_eq_true,if_true,if_false]<;>first|exact Fj|exact JO|exact Hi|exact JP|exact C8
 ·cases op<;>simp only[binOp,hk,ne_eq,not_true,not_false_eq_true,if_true,if_false]<;>first|exact a7|exact C8
theorem Mc(R:Ua P ρ){op:BinOp}{t:aX}{k:IntKind}(ht:P.underlying t=some (.int k))(hop:W9 op=true){x x' y y':aj}(hx:VR F ρ x x')(hy:VR F ρ y y') :
  bP P F (VR F) ρ (binOp op t x y) (binOp op t x' y'):=by
 have abd:∀ {p p':Option cU} {v v':aj},VR F ρ (.pointer p) (.pointer p')→VR F ρ v v'→
   bP P F (VR F) ρ (do if (←iG t) matches .unsafePointer then movedPointer t (.pointer p) v else movedNumber t (.pointer p) v) (do if (←iG t) matches .unsafePointer then movedPointer t (.pointer p') v' else movedNumber t (.pointer p') v'):=by
  intro p p' v v' hp hv;refine dh.bD fun d hd=>?_;rw[ht] at hd;cases hd;exact xd ht hp hv
 have pp:∀ {a a' b b':cU} (g:cU→cU→gZ aj) (g':cU→cU→gZ aj),(∀c d c' d',AR ρ c c'→AR ρ d d'→bP P F (VR F) ρ (g c d) (g' c' d'))→AR ρ a a'→AR ρ b b'→
   bP P F (VR F) ρ (do g (←uA a).1 (←uA b).1) (do g' (←uA a').1 (←uA b').1):=by
  intro a a' b b' g g' hg ha hb;exact(ig ha).dB fun c c' hc=>(ig hb).dB fun d d' hd=>hg _ _ _ _ hc.1 hd.1
 have pm:∀ {a a':cU} (k:IntKind) (n:Int),AR ρ a a'→bP P F (VR F) ρ (do Op.addrMod k (←uA a).1 n) (do Op.addrMod k (←uA a').1 n):=by
  intro a a' k n ha;exact(ig ha).dB fun c c' hc=>Hn hc.1 n
 have aeY:∀c d c' d',AR ρ c c'→AR ρ d d'→bP P F (VR F) ρ (Op.addrSub .u64 c d) (Op.addrSub .u64 c' d'):=fun c d c' d' hc hd=>by
  unfold Op.addrSub;exact uG R hc (b':=d')
 have MV:∀op c d c' d',AR ρ c c'→AR ρ d d'→bP P F (VR F) ρ (Op.addrCmp op c d) (Op.addrCmp op c' d'):=fun op c d c' d' hc hd=>by
  unfold Op.addrCmp;exact uG R hc (b':=d')
 have aeZ:∀op a b,binOp op t (.string a) (.string b)=Op.stringOp op a b:=fun op a b=>by cases op<;>simp only[binOp]
 cases hx<;>cases hy<;>first
  |exact uJ
  |(rw[aeZ];exact wF)
  |(cases op<;>first|(cases hop;done)|exact wF|exact a7|exact cg (by simp)|exact abd (.ptr ‹_›) (.int _ _)|exact abd .Cb (.int _ _)|exact xd ht (.ptr ‹_›) (.int _ _)|exact xd ht .Cb (.int _ _)|exact pp _ _ aeY ‹_› ‹_›|exact pp _ _ (MV _) ‹_› ‹_›|exact pm _ _ ‹_›)
end
def oU(P:aI):Nat→aX→Bool
 |0,_=>false
 |n+1,t=>
  match P.underlying t with
  |some (.struct fs)=>fs.all fun f=>oU P n f.type
  |some (.array _ e)=>oU P n e
  |some .bool|some .string|some (.int _)|none=>true
  |_=>false
section
variable{P:aI}{F:Nat→Bool}{α β γ δ:Type}{A:Rn→α→β→Prop}{A':Rn→γ→δ→Prop}{ρ:Rn}
theorem tS{ι:Type}{f f':ι→β→gZ (ForInStep β)}{l:List ι}(hf:∀a∈l,∀b,bP P F (Same ρ fun _=>True) ρ (f a b) (f' a b)):∀b,bP P F (Same ρ fun _=>True) ρ (forIn l b f) (forIn l b f'):=by
 induction l with
 |nil=>intro b;exact cI
 |cons a l ih=>
  intro b;rw[List.forIn_cons,List.forIn_cons];refine(hf a (by simp) b).bD fun r _=>?_;cases r with
  |done b=>exact cI
  |yield b=>exact ih (fun a ha=>hf a (by simp[ha])) b
theorem rQ{ι:Type}{f f':ι→β→gZ (ForInStep β)}{l:Array ι}(hf:∀a∈l,∀b,bP P F (Same ρ fun _=>True) ρ (f a b) (f' a b))(b:β):bP P F (Same ρ fun _=>True) ρ (forIn l b f) (forIn l b f'):=by
 rw[←Array.forIn_toList,←Array.forIn_toList];exact tS (fun a ha=>hf a (by simpa using ha)) _
theorem rP{f f':Nat→β→gZ (ForInStep β)}(hf:∀a b,bP P F (Same ρ fun _=>True) ρ (f a b) (f' a b))(l:Std.Legacy.Range)(b:β):bP P F (Same ρ fun _=>True) ρ (forIn l b f) (forIn l b f'):=by
 rw[Std.Legacy.Range.forIn_eq_forIn_range',Std.Legacy.Range.forIn_eq_forIn_range'];exact tS (fun a _=>hf a) _
theorem pg(R:Ua P ρ):∀(n d:Nat) (t:aX),oU P n t=true→∀(x x' y y':aj),VR F ρ x x'→VR F ρ y y'→bP P F (Same ρ fun _=>True) ρ (Op.equalIn d t x y) (Op.equalIn d t x' y')
 |0,d,t,h,x,x',y,y',hx,hy=>by cases h
 |n+1,0,t,h,x,x',y,y',hx,hy=>by simp only[Op.equalIn];exact cg (by simp)
 |n+1,d+1,t,h,x,x',y,y',hx,hy=>by
  simp only[Op.equalIn];refine dh.bD fun ds Kw=>?_;simp only[oU,Kw] at h;cases ds with
  |bool=>cases hx<;>first|exact a7|(cases hy<;>first|exact a7|exact cI)
  |string=>cases hx<;>first|exact a7|(cases hy<;>first|exact a7|exact cI)
  |int k=>
   cases hx with
   |int k1 m=>
    cases hy with
    |int k2 m2=>dsimp only;split<;>first|exact cI|exact a7
    |ptr ha=>
     cases m with
     |ofNat n=>
      cases n with
      |zero=>exact cI
      |succ n=>exact cg (by simp)
     |negSucc n=>exact cg (by simp)
    |_=>first|exact a7|exact cg (by simp)
   |ptr ha=>
    cases hy with
    |int k2 m2=>
     cases m2 with
     |ofNat n=>
      cases n with
      |zero=>exact cI
      |succ n=>exact cg (by simp)
     |negSucc n=>exact cg (by simp)
    |ptr hb=>
     dsimp only;refine(ig ha).dB fun c c' hc=>(ig hb).dB fun d d' hd=>j8 ?_
     have e1:(c.fst.block==d.fst.block&&decide (c.fst.block<P.globals.size))=false:=by
      have:=(R.low _ _ hc.1.block).1;simp;omega
     have e2:(c'.fst.block==d'.fst.block&&decide (c'.fst.block<P.globals.size))=false:=by
      have:=(R.low _ _ hc.1.block).2;simp;omega
     simp only[e1,e2,bu,if_false];refine jn.bD fun i _=>?_;split
     ·have e3:=hc.1.eq_iff R.inj hd.1
      by_cases he:c.fst=d.fst
      ·simp only[he,beq_self_eq_true,if_true,e3.1 he];exact cI
      ·have he':=fun h=>he (e3.2 h);simp only[beq_eq_false_iff_ne.2 he,bu,if_false];exact cg (by simp)
     ·exact cg (by simp)
    |_=>first|exact a7|exact cg (by simp)
   |_=>cases hy<;>first|exact a7|exact cg (by simp)
  |struct fs=>
   cases hx<;>first|exact a7|(cases hy<;>first|exact a7|skip)
   rename_i cs cs' hs hv ds ZO hs' hv';dsimp only;refine j8 ?_;split
   ·exact .dead ((eR (by simp)).bind _)
   ·refine bP.bD (C:=fun _=>True) (rQ (fun f hf b=>?_) _) fun r _=>?_
    ·split
     ·refine(nE ⟨hs,hv⟩ _).dB fun p p' hp=>(nE ⟨hs',hv'⟩ _).dB fun q q' hq=>?_;refine(pg R n d f.type (jY.1 h f hf) _ _ _ _ hp hq).bD fun b _=>?_;split<;>exact cI
     ·exact cI
    ·split<;>exact cI
  |array len e=>
   cases hx<;>first|exact a7|(cases hy<;>first|exact a7|skip)
   rename_i cs cs' hs hv ds ZO hs' hv';dsimp only;refine gu.bD fun m _=>?_;refine bP.bD (C:=fun _=>True) (rP (fun i b=>?_) _ _) fun r _=>?_
   ·refine(nE ⟨hs,hv⟩ _).dB fun p p' hp=>(nE ⟨hs',hv'⟩ _).dB fun q q' hq=>?_;refine(pg R n d e h _ _ _ _ hp hq).bD fun b _=>?_;split<;>exact cI
   ·split<;>exact cI
  |_=>cases h
theorem nU{em:Bool}:∀(n d:Nat) (t:aX),oU P n t=true→∀(x x':aj),VR F ρ x x'→bP P F (Same ρ fun _=>True) ρ (nu em d t x) (nu em d t x')
 |0,d,t,h,x,x',hx=>by cases h
 |n+1,0,t,h,x,x',hx=>by simp only[nu];exact cg (by simp)
 |n+1,d+1,t,h,x,x',hx=>by
  simp only[nu];refine dh.bD fun ds Kw=>?_;simp only[oU,Kw] at h;cases ds with
  |bool=>cases hx<;>exact cI
  |string=>cases hx<;>exact cI
  |int k=>cases hx<;>exact cI
  |struct fs=>
   cases hx<;>first|exact a7|skip
   rename_i cs cs' hs hv;dsimp only;refine bP.bD (C:=fun _=>True) (rQ (fun f hf b=>?_) _) fun _ _=>cI;split
   ·refine(nE ⟨hs,hv⟩ _).dB fun p p' hp=>?_;refine(nU n d f.type (jY.1 h f hf) _ _ hp).bD fun b _=>?_;exact cI
   ·exact cI
  |array len e=>
   cases hx<;>first|exact a7|skip
   rename_i cs cs' hs hv;dsimp only;refine bP.bD (C:=fun _=>True) (rP (fun i b=>?_) _ _) fun _ _=>cI;refine gu.bD fun m _=>(nE ⟨hs,hv⟩ _).dB fun p p' hp=>?_;refine(nU n d e h _ _ hp).bD fun b _=>?_;exact cI
  |_=>cases h
inductive EL(F:Nat→Bool)(ρ:Rn):List tM→List tM→Prop
 |nil:EL F ρ [] []
 |cons {x y:tM} {l m:List tM}:MER F ρ x y→EL F ρ l m→EL F ρ (x::l) (y::m)
theorem XH{l m:List tM}(hs:l.length=m.length)(h:∀(i:Nat) (x y:tM),l[i]?=some x→m[i]?=some y→MER F ρ x y):EL F ρ l m:=by
 induction l generalizing m with
 |nil=>
  cases m with
  |nil=>exact .nil
  |cons y m=>cases hs
 |cons x l ih=>
  cases m with
  |nil=>cases hs
  |cons y m=>exact .cons (h 0 x y rfl rfl) (ih (by simpa using hs) fun i a b h1 h2=>h (i+1) a b (by simpa using h1) (by simpa using h2))
def Fnd(F:Nat→Bool)(ρ:Rn)(x y:Option (Nat × aj)):Prop:=(x=none∧y=none)∨∃i v v',x=some (i,v)∧y=some (i,v')∧VR F ρ v v'
theorem B9(R:Ua P ρ){n:Nat}{t:aX}(h:oU P n t=true){k k':aj}(hk:VR F ρ k k'){l m:List tM}(he:EL F ρ l m) :
  ∀i,bP P F (At ρ (Fnd F ρ)) ρ (jg t k l i) (jg t k' m i):=by
 induction he with
 |nil=>intro i;exact .dn (.inl ⟨rfl,rfl⟩)
 |cons hx _ ih=>
  intro i;simp only[jg];refine(pg R n _ t h _ _ _ _ hk hx.key).bD fun b _=>?_;cases b with
  |true=>exact .dn (.inr ⟨i,_,_,rfl,rfl,hx.val⟩)
  |false=>exact ih (i+1)
theorem Pz{ds:TypeDesc}{k k' e e':aj}(hk:VR F ρ k k')(he:VR F ρ e e'):Instr.sameNow ds k e=Instr.sameNow ds k' e':=by
 cases ds<;>cases hk<;>first|rfl|(cases he<;>rfl)
theorem QA{ds:TypeDesc}{k k':aj}(hk:VR F ρ k k'){l m:List tM}(he:EL F ρ l m):∀i,
  (Instr.findNow ds k l i=none∧Instr.findNow ds k' m i=none)∨∃x y,Instr.findNow ds k l i=some x∧Instr.findNow ds k' m i=some y∧Fnd F ρ x y:=by
 induction he with
 |nil=>intro i;exact .inr ⟨none,none,rfl,rfl,.inl ⟨rfl,rfl⟩⟩
 |cons hx _ ih=>
  intro i;simp only[Instr.findNow,←Pz (ds:=ds) hk hx.key];split
  ·exact .inr ⟨_,_,rfl,rfl,.inr ⟨i,_,_,rfl,rfl,hx.val⟩⟩
  ·exact ih (i+1)
  ·exact .inl ⟨rfl,rfl⟩
theorem yx(R:Ua P ρ){n:Nat}{t:aX}(h:oU P n t=true){k k':aj}(hk:VR F ρ k k'){l m:List tM}(he:EL F ρ l m) :
  bP P F (At ρ (Fnd F ρ)) ρ (Cv t k l) (Cv t k' m):=by
 unfold Cv;refine dh.bD fun ds _=>?_;rcases QA (ds:=ds) hk he 0 with⟨h1,h2⟩|⟨x,y,h1,h2,h3⟩
 ·simp only[h1,h2];exact B9 R h hk he 0
 ·simp only[h1,h2];exact .dn h3
def Sd(P:aI)(t:aX):Bool:=match P.underlying t with|some (.map k e)=>oU P 6 k&&nZ P e|_=>true
theorem Bj{r r':Nat}(h:ρ r=some r'):bP P F (At ρ (OR F ρ)) ρ (getObj r) (getObj r'):=.getObj h fun o o' ho=>.dn ho
theorem JM(R:Ua P ρ){t:aX}(ht:Sd P t=true){x x' k k':aj}(hx:VR F ρ x x')(hk:VR F ρ k k')(ok:Bool) :
  bP P F (At ρ (VR F ρ)) ρ (Instr.lookup t x k ok) (Instr.lookup t x' k' ok):=by
 unfold Instr.lookup;refine dh.bD fun ds Kw=>?_;cases ds<;>first|exact a7|skip
 rename_i kt et;simp only[Sd,Kw,aC] at ht;dsimp only
 have rest:∀ {es es':Array tM},es.size=es'.size→EL F ρ es.toList es'.toList→bP P F (At ρ (VR F ρ)) ρ
   (do
     nu es.isEmpty 10000 kt k
     let (v,o) ←match ←Cv kt k es.toList with
      |some (_,v)=>pure (v,true)
      |none=>pure (←iD et,false)
     pure (if ok then .tuple #[v,.bool o] else v))
   (do
     nu es'.isEmpty 10000 kt k'
     let (v,o) ←match ←Cv kt k' es'.toList with
      |some (_,v)=>pure (v,true)
      |none=>pure (←iD et,false)
     pure (if ok then .tuple #[v,.bool o] else v)):=by
  intro es es' hs he;have hem:es'.isEmpty=es.isEmpty:=by simp[Array.isEmpty,hs]
  rw[hem];refine(nU 6 _ kt ht.1 _ _ hk).bD fun _ _=>(yx R ht.1 hk he).dB fun p q hpq=>?_
  have fin:∀ {v v':aj} (b:Bool),VR F ρ v v'→bP P F (At ρ (VR F ρ)) ρ (eE (if ok then .tuple #[v,.bool b] else v)) (eE (if ok then .tuple #[v',.bool b] else v')):=by
   intro v v' b hv;cases ok
   ·exact .dn hv
   ·exact .dn ((iu.one hv).push (.bool b)).tuple
  rcases hpq with⟨rfl,rfl⟩|⟨i,v,v',rfl,rfl,hv⟩
  ·exact(kP ht.2).dB fun v v' hv=>fin false hv
  ·exact fin true hv
 cases hx<;>first|exact a7|skip
 ·exact rest rfl .nil
 ·rename_i r r' hr;refine(Bj hr).dB fun o o' ho=>?_;cases ho with
  |cells _ _=>exact a7
  |number _ _=>exact a7
  |map hs he=>exact rest hs (XH (by simpa using hs) fun i x y h1 h2=>he i x y (by simpa using h1) (by simpa using h2))
end
section
variable{P:aI}{F:Nat→Bool}{α β γ δ:Type}{A:Rn→α→β→Prop}{A':Rn→γ→δ→Prop}{ρ:Rn}
theorem Ka{f:aj × aj→Bool}{g:aj × aj→Bool}(h:∀x x' y y',VR F ρ x x'→VR F ρ y y'→f (x,y)=g (x',y')){l l':List aj}(hl:Q6 F ρ l l') :
  ∀ {m m':List aj},Q6 F ρ m m'→(l.zip m).all f=(l'.zip m').all g:=by
 induction hl with
 |nil=>intro m m' _;simp
 |cons hx _ ih=>
  intro m m' hm;cases hm with
  |nil=>simp
  |cons hy hm=>simp only[List.zip_cons_cons,List.all_cons];rw[h _ _ _ _ hx hy,ih hm]
theorem Mg(R:Ua P ρ):∀(n:Nat) (x x' y y':aj),VR F ρ x x'→VR F ρ y y'→Instr.sameBits n x y=Instr.sameBits n x' y':=by
 intro n
 have hp:∀ {a a' b b':cU},AR ρ a a'→AR ρ b b'→((some a==some b):Bool)=(some a'==some b'):=fun {a a' b b'} ha hb=>by
  have:=ha.eq_iff R.inj hb
  by_cases he:a=b
  ·rw[he,this.1 he];simp
  ·have he':=fun h=>he (this.2 h);rw[beq_eq_false_iff_ne.2 (by simpa using he),beq_eq_false_iff_ne.2 (by simpa using he')]
 induction n with
 |zero=>
  intro x x' y y' hx hy
  cases hx<;>cases hy<;>first
   |rfl
   |(simp only[Instr.sameBits];exact hp ‹_› ‹_›)
 |succ n ih=>
  intro x x' y y' hx hy
  cases hx<;>cases hy<;>first
   |rfl
   |(simp only[Instr.sameBits];exact hp ‹_› ‹_›)
   |(rename_i h1 h2 _ _ h3 h4
     simp only[Instr.sameBits]
     rw[h1,h3,Ka (F:=F) (ρ:=ρ) (f:=fun(x,y)=>Instr.sameBits n x y) (g:=fun(x,y)=>Instr.sameBits n x y) (fun x x' y y' hx hy=>ih x x' y y' hx hy) (iu.list ⟨h1,h2⟩) (iu.list ⟨h3,h4⟩)])
theorem yu(R:Ua P ρ){x x' y y':aj}(hx:VR F ρ x x')(hy:VR F ρ y y'):bP P F (At ρ (VR F ρ)) ρ (Instr.keyThatStays x y) (Instr.keyThatStays x' y'):=by
 unfold Instr.keyThatStays;rw[←Mg R _ _ _ _ _ hx hy];split
 ·exact .dn hy
 ·refine uK.bD fun n _=>?_;split
  ·exact .dn hy
  ·exact .dn hx
theorem Bh{r r':Nat}{o o':Obj}(h:ρ r=some r')(ho:OR F ρ o o'):bP P F (At ρ fun _ _=>True) ρ (setObj r o) (setObj r' o'):=.setObj h ho (.dn trivial)
def Mw(P:aI)(t:aX):Bool:=match P.underlying t with|some (.map k _)=>oU P 6 k|_=>true
theorem C9(R:Ua P ρ){t:aX}(ht:Mw P t=true){x x' k k' v v':aj}(hx:VR F ρ x x')(hk:VR F ρ k k')(hv:VR F ρ v v') :
  bP P F (At ρ fun _ _=>True) ρ (zQ t x k v) (zQ t x' k' v'):=by
 unfold zQ;refine dh.bD fun ds Kw=>?_;cases ds<;>first|exact a7|skip
 rename_i kt et;simp only[Mw,Kw] at ht;dsimp only;cases hx<;>first|exact a7|exact fX|skip
 rename_i r r' hr;dsimp only;refine(Bj hr).dB fun o o' ho=>?_;cases ho with
 |cells _ _=>exact a7
 |number _ _=>exact a7
 |@map es es' clk hs he=>
  dsimp only;have hel:EL F ρ es.toList es'.toList:=XH (by simpa using hs) fun i x y h1 h2=>he i x y (by simpa using h1) (by simpa using h2);refine(nU 6 _ kt ht _ _ hk).bD fun _ _=>(yx R ht hk hel).dB fun p q hpq=>?_;rcases hpq with⟨rfl,rfl⟩|⟨i,w,w',rfl,rfl,hw⟩
  ·refine Bh hr (.map (by simp[hs]) fun i x y h1 h2=>?_);rw[kN] at h1 h2;rw[←hs] at h2;split at h1
   ·rename_i hi;simp only[hi,if_true] at h2;cases h1;cases h2;exact⟨hk,hv,rfl⟩
   ·rename_i hi;simp only[hi,if_false] at h2;exact he _ _ _ h1 h2
  ·dsimp only
   have sI:VR F ρ (((es[i]?).map (·.key)).getD k) (((es'[i]?).map (·.key)).getD k'):=by
    cases hx:es[i]? with
    |none=>
     have:es'[i]?=none:=by
      rw[Array.getElem?_eq_none_iff] at hx ⊢;omega
     rw[this];exact hk
    |some x=>
     have hi:i<es.size:=(ak.1 hx).1;have hi':i<es'.size:=hs▸hi;rw[aM hi'];exact(he i x _ hx (aM hi')).key
   refine(yu R sI hk).dB fun key akq hkey=>?_;refine Bh hr (.map (by simp[hs]) fun j x y h1 h2=>?_);rw[oY] at h1 h2
   by_cases hj:i=j
   ·subst hj;simp only[if_true] at h1 h2;cases hx:es[i]? with
    |none=>rw[hx] at h1;cases h1
    |some x0=>
     cases hy:es'[i]? with
     |none=>rw[hy] at h2;cases h2
     |some y0=>
      rw[hx] at h1;rw[hy] at h2;cases h1;cases h2;exact⟨hkey,hv,(he _ _ _ hx hy).born⟩
   ·simp only[hj,if_false] at h1 h2;exact he _ _ _ h1 h2
theorem Hh{t:aX}:bP P F (VR F) ρ (Instr.makeMap t none) (Instr.makeMap t none):=by
 unfold Instr.makeMap;exact bP.bind (A:=fun ρ' r r'=>ρ' r=some r') (.new (.map rfl fun i x y h=>by simp at h) fun ρ' r r' _ hr=>.pure hr) fun ρ' r r' _ hr=>.pure (.map hr)
theorem nT{v v':aj}(h:VR F ρ v v'):bP P F (At ρ (AR ρ)) ρ (Instr.sureAddr v) (Instr.sureAddr v'):=by
 cases h<;>first|exact a7|exact .dn ‹_›
theorem JN{t:aX}{v v':aj}(h:VR F ρ v v'):bP P F (At ρ (VR F ρ)) ρ (A3 t v) (A3 t v'):=by
 unfold A3;exact(nT h).dB fun a a' ha=>yr ha
theorem Hf{t:aX}{v v' x x':aj}(h:VR F ρ v v')(hx:VR F ρ x x'):bP P F (At ρ fun _ _=>True) ρ (Instr.storeAt t v x) (Instr.storeAt t v' x'):=by
 unfold Instr.storeAt;exact(nT h).dB fun a a' ha=>Fh ha hx
def HV(P:aI)(s:aX)(f:Nat):Bool:=match P.underlying s with
 |some (.struct fs)=>(match fs[f]? with|some fl=>(match P.info? fl.type with|some i=>i.size !=0|none=>true)|none=>true)
 |_=>true
theorem Hk{s:aX}{f:Nat}(hf:HV P s f=true){v v':aj}(h:VR F ρ v v'):bP P F (At ρ (VR F ρ)) ρ (Instr.fieldAt s v f) (Instr.fieldAt s v' f):=by
 unfold Instr.fieldAt;refine dh.bD fun ds Kw=>?_;cases ds<;>first|exact a7|skip
 rename_i fs;simp only[HV,Kw] at hf;dsimp only;cases hfl:fs[f]? with
 |none=>exact a7
 |some fl=>
  rw[hfl] at hf;simp only at hf ⊢;refine(nT h).dB fun a a' ha=>?_;unfold fieldPlace;refine bP.dB (Q:=AR ρ) (gu.bD fun n hn=>?_) fun b b' hb=>.dn (.ptr hb);obtain⟨i,hi,rfl⟩:=hn;rw[hi] at hf;have hne:¬i.size=0:=by simpa using hf
  simp only[hne,if_false];exact .dn (ha.add _)
theorem Hj{t:aX}{v v' i i':aj}(h:VR F ρ v v')(hi:VR F ρ i i'):bP P F (At ρ (VR F ρ)) ρ (jf t v i) (jf t v' i'):=by
 unfold jf;refine(sP hi).bD fun x hx=>?_;obtain⟨k,n⟩:=x;dsimp only
 have rest:∀ {b b':Option cU} (len:Nat) (e:aX),VR F ρ (.pointer b) (.pointer b')→bP P F (At ρ (VR F ρ)) ρ
   (do
     let tiny:=len≤1&&(match ←iG t with|.array ..=>true|_=>false)
     match b with
     |some a=>
      if 0≤n∧n<len then pure (.pointer (some (a.add (n.toNat*(←sizeOf e)))))
      else if tiny then qC (.noEntry "op/indexAddr.an index out of range at an array of length 0 or 1 (ledger 616)")
      else boundsPanic k n len .index
     |none=>boundsPanic k n 0 .index)
   (do
     let tiny:=len≤1&&(match ←iG t with|.array ..=>true|_=>false)
     match b' with
     |some a=>
      if 0≤n∧n<len then pure (.pointer (some (a.add (n.toNat*(←sizeOf e)))))
      else if tiny then qC (.noEntry "op/indexAddr.an index out of range at an array of length 0 or 1 (ledger 616)")
      else boundsPanic k n len .index
     |none=>boundsPanic k n 0 .index):=by
  intro b b' len e hb;refine dh.bD fun ds _=>?_;cases hb with
  |Cb=>exact lh
  |ptr ha=>
   dsimp only;split
   ·exact gu.bD fun m _=>.dn (.ptr (ha.add _))
   ·generalize (decide (len≤1)&&_:Bool)=tiny;cases tiny
    ·exact lh
    ·exact cg (by simp)
 refine dh.bD fun ds Kw=>?_;cases ds with
 |array len e=>exact(nT h).dB fun a a' ha=>rest len e (.ptr ha)
 |slice e=>
  cases h<;>first|exact a7|skip
  ·rename_i l c;exact rest l e .Cb
  ·exact rest _ e (.ptr ‹_›)
 |_=>cases h<;>exact a7
theorem Ma{t:aX}{v v' i i':aj}(h:VR F ρ v v')(hi:VR F ρ i i'):bP P F (At ρ (VR F ρ)) ρ (mC t v i) (mC t v' i'):=by
 unfold mC;refine(sP hi).bD fun x hx=>?_;obtain⟨k,n⟩:=x;dsimp only;refine dh.bD fun ds Kw=>?_;cases ds with
 |string=>
  cases h<;>first|exact a7|skip
  dsimp only;generalize (if 0≤n then _ else _:Option UInt8)=o;cases o with
  |none=>exact lh
  |some b=>exact .dn (.int _ _)
 |array len e=>
  cases h<;>first|exact a7|skip
  rename_i hs hv;dsimp only;split
  ·exact gu.bD fun m _=>nE ⟨hs,hv⟩ _
  ·exact lh
 |_=>cases h<;>exact a7
theorem Hl{v v':aj}(h:VR F ρ v v')(i:Nat):bP P F (At ρ (VR F ρ)) ρ (Instr.extract v i) (Instr.extract v' i):=by
 unfold Instr.extract;cases h<;>first|exact a7|skip
 rename_i hs hv;have ha:iu F ρ _ _:=⟨hs,hv⟩
 dsimp only;split
 ·rename_i x hx;obtain⟨y,hy,hvy⟩:=ha.get hx;rw[hy];exact .dn hvy
 ·exact a7
theorem Me{e:aX}(h:nZ P e=true):bP P F (VR F) ρ (Instr.alloc e true (.tuple #[])) (Instr.alloc e true (.tuple #[])):=by
 unfold Instr.alloc;exact(kP h).dB fun v v' hv=>bP.bind (Bi hv) fun ρ' a a' _ ha=>.pure (.ptr ha)
theorem RI{e:aX}{v v':aj}(h:VR F ρ v v'):bP P F (VR F) ρ (Instr.box e v) (Instr.box e v'):=by
 unfold Instr.box;exact bP.bind (Bi h) fun ρ' a a' _ ha=>.pure (.ptr ha)
end
end Go.Lag
