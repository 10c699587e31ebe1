/- A DRAWN REGION, EACH OPERATION BY ITSELF: what each operation gives is .. -/
import Derived.RegionTactic
import Derived.OrdersIn
import Derived.Below
import Derived.Laws.Tables
import Derived.ProofKit
import Derived.Deep.Slices
import Derived.Test.YtffladgmkiimjaaGreatDoorW00
set_option linter.all false
set_option maxHeartbeats 100000000
set_option maxRecDepth 1000000
open Array renaming getElem?_eq_getElem → aM,replicate → aT,getD_eq_getD_getElem? → aV,getElem?_eq_some_iff → ak,getElem?_setIfInBounds → bw,mem_of_getElem? → eH,getD → eb,getElem?_eq_none → fg,getElem_toList → qE,getElem?_replicate → qx,toList_map → vw
open Bool renaming not_true → Cw,and_eq_true → aC
open Go renaming Program → aI,TypeId → aX,undef → af,Value → aj,World → ar,Operand → bE,execOp → bX,Calls → bm,Oper → cz,Act → iR,yielded → jR,Tmp → kz,step → m8
open Go.Ending renaming returned → aF
open Go.IntKind renaming i64 → ag
open Go.Lib renaming hid → ai
open Go.Proofs.Tryz renaming prog → aq,underlying28 → cB,underlying3 → eo
open Go.Region renaming wanted → cF,binds → fe,ready → iI
open Go.Result renaming andThen_ok → A0
open Go.RowKit renaming Below → az
open Go.RowKit.Below renaming refl → aw
open Go.Value renaming int → aD,slice → ae,int → ah
open List renaming map_congr_left → Fe,range → aU,all_eq_true → aW,eq_nil_of_length_eq_zero → aY,mem_range → bB,mem_cons_of_mem → bI,mem_cons → bR,range' → bS,take_of_length_le → cQ,mem_cons_self → cR,getElem_mem → cu,drop_eq_getElem_cons → dN,mem_map → dc,mem_of_mem_take → fj,mem_filter → gi,getElem_of_mem → ji,range_eq_range' → mA,getElem?_eq_some_iff → oM,countP_le_length → wV
open List.cons renaming injEq → zP
open Nat renaming le_refl → ax,zero_add → cZ,eq_of_beq_eq_true → gS,add_assoc → ng
open Ne renaming symm → A1
open Option renaming map_some → dH,bind_some → gg
open Prod.mk renaming injEq → iq
namespace Go.Lag
open Go Go.RowKit
abbrev pv(b i:Nat):Value:=.pointer (some ⟨b,i,none⟩)
def Yields(P:aI)(o:cz)(ev:bE→aj)(w:ar)(R:aj→ar→Prop):Prop:=
 match (bX ev o).run P w with
 |.ok (.value v) w'=>R v w'
 |.ok .skip w'=>R af w'
 |.ok (.enter f args) w'=>bm P f args w' fun e w''=>∃v,e=.returned v∧R v w''
 |_=>False
theorem Yields.value{P:aI}{o:cz}{ev:bE→aj}{w w':ar}{R:aj→ar→Prop}{v:aj}(he:(bX ev o).run P w=.ok (.value v) w')(h:R v w'):Yields P o ev w R:=by
 unfold Yields;rw[he];exact h
theorem Yields.skip{P:aI}{o:cz}{ev:bE→aj}{w w':ar}{R:aj→ar→Prop}(he:(bX ev o).run P w=.ok .skip w')(h:R af w'):Yields P o ev w R:=by
 unfold Yields;rw[he];exact h
theorem Yields.call{P:aI}{o:cz}{ev:bE→aj}{w:ar}{R:aj→ar→Prop}{f:FuncId}{args:Array aj}{R':Ending→ar→Prop}(he:(bX ev o).run P w=.ok (.enter f args) w)
  (h:bm P f args w R') (hr:∀e w',R' e w'→∃v,e=.returned v∧R v w'):Yields P o ev w R:=by
 unfold Yields;rw[he];exact h.mono hr
theorem Yields.wp{P:aI}{o:cz}{a:iR}{w:ar}{R:aj→ar→Prop}{K:iR→ar→Prop}{Q:Exit→iR→ar→Prop}(h:Yields P o a.eval w R)
  (hk:∀v w',R v w'→K (a.put o.dst v) w'):o.wp P a w K Q:=by
 unfold Oper.wp;unfold Yields at h;generalize (bX a.eval o).run P w=r at *;cases r with
 |halt x w'=>exact h.elim
 |ok n w'=>
  cases n<;>simp only[] at h
  ·exact hk _ _ h
  ·exact hk _ _ h
  all_goals first|exact h.elim|skip
  ·exact h.mono (by rintro e w'' ⟨v,rfl,hv⟩;exact hk _ _ hv)
abbrev Pred:=aj→List aj→ar→Prop
def dT(ops:Array cz)(j:Nat):Option Tmp:=(ops[j]?).bind (·.dst)
def iK(d:Option kz)(ev:bE→aj):Value:=
 match d with
 |some d=>ev (.tmp d)
 |none=>af
def fG(Vs:List Pred)(i:Nat):Pred:=Vs.getD i fun _ _ _=>True
def fU(ops:Array cz)(ev:bE→aj)(l:List Edge):List Value:=(l.filter (fe .any)).map fun e=>iK (dT ops e.on) ev
def fJ(ops:Array cz)(i:Nat):List Edge:=match ops[i]? with|some o=>o.after.toList|none=>[]
def gF(ev:bE→aj):List (kz × aj)→Prop
 |[]=>True
 |(t,v)::l=>ev (.tmp t)=v∧gF ev l
def E0(ops:Array cz)(Vs:List Pred)(ev:bE→aj)(w:ar):List Edge→Prop
 |[]=>True
 |e::l=>(fe .any e=true→fG Vs e.on (iK (dT ops e.on) ev) (fU ops ev (fJ ops e.on)) w)∧E0 ops Vs ev w l
def Post(ops:Array cz)(ev:bE→aj)(Vs:List Pred)(S:ar→Prop)(i:Nat)(o:cz)(w:ar)(v:aj)(w':ar):Prop:=
 fG Vs i (match o.dst with|some _=>v|none=>af) (fU ops ev o.after.toList) w'∧(az w.heap.size w w'∨(S w'∧∀k u ds,k≠i→fG Vs k u ds w→fG Vs k u ds w'))
abbrev lK:=cz→(bE→aj)→ar→(aj→ar→Prop)→Prop
def LQ(Y:lK)(ops:Array cz)(Vs:List Pred)(S:ar→Prop)(base:List (kz × aj))(i:Nat)(o:cz):Prop:=
 ∀(ev:bE→aj) (w:ar),S w→(∀v,ev (.const v)=v)→(∀g,ev (.global g)=.pointer (some ⟨g,0,none⟩))→(∀f,ev (.func f)=.func (.func f) #[] #[])→gF ev base→E0 ops Vs ev w o.after.toList→
  match o.guard with
  |none=>Y o ev w (Post ops ev Vs S i o w)
  |some (j,b)=>(∃r,iK (dT ops j) ev=.bool r)∧∀r,iK (dT ops j) ev=.bool r→if r=b then Y o ev w (Post ops ev Vs S i o w) else Post ops ev Vs S i o w af w
def Each(Y:lK)(ops:Array cz)(Vs:List Pred)(S:ar→Prop)(base:List (kz × aj)):Nat→List cz→Prop
 |_,[]=>True
 |i,o::l=>LQ Y ops Vs S base i o∧Each Y ops Vs S base (i+1) l
def jd(S:ar→Prop):List Pred→Prop
 |[]=>True
 |V::l=>(∀u ds w w',S w→V u ds w→az w.heap.size w w'→V u ds w')∧jd S l
def iZ(ops:Array cz)(n:Nat)(base:List (kz × aj)):Bool:=
 ((aU ops.size).all fun i=>
  match ops[i]? with
  |none=>false
  |some o=>(o.after.toList.all fun e=>!Region.binds .any e||decide (e.on<i)) &&
   (match o.dst with|some d=>decide (d<n)&&(base.all fun p=>decide (p.1≠d))&&((aU i).all fun j=>decide (dT ops j≠some d))|none=>true) &&
   (match o.guard with|some (j,_)=>(o.after.toList.any fun e=>fe .any e&&decide (e.on=j))|none=>true)) &&
 (base.all fun p=>decide (p.1<n))
section
variable{P:aI}{ops:Array cz}{Q:Exit→iR→ar→Prop}{Vs:List Pred}{S:ar→Prop}{base:List (kz × aj)}{n:Nat}
theorem Each.get{Y:lK}{i:Nat}{l:List cz}(h:Each Y ops Vs S base i l){j:Nat}{o:cz}(hj:l[j]?=some o):LQ Y ops Vs S base (i+j) o:=by
 induction l generalizing i j with
 |nil=>simp at hj
 |cons x l ih=>
  cases j with
  |zero=>simp at hj;subst hj;exact h.1
  |succ j=>have:=ih h.2 (j:=j) (by simpa using hj);rwa [ng,Nat.add_comm 1 j] at this
theorem jd.get(h:jd S Vs)(i:Nat){u:aj}{ds:List aj}{w w':ar}(hS:S w)(hb:az w.heap.size w w')(hv:fG Vs i u ds w):fG Vs i u ds w':=by
 induction Vs generalizing i with
 |nil=>trivial
 |cons V l ih=>
  cases i with
  |zero=>exact h.1 u ds w w' hS hv hb
  |succ i=>exact ih h.2 i hv
theorem gF.congr{ev El:bE→aj}{l:List (kz × aj)}(h:gF ev l)(he:∀p∈l,El (.tmp p.1)=ev (.tmp p.1)):gF El l:=by
 induction l with
 |nil=>trivial
 |cons p l ih=>exact⟨(he p (by simp)).trans h.1,ih h.2 fun q hq=>he q (by simp[hq])⟩
theorem E0.of{ev:bE→aj}{w:ar}{l:List Edge}(h:∀e∈l,fe .any e=true→fG Vs e.on (iK (dT ops e.on) ev) (fU ops ev (fJ ops e.on)) w):E0 ops Vs ev w l:=by
 induction l with
 |nil=>trivial
 |cons e l ih=>exact⟨h e (by simp),ih fun e' he=>h e' (by simp[he])⟩
theorem yD(a:iR)(d:Option kz)(v:aj):(a.put d v).tmps.size=a.tmps.size:=by cases d<;>simp[Act.put]
theorem put_defers(a:iR)(d:Option kz)(v:aj):(a.put d v).defers=a.defers:=by cases d<;>rfl
theorem sQ(a:iR)(d:Option kz)(v:aj)(t:kz)(h:d≠some t):(a.put d v).eval (.tmp t)=a.eval (.tmp t):=by
 cases d with
 |none=>rfl
 |some d=>
  have:d≠t:=fun e=>h (by rw[e]);simp[Act.put,Act.eval,aV,bw,this]
theorem put_eq(a:iR)(d:kz)(v:aj)(h:d<a.tmps.size):(a.put (some d) v).eval (.tmp d)=v:=by
 simp[Act.put,Act.eval,aV,bw,h]
structure iX(ops:Array cz)(Vs:List Pred)(S:ar→Prop)(a0:iR)(L:Array Bool)(a:iR)(w:ar):Prop where
 tU:L.size=ops.size
 size:a.tmps.size=a0.tmps.size
 defers:a.defers=a0.defers
 s:S w
 keep:∀t,(∀o∈ops.toList,o.dst≠some t)→a.eval (.tmp t)=a0.eval (.tmp t)
 closed:∀i e,L.getD i false=true→e∈fJ ops i→fe .any e=true→L.getD e.on false=true
 vals:∀i,L.getD i false=true→fG Vs i (iK (dT ops i) a.eval) (fU ops a.eval (fJ ops i)) w
theorem Lu{i:Nat}{e:Edge}(cS:iZ ops n base=true)(he:e∈fJ ops i)(hb:fe .any e=true):e.on<ops.size:=by
 unfold fJ at he
 by_cases hi:i<ops.size
 ·have vU:ops[i]?=some ops[i]:=aM hi;rw[vU] at he;unfold iZ at cS;rw[aC,aW] at cS;have h2:=cS.1 i (bB.2 hi);rw[vU] at h2;simp only[aC] at h2;have h3:=aW.1 h2.1.1 e he;simp only[hb,Cw,Bool.false_or,decide_eq_true_eq] at h3;omega
 ·simp[fg (Nat.le_of_not_lt hi)] at he
theorem py{ev El:bE→aj}{l:List Edge}(h:∀e∈l,fe .any e=true→iK (dT ops e.on) El=iK (dT ops e.on) ev):fU ops El l=fU ops ev l:=by
 unfold fU;apply Fe;intro e he;rw[gi] at he;exact h e he.1 he.2
theorem ready_nil{L:Array Bool}(cS:iZ ops n base=true)(hL:L.size=ops.size)(h:iI .any ops L=[]):∀i,i<ops.size→L.getD i false=true:=by
 intro i
 induction i using Nat.strongRecOn with
 |ind i ih=>
  intro hi;refine Classical.byContradiction fun hc=>?_
  have hm:i∈iI .any ops L:=by
   unfold iI;rw[gi];have vU:ops[i]?=some ops[i]:=aM hi;refine⟨bB.2 hi,?_⟩;have uW:i<L.size:=by omega
   have h1:L.getD i true=false:=by
    simp[eb,uW] at hc ⊢;exact hc
   rw[h1,vU];simp only[Bool.not_false,Bool.true_and,dH,Option.getD_some];rw[Array.all_eq_true];intro k hk;unfold iZ at cS;rw[aC,aW] at cS;have h2:=cS.1 i (bB.2 hi);rw[vU] at h2;simp only[aC] at h2;have h3:=aW.1 h2.1.1 (ops[i].after[k]) (by simp);simp only[Bool.or_eq_true,Bool.not_eq_true',decide_eq_true_eq] at h3 ⊢;rcases h3 with h3|h3
   ·exact .inl h3
   ·exact .inr (ih _ h3 (by omega))
  rw[h] at hm;cases hm
def anyOf(m8:Nat→(iR→ar→Prop)→iR→ar→Prop)(ops:Array cz)(Q:Exit→iR→ar→Prop):Nat→Array Bool→iR→ar→Prop
 |0,L,a,w=>iI .any ops L=[]∧Q .normal a w
 |fuel+1,L,a,w=>(iI .any ops L=[]→Q .normal a w)∧∀i∈iI .any ops L,m8 i (anyOf m8 ops Q fuel (L.setIfInBounds i true)) a w
theorem CW:∀fuel L,wpAny P .any ops Q fuel L=anyOf (wpOp P ops Q) ops Q fuel L
 |0,L=>rfl
 |fuel+1,L=>by
  funext a w
  simp only[wpAny,anyOf];simp only[CW fuel]
theorem xg{a0:iR}{w:ar}(hS:S w):iX ops Vs S a0 (aT ops.size false) a0 w:=⟨by simp,rfl,rfl,hS,fun _ _=>rfl,fun i e hi _ _=>by
  simp[aV,qx] at hi;split at hi<;>simp at hi,fun i hi=>by
  simp[aV,qx] at hi
  split at hi<;>simp at hi⟩
theorem vd:(aT ops.size false).toList.countP (!·)≤ops.size:=by simpa using wV (p:=(!·)) (l:=List.replicate ops.size false)
end
namespace Gd
open Go Go.RowKit
def LQ(Y:lK)(ops:Array cz)(Vs:List Pred)(S:ar→Prop)(base:List (kz × aj))(i:Nat)(o:cz):Prop:=
 ∀(ev:bE→aj) (w:ar),S w→(∀v,ev (.const v)=v)→(∀g,ev (.global g)=.pointer (some ⟨g,0,none⟩))→(∀f,ev (.func f)=.func (.func f) #[] #[])→gF ev base→E0 ops Vs ev w o.after.toList→
  match o.guard with
  |none=>Y o ev w (Post ops ev Vs S i o w)
  |some (j,b)=>(iK (dT ops j) ev=.bool b→Y o ev w (Post ops ev Vs S i o w))∧(iK (dT ops j) ev≠.bool b→Post ops ev Vs S i o w af w)
def Each(Y:lK)(ops:Array cz)(Vs:List Pred)(S:ar→Prop)(base:List (kz × aj)):Nat→List cz→Prop
 |_,[]=>True
 |i,o::l=>LQ Y ops Vs S base i o∧Each Y ops Vs S base (i+1) l
section
variable{P:aI}{ops:Array cz}{Q:Exit→iR→ar→Prop}{Vs:List Pred}{S:ar→Prop}{base:List (kz × aj)}{n:Nat}
theorem Each.get{Y:lK}{i:Nat}{l:List cz}(h:Each Y ops Vs S base i l){j:Nat}{o:cz}(hj:l[j]?=some o):LQ Y ops Vs S base (i+j) o:=by
 induction l generalizing i j with
 |nil=>simp at hj
 |cons x l ih=>
  cases j with
  |zero=>simp at hj;subst hj;exact h.1
  |succ j=>have:=ih h.2 (j:=j) (by simpa using hj);rwa [ng,Nat.add_comm 1 j] at this
theorem zH{Y:lK}{m8:Nat→(iR→ar→Prop)→iR→ar→Prop}
  (hs1:∀i o K a w R,ops[i]?=some o→cF o (jR ops a.tmps)=true→Y o a.eval w R→(∀v w',R v w'→K (a.put o.dst v) w')→m8 i K a w)
  (hs2:∀i o K a w,ops[i]?=some o→¬cF o (jR ops a.tmps)=true→K (a.put o.dst af) w→m8 i K a w)
  (cS:iZ ops n base=true) (Ed:jd S Vs) (LM:∀w w',S w→az w.heap.size w w'→S w') (a0:iR) (hn:a0.tmps.size=n) (hbase:gF a0.eval base) (lo:Nat) (hE:∀j o,lo≤j→ops[j]?=some o→LQ Y ops Vs S base j o)
  (hQ:∀a w,iX ops Vs S a0 (aT ops.size true) a w→Q .normal a w) :
  ∀fuel (L:Array Bool) (a:iR) (w:ar),L.toList.countP (!·)≤fuel→(∀k,k<lo→L.getD k false=true)→iX ops Vs S a0 L a w→anyOf m8 ops Q fuel L a w:=by
 have fin:∀(L:Array Bool) (a:iR) (w:ar),iI .any ops L=[]→iX ops Vs S a0 L a w→Q .normal a w:=fun L a w hr h=>
  hQ a w ⟨by simp,h.size,h.defers,h.s,h.keep,fun i e hi he hb=>by
   have hlt:e.on<ops.size:=Lu cS he hb;simp[eb,hlt],fun i hi=>by
   by_cases hlt:i<ops.size
   ·exact h.vals i (ready_nil cS h.tU hr i hlt)
   ·simp[eb,hlt] at hi⟩
 intro fuel
 induction fuel with
 |zero=>
  intro L a w hc hlo h
  have hr:iI .any ops L=[]:=by
   apply List.eq_nil_iff_forall_not_mem.2;intro i hi;unfold iI at hi;rw[gi,bB] at hi;obtain⟨hi,h2⟩:=hi;have uW:i<L.size:=by have:=h.tU;omega
   simp[eb,uW] at h2;have h0:=List.countP_eq_zero.1 (Nat.le_zero.1 hc) L[i] (by simp);simp[h2.1] at h0
  exact⟨hr,fin L a w hr h⟩
 |succ fuel ih=>
  intro L a w hc hlo h;refine⟨fun hr=>fin L a w hr h,fun i hi=>?_⟩;have hi':=hi;unfold iI at hi';rw[gi,bB] at hi';obtain⟨hlt,h2⟩:=hi';have uW:i<L.size:=by have:=h.tU;omega
  have vU:ops[i]?=some ops[i]:=aM hlt;generalize ops[i]=o at vU;rw[vU] at h2;simp only[aC,Bool.not_eq_true',dH,Option.getD_some,Array.all_eq_true] at h2;obtain⟨Tl,Tc⟩:=h2
  have YR:o∈ops.toList:=by
   have:=eH vU;simpa using this
  have rr:=cS;unfold iZ at rr;rw[aC,aW,aW] at rr;have Ch:=rr.1 i (bB.2 hlt);rw[vU] at Ch;simp only[aC] at Ch;obtain⟨⟨Zl,uk⟩,Y0⟩:=Ch
  have Tn:E0 ops Vs a.eval w o.after.toList:=E0.of fun e he hb=>by
   obtain⟨k,hk,rfl⟩:=ji he;have:=Tc k (by simpa using hk);simp only[qE] at hb ⊢;rw[hb] at this;simp only[Cw,Bool.false_or] at this;exact h.vals _ this
  have hBs:gF a.eval base:=hbase.congr fun p hp=>h.keep _ fun o' YP hd=>by
   obtain⟨k,hk,rfl⟩:=ji YP;have qy:k<ops.size:=by simpa using hk
   have h3:=rr.1 k (bB.2 qy);rw[aM qy] at h3;simp only[qE] at hd;simp only[aC,hd] at h3;have:=aW.1 h3.1.2.1.2 p hp;simp at this
  have hil:lo≤i:=by
   refine Nat.le_of_not_lt fun hc2=>?_;have:=hlo i hc2;simp[eb,uW] at Tl this;rw[Tl] at this;cases this
  have hO:=hE i o hil vU a.eval w h.s (fun _=>rfl) (fun _=>rfl) (fun _=>rfl) hBs Tn;have hao:fJ ops i=o.after.toList:=by unfold fJ;rw[vU]
  have Kt:∀e∈o.after.toList,fe .any e=true→L.getD e.on false=true:=fun e he hb=>by
   obtain⟨k,hk,rfl⟩:=ji he;have:=Tc k (by simpa using hk);simp only[qE] at hb ⊢;rw[hb] at this;simpa using this
  have hne:∀k,L.getD k false=true→k≠i∧k<ops.size:=fun k hk=>by
   refine⟨fun e=>?_,?_⟩
   ·subst e;simp[eb,uW] at Tl hk;rw[Tl] at hk;cases hk
   ·rcases Nat.lt_or_ge k ops.size with h5|h5
    ·exact h5
    ·have:¬k<L.size:=by have:=h.tU;omega
     simp[eb,this] at hk
  have next:∀v w',Post ops a.eval Vs S i o w v w'→anyOf m8 ops Q fuel (L.setIfInBounds i true) (a.put o.dst v) w':=fun v w' hp=>by
   have hval:∀k,L.getD k false=true→iK (dT ops k) (a.put o.dst v).eval=iK (dT ops k) a.eval:=fun k qy=>by
    obtain⟨zL,xu⟩:=hne k qy;cases LJ:dT ops k with
    |none=>rfl
    |some d=>
     refine sQ _ _ _ _ fun Xn=>?_;rcases Nat.lt_trichotomy k i with h5|h5|h5
     ·rw[Xn] at uk;simp only[aC,decide_eq_true_eq] at uk;have:=aW.1 uk.2 k (bB.2 h5);simp[LJ] at this
     ·exact zL h5
     ·have h6:=rr.1 k (bB.2 xu);rw[aM xu] at h6
      have h7:(ops[k]).dst=some d:=by
       unfold dT at LJ;rw[aM xu] at LJ;simpa using LJ
      simp only[aC,h7] at h6;have:=aW.1 h6.1.2.2 i (bB.2 h5);unfold dT at this;rw[vU] at this;simp[Xn] at this
   have ui:∀k,L.getD k false=true→(L.setIfInBounds i true).getD k false=true:=fun k hk=>by
    have:=(hne k hk).1;simpa [aV,bw,A1 this] using hk
   have hback:∀k,k≠i→(L.setIfInBounds i true).getD k false=true→L.getD k false=true:=fun k zL hk=>by
    simpa [aV,bw,A1 zL] using hk
   refine ih _ _ _ ?_ (fun k hk=>ui k (hlo k hk)) ⟨by simp[h.tU],by rw[yD,h.size],by rw[put_defers,h.defers],?_,fun t ht=>?_,fun k e hk he hb=>?_,fun k hk=>?_⟩
   ·have hLv:L[i]=false:=by simpa [eb,uW] using Tl
    have h4:(L.setIfInBounds i true).toList.countP (!·)=L.toList.countP (!·)-1:=by
     rw[Array.toList_setIfInBounds,List.countP_set (by simpa using uW)];simp[hLv]
    omega
   ·exact hp.2.elim (fun hb=>LM _ _ h.s hb) fun hs=>hs.1
   ·rw[sQ _ _ _ _ (ht o YR)];exact h.keep t ht
   ·by_cases zL:k=i
    ·subst zL;rw[hao] at he;exact ui _ (Kt e he hb)
    ·exact ui _ (h.closed k e (hback k zL hk) he hb)
   ·by_cases zL:k=i
    ·subst zL
     have hdd:fU ops (a.put o.dst v).eval (fJ ops k)=fU ops a.eval o.after.toList:=by
      rw[hao];exact py fun e he hb=>hval _ (Kt e he hb)
     rw[hdd];have:=hp.1;unfold dT iK;rw[vU];simp only[gg];cases hd:o.dst with
     |none=>rw[hd] at this;exact this
     |some d=>
      rw[hd] at this uk;simp only[aC,decide_eq_true_eq] at uk;have h9:=put_eq a d v (by rw[h.size,hn];exact uk.1.1);simp only[] at this ⊢;rw[h9];exact this
    ·have qy:=hback k zL hk;have YB:=h.vals k qy;have hdd:fU ops (a.put o.dst v).eval (fJ ops k)=fU ops a.eval (fJ ops k):=py fun e he hb=>hval _ (h.closed k e qy he hb);rw[hval k qy,hdd];exact hp.2.elim (fun hb=>Ed.get k h.s hb YB) fun hs=>hs.2 k _ _ zL YB
  cases hg:o.guard with
  |none=>
   rw[hg] at hO;exact hs1 i o _ a w _ vU (by simp[cF,hg]) hO next
  |some jb=>
   obtain⟨j,b⟩:=jb;rw[hg] at hO;obtain⟨hO1,UH⟩:=hO
   by_cases hr:iK (dT ops j) a.eval=.bool b
   ·have hy:jR ops a.tmps j=some b:=by
     unfold jR;unfold iK at hr;unfold dT at hr;cases hd:(ops[j]?).bind (·.dst) with
     |none=>rw[hd] at hr;simp[af] at hr
     |some d=>
      rw[hd] at hr;simp only[gg]
      have h8:a.tmps[d]?=some (.bool b):=by
       unfold Act.eval at hr;simp only[] at hr
       by_cases Ci:d<a.tmps.size
       ·simp[eb,Ci] at hr;rw[aM Ci,hr]
       ·simp[eb,Ci,af] at hr
      rw[h8]
    exact hs1 i o _ a w _ vU (by simp[cF,hg,hy]) (hO1 hr) next
   ·have hy:jR ops a.tmps j≠some b:=by
     intro hy;refine hr ?_;unfold jR at hy;unfold iK dT;cases hd:(ops[j]?).bind (·.dst) with
     |none=>rw[hd] at hy;simp at hy
     |some d=>
      rw[hd] at hy;simp only[gg] at hy;simp only[];unfold Act.eval;simp only[];cases h8:a.tmps[d]? with
      |none=>rw[h8] at hy;simp at hy
      |some v=>
       rw[h8] at hy
       have hv:v=.bool b:=by
        revert hy;cases v<;>simp
       simp[aV,h8,hv]
    exact hs2 i o _ a w vU (by simpa [cF,hg] using hy) (next _ _ (UH hr))
theorem bQ{id:Nat}{a0:iR}{w:ar}(hm:P.follows .mixedOrders=true)(Vs:List Pred)(S:ar→Prop)(base:List (kz × aj))(cS:iZ ops a0.tmps.size base=true)(Ed:jd S Vs)(LM:∀w w',S w→az w.heap.size w w'→S w')
  (hS:S w.drew) (hbase:gF a0.eval base) (hE:Each (Yields P) ops Vs S base 0 ops.toList) (hQ:∀a w,iX ops Vs S a0 (aT ops.size true) a w→Q .normal a w):(Code.region id ops true).wp P Q a0 w:=
 wp_region_any hm (by
  rw[CW]
  exact zH (Y:=Yields P) (fun i o K a w R ho hw hy hk=>wpOp_step ho fun K' hK=>by rw[if_pos hw];exact hy.wp fun v w' hv=>hK _ _ (hk v w' hv))
   (fun i o K a w ho hw hk=>wpOp_step ho fun K' hK=>by rw[if_neg hw];exact hK _ _ hk) cS Ed LM a0 rfl hbase 0 (fun j o _ h=>by have:=hE.get (j:=j) (o:=o) (by simpa using h);rwa [cZ] at this) hQ ops.size _ a0 _ vd (fun k hk=>by omega) (xg hS))
end
end Gd
section
variable{P:aI}{ops:Array cz}{Q:Exit→iR→ar→Prop}{Vs:List Pred}{S:ar→Prop}{base:List (kz × aj)}{n:Nat}
theorem LQ.gd{Y:lK}{i:Nat}{o:cz}(h:LQ Y ops Vs S base i o):Gd.LQ Y ops Vs S base i o:=by
 intro ev w hS hc hg hf hb hd;have h1:=h ev w hS hc hg hf hb hd;cases hgd:o.guard with
 |none=>rw[hgd] at h1;exact h1
 |some jb=>
  obtain⟨j,b⟩:=jb;rw[hgd] at h1;obtain⟨⟨r,hr⟩,h2⟩:=h1;exact⟨fun e=>by have:=h2 b e;rwa [if_pos rfl] at this,fun e=>by have:=h2 r hr;rwa [if_neg (fun h=>e (hr.trans (congrArg _ h)))] at this⟩
theorem Each.gd{Y:lK}:∀ {i:Nat} {l:List cz},Each Y ops Vs S base i l→Gd.Each Y ops Vs S base i l
 |_,[],_=>trivial
 |_,_::_,h=>⟨h.1.gd,Each.gd h.2⟩
theorem bQ{id:Nat}{a0:iR}{w:ar}(hm:P.follows .mixedOrders=true)(Vs:List Pred)(S:ar→Prop)(base:List (kz × aj))(cS:iZ ops a0.tmps.size base=true)(Ed:jd S Vs)(LM:∀w w',S w→az w.heap.size w w'→S w')
  (hS:S w.drew) (hbase:gF a0.eval base) (hE:Each (Yields P) ops Vs S base 0 ops.toList) (hQ:∀a w,iX ops Vs S a0 (aT ops.size true) a w→Q .normal a w):(Code.region id ops true).wp P Q a0 w:=
 Gd.bQ hm Vs S base cS Ed LM hS hbase hE.gd hQ
def YieldsIn(P:aI)(o:cz)(ev:bE→aj)(w:ar)(R:aj→ar→Prop):Prop:=
 match (bX ev o).run P w with
 |.ok (.value v) w'=>R v w'
 |.ok .skip w'=>R af w'
 |.ok (.enter f args) w'=>bm P f args w' fun e w''=>∃v,e=.returned v∧R v w''
 |.ok (.round l f tmps assign body) w'=>∀m,RoundIn Fence.wide m P l f tmps assign body w' fun e w''=>∃v,e=.returned v∧R v w''
 |_=>False
theorem YieldsIn.wpIn{P:aI}{m:Nat}{o:cz}{a:iR}{w:ar}{R:aj→ar→Prop}{K:iR→ar→Prop}{Q:Exit→iR→ar→Prop}(h:YieldsIn P o a.eval w R)
  (hk:∀v w',R v w'→K (a.put o.dst v) w'):o.wpIn Fence.wide m P a w K Q:=by
 refine⟨fun _ _=>trivial,?_⟩;have e:o.semAt Fence.wide.round a.eval=bX a.eval o:=rfl;rw[e];unfold YieldsIn at h;generalize (bX a.eval o).run P w=r at *;cases r with
 |halt x w'=>exact h.elim
 |ok n w'=>
  cases n<;>simp only[] at h<;>first|exact h.elim|skip
  ·exact hk _ _ h
  ·exact hk _ _ h
  ·refine⟨fun h=>(by cases h),?_⟩;rw[callsIn_wide];exact h.mono (by rintro e w'' ⟨v,rfl,hv⟩;exact hk _ _ hv)
  ·refine⟨fun h=>(by cases h),?_⟩;exact(h _).mono (by rintro e w'' ⟨v,rfl,hv⟩;exact hk _ _ hv)
def keeps(ops:Array cz)(t:kz):Bool:=ops.toList.all fun o=>decide (o.dst≠some t)
theorem iX.kept{a0 a:iR}{L:Array Bool}{w:ar}(h:iX ops Vs S a0 L a w){t:kz}(hk:keeps ops t=true):a.tmps.getD t af=a0.tmps.getD t undef:=
 h.keep t fun o ho=>by
  have:=aW.1 hk o ho;simpa using this
theorem iX.kp{a0 a:iR}{L:Array Bool}{w:ar}(h:iX ops Vs S a0 L a w)(t:kz)(hk:keeps ops t=true):a.tmps.getD t af=a0.tmps.getD t undef:=h.kept hk
theorem iX.val{a0 a:iR}{w:ar}(h:iX ops Vs S a0 (aT ops.size true) a w)(i:Nat)(hi:i<ops.size):fG Vs i (iK (dT ops i) a.eval) (fU ops a.eval (fJ ops i)) w:=h.vals i (by simp[eb,hi])
theorem iX.act{a0 a:iR}{L:Array Bool}{w:ar}(h:iX ops Vs S a0 L a w):a=⟨((aU a0.tmps.size).map fun t=>a.tmps.getD t af).toArray,a0.defers⟩:=by
 have h1:=h.size;have h2:=h.defers;obtain⟨tm,df⟩:=a;simp only[] at h1 h2;subst h2;rw[←h1]
 congr 1
 apply Array.ext
 ·simp
 ·intro i h1 h2;simp[eb,h1]
theorem iX.lits{a0 a:iR}{L:Array Bool}{w:ar}(h:iX ops Vs S a0 L a w)(n:Nat)(hn:a0.tmps.size=n):a=⟨((aU n).map fun t=>a.tmps.getD t af).toArray,a0.defers⟩:=hn▸h.act
end
theorem ku(l:List aj)(i:Nat)(d:aj):l.toArray.getD i d=l.getD i d:=by simp[aV,List.getD]
theorem qK{P:aI}{o:cz}{ev:bE→aj}{w:ar}{c a b:bE}{t:Bool}(ho:o.op=.pick c a b)(hc:ev c=.bool t):(bX ev o).run P w=.ok (.value (if t then ev a else ev b)) w:=by
 unfold bX;simp only[ho,hc,asBool,Sem.run_bind,Sem.run_pure,A0]
theorem Yields.aa9{P:aI}{o:cz}{ev:bE→aj}{w:ar}{R:aj→ar→Prop}{c b:bE}{A B:Bool}(ho:o.op=.pick c (.const (.bool true)) b)(hc:∀v,ev (.const v)=v)(hA:ev c=.bool A)(hB:A=false→ev b=.bool B)(h:R (.bool (A||B)) w):Yields P o ev w R:=by
 refine .value (qK ho hA) ?_;cases A
 ·rw[hB rfl];exact h
 ·rw[hc];exact h
theorem Yields.abb{P:aI}{o:cz}{ev:bE→aj}{w:ar}{R:aj→ar→Prop}{c b:bE}{A B:Bool}(ho:o.op=.pick c b (.const (.bool false)))(hc:∀v,ev (.const v)=v)(hA:ev c=.bool A)(hB:A=true→ev b=.bool B)(h:R (.bool (A&&B)) w):Yields P o ev w R:=by
 refine .value (qK ho hA) ?_;cases A
 ·rw[hc];exact h
 ·rw[hB rfl];exact h
abbrev pV(x:aj):Pred:=fun v _ _=>v=x
abbrev pC(c:Bool)(x:aj):Pred:=fun v _ _=>c=true→v=x
theorem sV{S:ar→Prop}{x:aj}:∀(u:aj) (ds:List aj) (w w':ar),S w→pV x u ds w→az w.heap.size w w'→pV x u ds w':=fun _ _ _ _ _ h _=>h
theorem sC{S:ar→Prop}{c:Bool}{x:aj}:∀(u:aj) (ds:List aj) (w w':ar),S w→pC c x u ds w→az w.heap.size w w'→pC c x u ds w':=fun _ _ _ _ _ h _=>h
section
variable{P:aI}{ops:Array cz}{Vs:List Pred}{S:ar→Prop}{o:cz}{ev:bE→aj}{w:ar}{i:Nat}
theorem yv{v:aj}(he:(bX ev o).run P w=.ok (.value v) w)(hp:fG Vs i (match o.dst with|some _=>v|none=>af) (fU ops ev o.after.toList) w):Yields P o ev w (Post ops ev Vs S i o w):=.value he ⟨hp,.inl (aw _ _)⟩
theorem tV{p:Prop}(h:p:=by refine yv ?_ rfl;go_simp):p:=h
theorem yO{c b:bE}{A B:Bool}(ho:o.op=.pick c (.const (.bool true)) b)(hc:∀v,ev (.const v)=v)(hA:ev c=.bool A)(hB:A=false→ev b=.bool B)(hp:fG Vs i (match o.dst with | some _=>.bool (A||B) | none=>af) (fU ops ev o.after.toList) w):Yields P o ev w (Post ops ev Vs S i o w):=.aa9 ho hc hA hB ⟨hp,.inl (aw _ _)⟩
theorem yA{c b:bE}{A B:Bool}(ho:o.op=.pick c b (.const (.bool false)))(hc:∀v,ev (.const v)=v)(hA:ev c=.bool A)(hB:A=true→ev b=.bool B)(hp:fG Vs i (match o.dst with|some _=>.bool (A&&B)|none=>af) (fU ops ev o.after.toList) w):Yields P o ev w (Post ops ev Vs S i o w):=.abb ho hc hA hB ⟨hp,.inl (aw _ _)⟩
theorem yc{f:FuncId}{args:Array aj}{X:aj}(h:bm P f args w fun e w'=>e=.returned X∧az w.heap.size w w')(he:(bX ev o).run P w=.ok (.enter f args) w)(hp:∀w',fG Vs i (match o.dst with|some _=>X|none=>af) (fU ops ev o.after.toList) w'):Yields P o ev w (Post ops ev Vs S i o w):=
 .call he h (by rintro e w2 ⟨rfl,hb⟩;exact⟨_,rfl,hp _,.inl hb⟩)
theorem yq{f:FuncId}{args:Array aj}{X:aj}(h:bm P f args w fun e w'=>e=.returned X∧w=w')(he:(bX ev o).run P w=.ok (.enter f args) w)(hp:∀w',fG Vs i (match o.dst with|some _=>X|none=>af) (fU ops ev o.after.toList) w'):Yields P o ev w (Post ops ev Vs S i o w):=
 .call he h (by rintro e w2 ⟨rfl,rfl⟩;exact⟨_,rfl,hp _,.inl (aw _ _)⟩)
end
section
variable{A b x:Bool}{val V0 u X:aj}{Y R Z:Prop}{w:ar}
theorem gC(d:val=V0)(l:V0=.bool b↔A=true)(h:A=true→Y):(val=.bool b→Y)∧(val≠.bool b→(A=true→u=X)∧(az w.heap.size w w∨Z)):=
 ⟨fun e=>h (l.1 (d.symm.trans e)),fun e=>⟨fun hc=>absurd (d.trans (l.2 hc)) e,.inl (aw _ _)⟩⟩
theorem gN(d:val=.bool x)(hne:(x==b)=false):(val=.bool b→Y)∧(val≠.bool b→True∧(az w.heap.size w w∨Z)):=
 ⟨fun e=>absurd (d.symm.trans e) (by intro h;cases h;simp at hne),fun _=>⟨trivial,.inl (aw _ _)⟩⟩
theorem gL(d:val=.bool b)(h:Y):(val=.bool b→Y)∧(val≠.bool b→R):=⟨fun _=>h,fun e=>absurd d e⟩
end
theorem Yields.nC{P:aI}{o:cz}{ev:bE→aj}{w:ar}{R:aj→ar→Prop}(ty:aX)(x y:bE)(ho:o.op=.store ty x y)(g:Nat)(cells:Array aj)(hx:ev x=.pointer (some ⟨g,0,none⟩))(hy:ev y=.agg cells)
  (t:aX) (old:Array aj) (hg:w.heap[g]?=some (.cells old t (0,0))) (hi:(P.info? ty).map (·.size)=some cells.size) (hold:old.size=cells.size) (h1:cells.all (·.oneCell')=true) (h:R af (w.setRow g cells)):Yields P o ev w R:=by
 refine Yields.skip (w':=w.setRow g cells) ?_ h;unfold bX;simp only[ho,hx,hy,Instr.storeAt,Instr.sureAddr,Sem.run_bind,Sem.run_pure,A0,run_storeVar_row w g t ty old cells hg hi hold h1]
theorem Yields.yR{P:aI}{o:cz}{ev:bE→aj}{w:ar}{R:aj→ar→Prop}(ty:aX)(x:bE)(ho:o.op=.load ty x)(g:Nat)(hx:ev x=.pointer (some ⟨g,0,none⟩))(t:aX)(cs:Array aj)(fr:Nat × Nat)(d:TypeDesc)(hg:w.heap[g]?=some (.cells cs t fr))
  (hu:P.underlying ty=some d) (hd:(match d with|.struct _|.array _ _=>true|_=>false)=true) (hi:(P.info? ty).map (·.size)=some cs.size) (h:R (.agg cs) w):Yields P o ev w R:=by
 refine Yields.value (v:=.agg cs) (w':=w) ?_ h;unfold bX;simp only[ho,hx,Instr.loadAt,Instr.sureAddr,Sem.run_bind,Sem.run_pure,A0,run_loadVar_row w g t ty cs fr d hg hu hd hi]
theorem Il{P:aI}{ops:Array cz}{Vs:List Pred}{S:ar→Prop}{o:cz}{ev:bE→aj}{w:ar}{i:Nat}(ty:aX){x:bE}(ho:o.op=.load ty x){g:Nat}(hx:ev x=.pointer (some ⟨g,0,none⟩)){t:aX}{cs:Array aj}{fr:Nat × Nat}{d:TypeDesc}(hg:w.heap[g]?=some (.cells cs t fr))
  (hu:P.underlying ty=some d) (hd:(match d with|.struct _|.array _ _=>true|_=>false)=true) (hi:(P.info? ty).map (·.size)=some cs.size) (hp:fG Vs i (match o.dst with|some _=>.agg cs|none=>af) (fU ops ev o.after.toList) w):Yields P o ev w (Post ops ev Vs S i o w):=
 Yields.yR ty x ho g hx t cs fr d hg hu hd hi ⟨hp,.inl (aw _ _)⟩
namespace Gd
section
variable{P:aI}{ops:Array cz}{Q:Exit→iR→ar→Prop}{Vs:List Pred}{S:ar→Prop}{base:List (kz × aj)}{n:Nat}
theorem pS{i:Nat}{o:cz}{e:Edge}(cS:iZ ops n base=true)(ho:ops[i]?=some o)(he:e∈o.after.toList)(hb:fe .any e=true):e.on<i:=by
 have hi:i<ops.size:=(ak.1 ho).1;unfold iZ at cS;rw[aC,aW] at cS;have h2:=cS.1 i (bB.2 hi);rw[ho] at h2;simp only[aC] at h2;have h3:=aW.1 h2.1.1 e he;simpa [hb] using h3
theorem PG{L:Array Bool}{i:Nat}(cS:iZ ops n base=true)(hlt:i<ops.size)(hL:L.size=ops.size)(hk:∀k,L.getD k false=decide (k<i)):i∈iI .any ops L:=by
 unfold iI;rw[gi];have vU:ops[i]?=some ops[i]:=aM hlt;refine⟨bB.2 hlt,?_⟩;have uW:i<L.size:=by omega
 have h1:L.getD i true=false:=by
  have:=hk i;simp[eb,uW] at this ⊢;exact this
 rw[h1,vU];simp only[Bool.not_false,Bool.true_and,dH,Option.getD_some];rw[Array.all_eq_true];intro k hk2;cases hb:fe .any ops[i].after[k] with
 |false=>rfl
 |true=>
  have:=pS cS vU (e:=ops[i].after[k]) (by simp) hb;rw[hk];simp[this]
theorem Vn{L:Array Bool}{i:Nat}(uW:i<L.size)(hk:∀k,L.getD k false=decide (k<i))(k:Nat):(L.setIfInBounds i true).getD k false=decide (k<i+1):=by
 by_cases zL:k=i
 ·subst zL;simp[aV,bw,uW]
 ·have:=hk k;rw[aV,bw,if_neg (A1 zL),←aV,this];simp;omega
theorem yh(cS:iZ ops n base=true):∀(m i:Nat) (L:Array Bool) (a:iR) (w:ar),i+m=ops.size→L.size=ops.size→(∀k,L.getD k false=decide (k<i))→anyOf (wpOp P ops Q) ops Q m L a w→wpOps P ops Q (bS i m) a w
 |0,i,L,a,w,hi,hL,hk,h=>h.2
 |m+1,i,L,a,w,hi,hL,hk,h=>by
  show wpOps P ops Q (i::bS (i+1) m) a w;rw[wpOps_cons];exact wpOp_mono (fun a w h=>yh cS m (i+1) _ a w (by omega) (by simpa using hL) (Vn (by omega) hk) h) (h.2 i (PG cS (by omega) hL hk))
def MC(n i:Nat):Array Bool:=((aU n).map fun k=>decide (k<i)).toArray
theorem yQ(n i k:Nat)(hi:i≤n):(MC n i).getD k false=decide (k<i):=by
 unfold MC;rw[aV]
 by_cases hk:k<n
 ·simp[hk]
 ·have:¬k<i:=by omega
  simp[hk,this]
theorem Ha{a0:iR}{w:ar}(i m:Nat)(him:i+m=ops.size)(Vs:List Pred)(S:ar→Prop)(base:List (kz × aj))(cS:iZ ops n base=true)(hn:a0.tmps.size=n)(Ed:jd S Vs)(LM:∀w w',S w→az w.heap.size w w'→S w')
  (hS:S w) (hbase:gF a0.eval base) (VI:∀k,k<i→fG Vs k (iK (dT ops k) a0.eval) (fU ops a0.eval (fJ ops k)) w) (hE:Each (Yields P) ops Vs S base i (ops.toList.drop i)) (hQ:∀a w,iX ops Vs S a0 (aT ops.size true) a w→Q .normal a w):wpOps P ops Q (bS i m) a0 w:=by
 refine yh cS m i (MC ops.size i) a0 w him (by simp[MC]) (fun k=>yQ _ _ _ (by omega)) ?_
 refine zH (Y:=Yields P) (fun i o K a w R ho hw hy hk=>wpOp_step ho fun K' hK=>by rw[if_pos hw];exact hy.wp fun v w' hv=>hK _ _ (hk v w' hv))
  (fun i o K a w ho hw hk=>wpOp_step ho fun K' hK=>by rw[if_neg hw];exact hK _ _ hk) cS Ed LM a0 hn hbase i (fun j o hj h=>by
   have:=hE.get (j:=j-i) (o:=o) (by rw[List.getElem?_drop,show i+(j-i)=j by omega];simpa using h)
   rwa [show i+(j-i)=j by omega] at this) hQ m _ a0 _ ?_ (fun k hk=>by rw[yQ _ _ _ (by omega)];simpa using hk) ⟨by simp[MC],rfl,rfl,hS,fun _ _=>rfl,fun k e hk he hb=>?_,fun k hk=>?_⟩
 ·have e:(MC ops.size i).toList=(aU i).map (fun _=>true)++(bS i m).map fun _=>false:=by
   unfold MC;simp only
   have:aU ops.size=aU i++bS i m:=by
    rw[mA,mA,←him,←List.range'_append_1,cZ]
   rw[this,List.map_append]
   congr 1
   ·apply Fe;intro k hk;simpa using hk
   ·apply Fe;intro k hk;have:=(List.mem_range'_1.1 hk).1;simp;omega
  rw[e,List.countP_append]
  have h1:((aU i).map fun _=>true).countP (!·)=0:=by
   rw[List.countP_eq_zero];intro x hx;simp at hx;simp[hx.2]
  have h2:=wV (p:=(!·)) (l:=(bS i m).map fun _=>false);simp only[List.length_map,List.length_range'] at h2;omega
 ·rw[yQ _ _ _ (by omega)] at hk ⊢;have zL:k<i:=by simpa using hk
  unfold fJ at he;have hko:ops[k]?=some ops[k]:=aM (by omega);rw[hko] at he;have:=pS cS hko he hb;simp;omega
 ·rw[yQ _ _ _ (by omega)] at hk;exact VI k (by simpa using hk)
theorem Hb{id:Nat}{a0:iR}{w:ar}(Vs:List Pred)(S:ar→Prop)(base:List (kz × aj))(cS:iZ ops n base=true)(hn:a0.tmps.size=n)(Ed:jd S Vs)(LM:∀w w',S w→az w.heap.size w w'→S w')
  (hS:S w) (hbase:gF a0.eval base) (hE:Each (Yields P) ops Vs S base 0 ops.toList) (hQ:∀a w,iX ops Vs S a0 (aT ops.size true) a w→Q .normal a w):(Code.region id ops false).wp P Q a0 w:=by
 refine wp_region ?_;rw[mA];exact Ha 0 ops.size (by omega) Vs S base cS hn Ed LM hS hbase (fun k hk=>by omega) hE hQ
end
end Gd
structure iV(n:Nat)(a:iR)(l:List (kz × aj)):Prop where
 size:a.tmps.size=n
 defers:a.defers=[]
 base:gF a.eval l
theorem iX.fr{ops:Array cz}{Vs:List Pred}{S:ar→Prop}{a0 a:iR}{L:Array Bool}{w:ar}{n:Nat}{l:List (kz × aj)}(h:iX ops Vs S a0 L a w)(h0:iV n a0 l)(hk:(l.all fun p=>keeps ops p.1)=true):iV n a l:=
 ⟨h.size.trans h0.size,h.defers.trans h0.defers,h0.base.congr fun p hp=>h.keep p.1 fun o ho=>by
  have h1:=aW.1 hk p hp;have:=aW.1 h1 o ho
  simpa using this⟩
theorem iV.g{n:Nat}{a:iR}{l:List (kz × aj)}(h:iV n a l)(k:Nat){t:kz}{v:aj}(hk:l[k]?=some (t,v)):a.eval (.tmp t)=v:=by
 have h1:=h.base;clear h
 induction l generalizing k with
 |nil=>simp at hk
 |cons p l ih=>cases k with
  |zero=>cases hk;exact h1.1
  |succ k=>exact ih k (by simpa using hk) h1.2
def U8:Op→Bool
 |.call c=>match c.callee with|.builtin _=>true|_=>false
 |.load ..=>false
 |_=>true
theorem yw{P:aI}{ops:Array cz}{Vs:List Pred}{S:ar→Prop}{o:cz}{ev:bE→aj}{w:ar}{i:Nat}{v:aj}(hq:U8 o.op=true)(he:(bX ev o).run P w=.ok (.value v) w)(hp:fG Vs i (match o.dst with|some _=>v|none=>af) (fU ops ev o.after.toList) w):Yields P o ev w (Post ops ev Vs S i o w):=yv he hp
def m5(t:kz):List (kz × aj)→List (kz × aj)
 |[]=>[]
 |p::l=>if p.1=t then l else p::m5 t l
theorem iV.del{n:Nat}{a:iR}{l:List (kz × aj)}(h:iV n a l)(t:kz):iV n a (m5 t l):=⟨h.size,h.defers,by
 have h1:=h.base;clear h
 induction l with
 |nil=>trivial
 |cons p l ih=>
  unfold m5;split
  ·exact h1.2
  ·exact⟨h1.1,ih h1.2⟩⟩
theorem iV.tl{n:Nat}{a:iR}{p:kz × aj}{l:List (kz × aj)}(h:iV n a (p::l)):iV n a l:=⟨h.size,h.defers,h.base.2⟩
theorem iV.put{n:Nat}{a:iR}{l:List (kz × aj)}(h:iV n a l)(d:kz)(v:aj)(hk:(l.all fun p=>!Nat.beq p.1 d)=true):iV n (a.put (some d) v) l:=
 ⟨(yD _ _ _).trans h.size,(put_defers _ _ _).trans h.defers,h.base.congr fun p hp=>sQ _ _ _ _ fun e=>by
  have h1:=aW.1 hk p hp;cases e
  simp at h1⟩
theorem iV.cons{n:Nat}{a:iR}{l:List (kz × aj)}(h:iV n a l){t:kz}{v:aj}(hv:a.eval (.tmp t)=v):iV n a ((t,v)::l):=⟨h.size,h.defers,hv,h.base⟩
section
variable{P:aI}{ops:Array cz}{Q:Exit→iR→ar→Prop}{n:Nat}
theorem Yields.mono{o:cz}{ev:bE→aj}{w:ar}{R R':aj→ar→Prop}(h:Yields P o ev w R)(hr:∀v w',R v w'→R' v w'):Yields P o ev w R':=by
 unfold Yields at *;generalize (bX ev o).run P w=r at *;cases r with
 |halt x w'=>exact h.elim
 |ok n w'=>
  cases n<;>simp only[] at h ⊢
  ·exact hr _ _ h
  ·exact hr _ _ h
  all_goals first|exact h.elim|skip
  ·exact h.mono (by rintro e w'' ⟨v,rfl,hv⟩;exact⟨v,rfl,hr _ _ hv⟩)
end
end Go.Lag
namespace Go.Lag
namespace Ph
open Go Go.RowKit
abbrev Ls:=Nat→Bool
def upd(L:Ls)(i:Nat):Ls:=fun t=>if t=i then true else L t
def needs(ops:Array cz)(i t:Nat):Bool:=(fJ ops t).any fun e=>fe .any e&&decide (e.on=i)
def xY(L:Ls)(ev:bE→aj):List (Nat × kz × aj)→Prop
 |[]=>True
 |(i,t,v)::l=>(L i=false→ev (.tmp t)=v)∧xY L ev l
def Jh(ops:Array cz)(ev:bE→aj):List (Nat × kz × aj)→Prop
 |[]=>True
 |(i,t,v)::l=>(dT ops i=some t∧ev (.tmp t)=v)∧Jh ops ev l
def G8(L:Ls)(ev:bE→aj)(late:List (Nat × kz × aj)):List (kz × aj)→Prop
 |[]=>xY L ev late
 |(t,v)::l=>ev (.tmp t)=v∧G8 L ev late l
theorem G8.of{L:Ls}{ev:bE→aj}{late:List (Nat × kz × aj)}(h2:xY L ev late):∀ {base:List (kz × aj)},gF ev base→G8 L ev late base
 |[],_=>h2
 |(_,_)::_,h=>⟨h.1,G8.of h2 h.2⟩
theorem xY.of{ops:Array cz}{L:Ls}{ev El:bE→aj}(hk:∀i d,dT ops i=some d→L i=false→El (.tmp d)=ev (.tmp d)):∀ {late:List (Nat × kz × aj)},Jh ops ev late→xY L El late
 |[],_=>trivial
 |(_,_,_)::_,h=>⟨fun e=>(hk _ _ h.1.1 e).trans h.1.2,xY.of hk h.2⟩
def Post(L:Ls)(ops:Array cz)(ev:bE→aj)(Vs:List Pred)(S:Ls→ar→Prop)(i:Nat)(o:cz)(w:ar)(v:aj)(w':ar):Prop:=
 fG Vs i (match o.dst with|some _=>v|none=>af) (fU ops ev o.after.toList) w'∧(az w.heap.size w w'∨(S (upd L i) w'∧∀k u ds,k≠i→L k=true→fG Vs k u ds w→fG Vs k u ds w'))
theorem yv{P:aI}{L:Ls}{ops:Array cz}{Vs:List Pred}{S:Ls→ar→Prop}{o:cz}{ev:bE→aj}{w:ar}{i:Nat}{v:aj}(he:(bX ev o).run P w=.ok (.value v) w)(hp:fG Vs i (match o.dst with|some _=>v|none=>af) (fU ops ev o.after.toList) w):Yields P o ev w (Post L ops ev Vs S i o w):=.value he ⟨hp,.inl (aw _ _)⟩
theorem sV{S:Ls→ar→Prop}{x:aj}:∀(u:aj) (ds:List aj) (L:Ls) (w w':ar),S L w→pV x u ds w→az w.heap.size w w'→pV x u ds w':=fun _ _ _ _ _ _ h _=>h
theorem sC{S:Ls→ar→Prop}{c:Bool}{x:aj}:∀(u:aj) (ds:List aj) (L:Ls) (w w':ar),S L w→pC c x u ds w→az w.heap.size w w'→pC c x u ds w':=fun _ _ _ _ _ _ h _=>h
def LQ(Y:lK)(ops:Array cz)(Vs:List Pred)(S:Ls→ar→Prop)(base:List (kz × aj))(late:List (Nat × kz × aj))(i:Nat)(o:cz):Prop:=
 ∀(L:Ls) (ev:bE→aj) (w:ar),(∀t,needs ops i t=true→L t=false)→L i=false→S L w→(∀v,ev (.const v)=v)→(∀g,ev (.global g)=.pointer (some ⟨g,0,none⟩))→(∀f,ev (.func f)=.func (.func f) #[] #[])→G8 L ev late base→E0 ops Vs ev w o.after.toList→
  match o.guard with
  |none=>Y o ev w (Post L ops ev Vs S i o w)
  |some (j,b)=>(∃r,iK (dT ops j) ev=.bool r)∧∀r,iK (dT ops j) ev=.bool r→if r=b then Y o ev w (Post L ops ev Vs S i o w) else Post L ops ev Vs S i o w af w
def Each(Y:lK)(ops:Array cz)(Vs:List Pred)(S:Ls→ar→Prop)(base:List (kz × aj))(late:List (Nat × kz × aj)):Nat→List cz→Prop
 |_,[]=>True
 |i,o::l=>LQ Y ops Vs S base late i o∧Each Y ops Vs S base late (i+1) l
def jd(S:Ls→ar→Prop):List Pred→Prop
 |[]=>True
 |V::l=>(∀u ds L w w',S L w→V u ds w→az w.heap.size w w'→V u ds w')∧jd S l
section
variable{P:aI}{ops:Array cz}{Q:Exit→iR→ar→Prop}{Vs:List Pred}{S:Ls→ar→Prop}{base:List (kz × aj)}{late:List (Nat × kz × aj)}{n:Nat}
theorem Each.get{Y:lK}{i:Nat}{l:List cz}(h:Each Y ops Vs S base late i l){j:Nat}{o:cz}(hj:l[j]?=some o):LQ Y ops Vs S base late (i+j) o:=by
 induction l generalizing i j with
 |nil=>simp at hj
 |cons x l ih=>
  cases j with
  |zero=>simp at hj;subst hj;exact h.1
  |succ j=>have:=ih h.2 (j:=j) (by simpa using hj);rwa [ng,Nat.add_comm 1 j] at this
theorem jd.get(h:jd S Vs)(i:Nat){L:Ls}{u:aj}{ds:List aj}{w w':ar}(hS:S L w)(hb:az w.heap.size w w')(hv:fG Vs i u ds w):fG Vs i u ds w':=by
 induction Vs generalizing i with
 |nil=>trivial
 |cons V l ih=>
  cases i with
  |zero=>exact h.1 u ds L w w' hS hv hb
  |succ i=>exact ih h.2 i hv
structure iX(ops:Array cz)(Vs:List Pred)(S:Ls→ar→Prop)(a0:iR)(L:Array Bool)(a:iR)(w:ar):Prop where
 tU:L.size=ops.size
 size:a.tmps.size=a0.tmps.size
 defers:a.defers=a0.defers
 s:S (fun t=>L.getD t false) w
 keep:∀t,(∀o∈ops.toList,o.dst≠some t)→a.eval (.tmp t)=a0.eval (.tmp t)
 late:∀i d,dT ops i=some d→L.getD i false=false→a.eval (.tmp d)=a0.eval (.tmp d)
 closed:∀i e,L.getD i false=true→e∈fJ ops i→fe .any e=true→L.getD e.on false=true
 vals:∀i,L.getD i false=true→fG Vs i (iK (dT ops i) a.eval) (fU ops a.eval (fJ ops i)) w
theorem zH{Y:lK}{m8:Nat→(iR→ar→Prop)→iR→ar→Prop}
  (hs1:∀i o K a w R,ops[i]?=some o→cF o (jR ops a.tmps)=true→Y o a.eval w R→(∀v w',R v w'→K (a.put o.dst v) w')→m8 i K a w)
  (hs2:∀i o K a w,ops[i]?=some o→¬cF o (jR ops a.tmps)=true→K (a.put o.dst af) w→m8 i K a w)
  (cS:iZ ops n base=true) (Ed:jd S Vs) (LM:∀(L L':Ls) w w',(∀t,L' t=false→L t=false)→S L w→az w.heap.size w w'→S L' w') (a0:iR) (hn:a0.tmps.size=n) (hbase:gF a0.eval base) (hlate:Jh ops a0.eval late) (hE:Each Y ops Vs S base late 0 ops.toList)
  (hQ:∀a w,iX ops Vs S a0 (aT ops.size true) a w→Q .normal a w) :
  ∀fuel (L:Array Bool) (a:iR) (w:ar),L.toList.countP (!·)≤fuel→iX ops Vs S a0 L a w→anyOf m8 ops Q fuel L a w:=by
 have afY:∀(L:Array Bool) (a:iR) (w:ar),iI .any ops L=[]→iX ops Vs S a0 L a w→S (fun t=>(aT ops.size true).getD t false) w:=fun L a w hr h=>
  LM _ _ w w (fun t ht=>by
   by_cases hlt:t<ops.size
   ·simp[eb,hlt] at ht
   ·have:¬t<L.size:=by have:=h.tU;omega
    simp[eb,this]) h.s (aw _ _)
 have fin:∀(L:Array Bool) (a:iR) (w:ar),iI .any ops L=[]→iX ops Vs S a0 L a w→Q .normal a w:=fun L a w hr h=>
  hQ a w ⟨by simp,h.size,h.defers,afY L a w hr h,h.keep,fun i d hd hi=>by
   by_cases hlt:i<ops.size
   ·simp[eb,hlt] at hi
   ·unfold dT at hd;rw[fg (by omega)] at hd;simp at hd,fun i e hi he hb=>by
   have hlt:e.on<ops.size:=Lu cS he hb;simp[eb,hlt],fun i hi=>by
   by_cases hlt:i<ops.size
   ·exact h.vals i (ready_nil cS h.tU hr i hlt)
   ·simp[eb,hlt] at hi⟩
 intro fuel
 induction fuel with
 |zero=>
  intro L a w hc h
  have hr:iI .any ops L=[]:=by
   apply List.eq_nil_iff_forall_not_mem.2;intro i hi;unfold iI at hi;rw[gi,bB] at hi;obtain⟨hi,h2⟩:=hi;have uW:i<L.size:=by have:=h.tU;omega
   simp[eb,uW] at h2;have h0:=List.countP_eq_zero.1 (Nat.le_zero.1 hc) L[i] (by simp);simp[h2.1] at h0
  exact⟨hr,fin L a w hr h⟩
 |succ fuel ih=>
  intro L a w hc h;refine⟨fun hr=>fin L a w hr h,fun i hi=>?_⟩;have hi':=hi;unfold iI at hi';rw[gi,bB] at hi';obtain⟨hlt,h2⟩:=hi';have uW:i<L.size:=by have:=h.tU;omega
  have vU:ops[i]?=some ops[i]:=aM hlt;generalize ops[i]=o at vU;rw[vU] at h2;simp only[aC,Bool.not_eq_true',dH,Option.getD_some,Array.all_eq_true] at h2;obtain⟨Tl,Tc⟩:=h2
  have YR:o∈ops.toList:=by
   have:=eH vU;simpa using this
  have rr:=cS;unfold iZ at rr;rw[aC,aW,aW] at rr;have Ch:=rr.1 i (bB.2 hlt);rw[vU] at Ch;simp only[aC] at Ch;obtain⟨⟨Zl,uk⟩,Y0⟩:=Ch
  have Tn:E0 ops Vs a.eval w o.after.toList:=E0.of fun e he hb=>by
   obtain⟨k,hk,rfl⟩:=ji he;have:=Tc k (by simpa using hk);simp only[qE] at hb ⊢;rw[hb] at this;simp only[Cw,Bool.false_or] at this;exact h.vals _ this
  have hBs:gF a.eval base:=hbase.congr fun p hp=>h.keep _ fun o' YP hd=>by
   obtain⟨k,hk,rfl⟩:=ji YP;have qy:k<ops.size:=by simpa using hk
   have h3:=rr.1 k (bB.2 qy);rw[aM qy] at h3;simp only[qE] at hd;simp only[aC,hd] at h3;have:=aW.1 h3.1.2.1.2 p hp;simp at this
  have acI:(fun t=>L.getD t false) i=false:=by
   simp[eb,uW] at Tl ⊢;exact Tl
  have ab5:∀t,needs ops i t=true→L.getD t false=false:=fun t ht=>by
   cases hq:L.getD t false with
   |false=>rfl
   |true=>
    unfold needs at ht;obtain⟨e,he,h8⟩:=List.any_eq_true.1 ht;rw[aC,decide_eq_true_eq] at h8;have h9:=h.closed t e hq he h8.1;rw[h8.2] at h9;have h10:L.getD i false=false:=acI;rw[h10] at h9;cases h9
  have hO:=hE.get (j:=i) (o:=o) (by simpa using vU) (fun t=>L.getD t false) a.eval w (by rw[cZ];exact ab5) (by rw[cZ];exact acI) h.s (fun _=>rfl) (fun _=>rfl) (fun _=>rfl) (G8.of (xY.of (fun k d hd hk=>h.late k d hd hk) hlate) hBs) Tn;rw[cZ] at hO;have hao:fJ ops i=o.after.toList:=by unfold fJ;rw[vU]
  have Kt:∀e∈o.after.toList,fe .any e=true→L.getD e.on false=true:=fun e he hb=>by
   obtain⟨k,hk,rfl⟩:=ji he;have:=Tc k (by simpa using hk);simp only[qE] at hb ⊢;rw[hb] at this;simpa using this
  have hne:∀k,L.getD k false=true→k≠i∧k<ops.size:=fun k hk=>by
   refine⟨fun e=>?_,?_⟩
   ·subst e;simp[eb,uW] at Tl hk;rw[Tl] at hk;cases hk
   ·rcases Nat.lt_or_ge k ops.size with h5|h5
    ·exact h5
    ·have:¬k<L.size:=by have:=h.tU;omega
     simp[eb,this] at hk
  have next:∀v w',Post (fun t=>L.getD t false) ops a.eval Vs S i o w v w'→anyOf m8 ops Q fuel (L.setIfInBounds i true) (a.put o.dst v) w':=fun v w' hp=>by
   have hval:∀k,L.getD k false=true→iK (dT ops k) (a.put o.dst v).eval=iK (dT ops k) a.eval:=fun k qy=>by
    obtain⟨zL,xu⟩:=hne k qy;cases LJ:dT ops k with
    |none=>rfl
    |some d=>
     refine sQ _ _ _ _ fun Xn=>?_;rcases Nat.lt_trichotomy k i with h5|h5|h5
     ·rw[Xn] at uk;simp only[aC,decide_eq_true_eq] at uk;have:=aW.1 uk.2 k (bB.2 h5);simp[LJ] at this
     ·exact zL h5
     ·have h6:=rr.1 k (bB.2 xu);rw[aM xu] at h6
      have h7:(ops[k]).dst=some d:=by
       unfold dT at LJ;rw[aM xu] at LJ;simpa using LJ
      simp only[aC,h7] at h6;have:=aW.1 h6.1.2.2 i (bB.2 h5);unfold dT at this;rw[vU] at this;simp[Xn] at this
   have ui:∀k,L.getD k false=true→(L.setIfInBounds i true).getD k false=true:=fun k hk=>by
    have:=(hne k hk).1;simpa [aV,bw,A1 this] using hk
   have hback:∀k,k≠i→(L.setIfInBounds i true).getD k false=true→L.getD k false=true:=fun k zL hk=>by
    simpa [aV,bw,A1 zL] using hk
   refine ih _ _ _ ?_ ⟨by simp[h.tU],by rw[yD,h.size],by rw[put_defers,h.defers],?_,fun t ht=>?_,fun k d hd hk=>?_,fun k e hk he hb=>?_,fun k hk=>?_⟩
   ·have hLv:L[i]=false:=by simpa [eb,uW] using Tl
    have h4:(L.setIfInBounds i true).toList.countP (!·)=L.toList.countP (!·)-1:=by
     rw[Array.toList_setIfInBounds,List.countP_set (by simpa using uW)];simp[hLv]
    omega
   ·have hup:(fun t=>(L.setIfInBounds i true).getD t false)=upd (fun t=>L.getD t false) i:=by
     funext t
     unfold upd
     by_cases ht:t=i
     ·subst ht;simp[aV,bw,uW]
     ·simp[aV,bw,A1 ht,ht]
    rw[hup]
    exact hp.2.elim (fun hb=>LM _ _ _ _ (fun t ht=>by
     unfold upd at ht;split at ht
     ·cases ht
     ·exact ht) h.s hb) fun hs=>hs.1
   ·rw[sQ _ _ _ _ (ht o YR)];exact h.keep t ht
   ·have zL:k≠i:=by
     rintro rfl;simp[aV,bw,uW] at hk
    have hkL:L.getD k false=false:=by
     simpa [aV,bw,A1 zL] using hk
    have xu:k<ops.size:=by
     rcases Nat.lt_or_ge k ops.size with h5|h5
     ·exact h5
     ·unfold dT at hd;rw[fg h5] at hd;simp at hd
    rw[sQ _ _ _ _ fun Xn=>?_]
    ·exact h.late k d hd hkL
    ·rcases Nat.lt_trichotomy k i with h5|h5|h5
     ·rw[Xn] at uk;simp only[aC,decide_eq_true_eq] at uk;have:=aW.1 uk.2 k (bB.2 h5);simp[hd] at this
     ·exact zL h5
     ·have h6:=rr.1 k (bB.2 xu);rw[aM xu] at h6
      have h7:(ops[k]).dst=some d:=by
       unfold dT at hd;rw[aM xu] at hd;simpa using hd
      simp only[aC,h7] at h6;have:=aW.1 h6.1.2.2 i (bB.2 h5);unfold dT at this;rw[vU] at this;simp[Xn] at this
   ·by_cases zL:k=i
    ·subst zL;rw[hao] at he;exact ui _ (Kt e he hb)
    ·exact ui _ (h.closed k e (hback k zL hk) he hb)
   ·by_cases zL:k=i
    ·subst zL
     have hdd:fU ops (a.put o.dst v).eval (fJ ops k)=fU ops a.eval o.after.toList:=by
      rw[hao];exact py fun e he hb=>hval _ (Kt e he hb)
     rw[hdd];have:=hp.1;unfold dT iK;rw[vU];simp only[gg];cases hd:o.dst with
     |none=>rw[hd] at this;exact this
     |some d=>
      rw[hd] at this uk;simp only[aC,decide_eq_true_eq] at uk;have h9:=put_eq a d v (by rw[h.size,hn];exact uk.1.1);simp only[] at this ⊢;rw[h9];exact this
    ·have qy:=hback k zL hk;have YB:=h.vals k qy;have hdd:fU ops (a.put o.dst v).eval (fJ ops k)=fU ops a.eval (fJ ops k):=py fun e he hb=>hval _ (h.closed k e qy he hb);rw[hval k qy,hdd];exact hp.2.elim (fun hb=>Ed.get k h.s hb YB) fun hs=>hs.2 k _ _ zL qy YB
  cases hg:o.guard with
  |none=>
   rw[hg] at hO;exact hs1 i o _ a w _ vU (by simp[cF,hg]) hO next
  |some jb=>
   obtain⟨j,b⟩:=jb;rw[hg] at hO;obtain⟨⟨r,hr⟩,hO⟩:=hO;have hO:=hO r hr
   have hy:jR ops a.tmps j=some r:=by
    unfold jR;unfold iK at hr;unfold dT at hr;cases hd:(ops[j]?).bind (·.dst) with
    |none=>rw[hd] at hr;simp[af] at hr
    |some d=>
     rw[hd] at hr;simp only[gg]
     have h8:a.tmps[d]?=some (.bool r):=by
      unfold Act.eval at hr;simp only[] at hr
      by_cases Ci:d<a.tmps.size
      ·simp[eb,Ci] at hr;rw[aM Ci,hr]
      ·simp[eb,Ci,af] at hr
     rw[h8]
   by_cases hrb:r=b
   ·rw[if_pos hrb] at hO;exact hs1 i o _ a w _ vU (by simp[cF,hg,hy,hrb]) hO next
   ·rw[if_neg hrb] at hO;exact hs2 i o _ a w vU (by simp[cF,hg,hy,hrb]) (next _ _ hO)
theorem xg{a0:iR}{w:ar}(hS:S (fun t=>(aT ops.size false).getD t false) w):iX ops Vs S a0 (aT ops.size false) a0 w:=⟨by simp,rfl,rfl,hS,fun _ _=>rfl,fun _ _ _ _=>rfl,fun i e hi _ _=>by
  simp[aV,qx] at hi;split at hi<;>simp at hi,fun i hi=>by
  simp[aV,qx] at hi
  split at hi<;>simp at hi⟩
theorem vd:(aT ops.size false).toList.countP (!·)≤ops.size:=by simpa using wV (p:=(!·)) (l:=List.replicate ops.size false)
theorem uC{id:Nat}{a0:iR}{w:ar}(hm:P.follows .mixedOrders=true)(Vs:List Pred)(S:Ls→ar→Prop)(base:List (kz × aj))(cS:iZ ops a0.tmps.size base=true)(Ed:jd S Vs)(LM:∀(L L':Ls) w w',(∀t,L' t=false→L t=false)→S L w→az w.heap.size w w'→S L' w')
  (hS:S (fun _=>false) w.drew) (hbase:gF a0.eval base) (hlate:Jh ops a0.eval late) (hE:Each (Yields P) ops Vs S base late 0 ops.toList) (hQ:∀a w,iX ops Vs S a0 (aT ops.size true) a w→Q .normal a w):(Code.region id ops true).wp P Q a0 w:=
 wp_region_any hm (by
  rw[CW]
  exact zH (Y:=Yields P) (fun i o K a w R ho hw hy hk=>wpOp_step ho fun K' hK=>by rw[if_pos hw];exact hy.wp fun v w' hv=>hK _ _ (hk v w' hv))
   (fun i o K a w ho hw hk=>wpOp_step ho fun K' hK=>by rw[if_neg hw];exact hK _ _ hk) cS Ed LM a0 rfl hbase hlate hE hQ ops.size _ a0 _ vd (xg (by
   have e:(fun t=>(aT ops.size false).getD t false)=fun _=>false:=by
    funext t
    simp[aV,qx];split<;>simp
   rw[e];exact hS)))
theorem bQ{id:Nat}{a0:iR}{w:ar}(hm:P.follows .mixedOrders=true)(Vs:List Pred)(S:Ls→ar→Prop)(base:List (kz × aj))(cS:iZ ops a0.tmps.size base=true)(Ed:jd S Vs)(LM:∀(L L':Ls) w w',(∀t,L' t=false→L t=false)→S L w→az w.heap.size w w'→S L' w')
  (hS:S (fun _=>false) w.drew) (hbase:gF a0.eval base) (hE:Each (Yields P) ops Vs S base [] 0 ops.toList) (hQ:∀a w,iX ops Vs S a0 (aT ops.size true) a w→Q .normal a w):(Code.region id ops true).wp P Q a0 w:=
 uC (late:=[]) hm Vs S base cS Ed LM hS hbase trivial hE hQ
theorem iX.kept{a0 a:iR}{L:Array Bool}{w:ar}(h:iX ops Vs S a0 L a w){t:kz}(hk:keeps ops t=true):a.tmps.getD t af=a0.tmps.getD t undef:=
 h.keep t fun o ho=>by
  have:=aW.1 hk o ho;simpa using this
theorem iX.kp{a0 a:iR}{L:Array Bool}{w:ar}(h:iX ops Vs S a0 L a w)(t:kz)(hk:keeps ops t=true):a.tmps.getD t af=a0.tmps.getD t undef:=h.kept hk
theorem iX.val{a0 a:iR}{w:ar}(h:iX ops Vs S a0 (aT ops.size true) a w)(i:Nat)(hi:i<ops.size):fG Vs i (iK (dT ops i) a.eval) (fU ops a.eval (fJ ops i)) w:=h.vals i (by simp[eb,hi])
theorem iX.act{a0 a:iR}{L:Array Bool}{w:ar}(h:iX ops Vs S a0 L a w):a=⟨((aU a0.tmps.size).map fun t=>a.tmps.getD t af).toArray,a0.defers⟩:=by
 have h1:=h.size;have h2:=h.defers;obtain⟨tm,df⟩:=a;simp only[] at h1 h2;subst h2;rw[←h1]
 congr 1
 apply Array.ext
 ·simp
 ·intro i h1 h2;simp[eb,h1]
theorem iX.lits{a0 a:iR}{L:Array Bool}{w:ar}(h:iX ops Vs S a0 L a w)(n:Nat)(hn:a0.tmps.size=n):a=⟨((aU n).map fun t=>a.tmps.getD t af).toArray,a0.defers⟩:=hn▸h.act
end
end Ph
def LO(c:Bool)(v:aj):Value:=if c then v else af
theorem xV{x:Bool}:((.bool x:aj)=.bool true)↔x=true:=by simp
theorem lN{x:Bool}:((.bool x:aj)=.bool false)↔(!x)=true:=by cases x<;>simp
end Go.Lag
namespace Go.RowKit
theorem Below.tr{w W W':ar}(h:az w.heap.size w W)(ho:az W.heap.size W W'):az w.heap.size w W':=h.trans (ho.mono h.size)
end Go.RowKit
namespace Go.Lag
open Go Go.RowKit
theorem aL{W W':ar}{B:Nat}{o:Obj}(h:W.heap[B]?=some o)(ho:az W.heap.size W W'):W'.heap[B]?=some o:=(ho.block _ (ak.1 h).1).trans h
section
variable{P:aI}{ops:Array cz}{Q:Exit→iR→ar→Prop}{n:Nat}
theorem nv{id:Nat}{y:Code}{a0:iR}{W:ar}(Vs:List Pred)(base:List (kz × aj))(cS:iZ ops n base=true)(hn:a0.tmps.size=n)(hbase:gF a0.eval base)(Ed:jd (fun w=>az W.heap.size W w) Vs)
  (hE:Gd.Each (Yields P) ops Vs (fun w=>az W.heap.size W w) base 0 ops.toList) (hy:∀a w,iX ops Vs (fun w=>az W.heap.size W w) a0 (aT ops.size true) a w→y.wp P Q a w):(Code.seq (.region id ops false) y).wp P Q a0 W:=
 wp_seq (Gd.Hb Vs (fun w=>az W.heap.size W w) base cS hn Ed (fun _ _ h hb=>h.trans (hb.mono h.size)) (aw _ _) hbase hE fun a w h=>hy a w h)
theorem OS(hm:P.follows .mixedOrders=true){id:Nat}{y:Code}{a0:iR}{W:ar}(Vs:List Pred)(base:List (kz × aj))(cS:iZ ops n base=true)(hn:a0.tmps.size=n)(hbase:gF a0.eval base)(Ed:jd (fun w=>az W.heap.size W w) Vs)
  (hE:Gd.Each (Yields P) ops Vs (fun w=>az W.heap.size W w) base 0 ops.toList) (hy:∀a w,iX ops Vs (fun w=>az W.heap.size W w) a0 (aT ops.size true) a w→y.wp P Q a w):(Code.seq (.region id ops true) y).wp P Q a0 W:=
 wp_seq (Gd.bQ hm Vs (fun w=>az W.heap.size W w) base (by rw[hn];exact cS) Ed (fun _ _ h hb=>h.trans (hb.mono h.size)) (aw _ _).drew hbase hE fun a w h=>hy a w h)
theorem ac5(hm:P.follows .mixedOrders=true){id:Nat}{a0:iR}{W:ar}(Vs:List Pred)(base:List (kz × aj))(cS:iZ ops n base=true)(hn:a0.tmps.size=n)(hbase:gF a0.eval base)(Ed:jd (fun w=>az W.heap.size W w) Vs)
  (hE:Gd.Each (Yields P) ops Vs (fun w=>az W.heap.size W w) base 0 ops.toList) (hy:∀a w,iX ops Vs (fun w=>az W.heap.size W w) a0 (aT ops.size true) a w→Q .normal a w):(Code.region id ops true).wp P Q a0 W:=
 Gd.bQ hm Vs (fun w=>az W.heap.size W w) base (by rw[hn];exact cS) Ed (fun _ _ h hb=>h.trans (hb.mono h.size)) (aw _ _).drew hbase hE fun a w h=>hy a w h
theorem Ph.iX.fr{Vs:List Pred}{S:Ph.Ls→ar→Prop}{a0 a:iR}{L:Array Bool}{w:ar}{n:Nat}{l:List (kz × aj)}(h:Ph.iX ops Vs S a0 L a w)(h0:iV n a0 l)(hk:(l.all fun p=>keeps ops p.1)=true):iV n a l:=
 ⟨h.size.trans h0.size,h.defers.trans h0.defers,h0.base.congr fun p hp=>h.keep p.1 fun o ho=>by
  have h1:=aW.1 hk p hp;have:=aW.1 h1 o ho
  simpa using this⟩
theorem mO{args:Array aj}{k t:Nat}{v:aj}(h:args[t]?=some v):(⟨args++aT k af,[]⟩:iR).eval (.tmp t)=v:=by
 have hl:=(ak.1 h).1;unfold Act.eval;simp only[aV];rw[Array.getElem?_append_left hl,h];rfl
theorem ki{args:Array aj}{n:Nat}(hn:args.size≤n)(l:List (kz × aj))(h:gF (⟨args++aT (n-args.size) af,[]⟩:iR).eval l):iV n ⟨args++aT (n-args.size) af,[]⟩ l:=⟨by simp;omega,rfl,h⟩
end
def look(P:aI)(cs:Array aj){α:Type}:Sem α→Option (α × List Nat)
 |.pure a=>some (a,[])
 |.program k=>look P cs (k P)
 |.load _ a k=>match a.spot,cs[a.off]? with
  |none,some v=>match look P cs (k v) with
   |some (x,l)=>some (x,a.block::l)
   |none=>none
  |_,_=>none
 |_=>none
theorem mY{P:aI}{cs:Array aj}{α:Type}{w:ar}{s:Sem α}:∀ {a:α} {l:List Nat},look P cs s=some (a,l)→(∀b∈l,∃ty fr,w.heap[b]?=some (.cells cs ty fr))→s.run P w=.ok a w:=by
 induction s with
 |pure x=>intro a l h _;cases h;rfl
 |program k ih=>intro a l h hB;exact ih P h hB
 |load m ad k ih=>
  intro a l h hB;unfold look at h;cases hs:ad.spot with
  |some _=>rw[hs] at h;simp at h
  |none=>
   cases hc:cs[ad.off]? with
   |none=>rw[hs,hc] at h;simp at h
   |some v=>
    rw[hs,hc] at h;simp only[] at h;cases hk:look P cs (k v) with
    |none=>rw[hk] at h;simp at h
    |some x=>
     rw[hk] at h;obtain⟨x,l'⟩:=x;cases h
     have h1:w.cell? ad=some v:=by
      obtain⟨ty,fr,hb⟩:=hB ad.block (by simp);unfold World.cell?;rw[hb,hs];exact hc
     unfold Sem.run;rw[h1];exact ih v hk fun b hb=>hB b (bI _ hb)
 |_=>intro a l h _;cases h
def tT:Op→Option (List bE)
 |.move x|.assign x|.box _ x|.load _ x|.unOp _ _ x|.convert _ _ x|.fieldAddr _ x _|.field _ x _|.extract x _|.nilCheck x|.makeInterface _ x=>some [x]
 |.binOp _ _ x y _|.indexAddr _ x y|.index _ x y|.lookup _ x y _=>some [x,y]
 |.build _ ps|.buildSlice _ _ ps=>some (ps.toList.map (·.2))
 |.alloc _=>some []
 |.store _ x y|.makeSlice _ x y=>some [x,y]
 |.mapUpdate _ x y z=>some [x,y,z]
 |.slice _ x lo hi mx=>some (x::(lo.toList++(hi.toList++mx.toList)))
 |.makeFunc _ xs ys=>some (xs.toList++ys.toList)
 |.call c=>match c.callee with
  |.value f=>some (f::c.args.toList)
  |.builtin _=>some c.args.toList
  |_=>none
 |_=>none
theorem map_congr{α:Type}{f g:bE→α}{xs:Array bE}(h:∀x∈xs.toList,f x=g x):xs.map f=xs.map g:=by
 apply Array.ext';rw[vw,vw];exact Fe h
theorem xi{α:Type}{f g:bE→α}{xs:Option bE}(h:∀x∈xs.toList,f x=g x):xs.map f=xs.map g:=by
 cases xs with
 |none=>rfl
 |some x=>simp[h x (by simp)]
theorem execOp_congr{o:cz}{ev El:bE→aj}{l:List bE}(hl:tT o.op=some l)(h:∀x∈l,ev x=El x):bX ev o=bX El o:=by
 unfold bX;cases ho:o.op<;>rw[ho] at hl<;>simp only[tT] at hl<;>try (cases hl;done)
 case call c=>
  cases hc:c.callee<;>rw[hc] at hl<;>simp only[] at hl<;>try (cases hl;done)
  ·cases hl;have h1:c.args.map ev=c.args.map El:=map_congr fun x hx=>h x (bI _ hx);simp only[resolve,hc,h1,h _ (cR ..)]
  ·cases hl;have h1:c.args.map ev=c.args.map El:=map_congr h;simp only[resolve,hc,h1]
 case build t ps=>
  cases hl
  have h1:(ps.map fun(x:Nat × bE)=>(x.1,ev x.2))=ps.map fun x=>(x.1,El x.2):=by
   apply Array.ext';rw[vw,vw];exact Fe fun x hx=>by rw[h x.2 (dc.2 ⟨x,hx,rfl⟩)]
  simp only[h1]
 case buildSlice t k ps=>
  cases hl
  have h1:(ps.map fun(x:Nat × bE)=>(x.1,ev x.2))=ps.map fun x=>(x.1,El x.2):=by
   apply Array.ext';rw[vw,vw];exact Fe fun x hx=>by rw[h x.2 (dc.2 ⟨x,hx,rfl⟩)]
  simp only[h1]
 case slice t x lo hi mx=>
  cases hl;have h1:lo.map ev=lo.map El:=xi fun x hx=>h x (by simp[hx]);have h2:hi.map ev=hi.map El:=xi fun x hx=>h x (by simp[hx]);have h3:mx.map ev=mx.map El:=xi fun x hx=>h x (by simp[hx]);simp only[h1,h2,h3,h x (by simp)]
 case makeFunc fn xs ys=>
  cases hl;have h1:xs.map ev=xs.map El:=map_congr fun x hx=>h x (by simp at hx ⊢;exact .inl hx);have h2:ys.map ev=ys.map El:=map_congr fun x hx=>h x (by simp at hx ⊢;exact .inr hx);simp only[h1,h2]
 all_goals
  cases hl
  first
   |rfl
   |(simp only[h _ (cR ..)];done)
   |(simp only[h _ (cR ..),h _ (bI _ (cR ..))];done)
   |(simp only[h _ (cR ..),h _ (bI _ (cR ..)),h _ (bI _ (bI _ (cR ..)))];done)
structure Cf where
 lits:List (Nat × Bool)
 hs:List (Nat × aj)
 mem:List (Nat × Array aj)
 lds:List (Nat × Nat)
def lL{β:Type}:List (Nat × β)→Nat→Option β
 |[],_=>none
 |p::l,i=>bif Nat.beq p.1 i then some p.2 else lL l i
theorem yT{β:Type}:∀ {l:List (Nat × β)} {i:Nat} {v:β},lL l i=some v→(i,v)∈l
 |p::l,i,v,h=>by
  unfold lL at h;cases hb:Nat.beq p.1 i with
  |true=>
   rw[hb] at h;have:=gS hb;cases h;obtain⟨a,b⟩:=p;cases this;exact cR ..
  |false=>rw[hb] at h;exact bI _ (yT h)
abbrev En:=List (Nat × Bool) × aj × List Nat
def eqT:Option Nat→Nat→Bool
 |some d,t=>Nat.beq d t
 |none,_=>false
def wD(ops:Array cz):List Edge→kz→Option Nat
 |[],_=>none
 |e::l,t=>bif fe .any e&&eqT (dT ops e.on) t then some e.on else wD ops l t
theorem w8{ops:Array cz}{t j:Nat}:∀ {l:List Edge},wD ops l t=some j→∃e∈l,e.on=j∧fe .any e=true∧dT ops j=some t
 |e::l,h=>by
  unfold wD at h;cases hb:(fe .any e&&eqT (dT ops e.on) t) with
  |true=>
   rw[hb] at h;cases h;rw[aC] at hb;refine⟨e,cR ..,rfl,hb.1,?_⟩;have:=hb.2;cases hd:dT ops e.on with
   |none=>rw[hd] at this;cases this
   |some d=>rw[hd] at this;rw[gS this]
  |false=>
   rw[hb] at h;obtain⟨e',he,h1⟩:=w8 h;exact⟨e',bI _ he,h1⟩
def MG:aj→Bool→Bool
 |.bool true,b=>b
 |.bool false,b=>!b
 |_,_=>false
theorem nV{v:aj}{b:Bool}:MG v b=true↔v=.bool b:=by
 unfold MG;cases v<;>try simp
 rename_i x;cases x<;>cases b<;>simp
def bools:aj→aj→aj→aj
 |.bool t,.bool x,.bool y=>.bool (bif t then x else y)
 |_,_,_=>af
def isBool:aj→Bool
 |.bool _=>true
 |_=>false
def subs(a b:List (Nat × Bool)):Bool:=a.all fun p=>b.any fun q=>Nat.beq p.1 q.1&&(p.2==q.2)
section
variable(P:aI)(ops:Array cz)(base:List (kz × aj))(C:Cf)
def opAt(i:Nat):Oper:=(ops.toList).getD i default
def BN(st:Nat→En)(l:List Edge):bE→aj
 |.const v=>v
 |.global g=>.pointer (some ⟨g,0,none⟩)
 |.func f=>.func (.func f) #[] #[]
 |.tmp t=>match wD ops l t with
  |some j=>(st j).2.1
  |none=>(lL base t).getD af
def uP(st:Nat→En)(l:List Edge)(ch:List (Nat × Bool)):bE→Bool
 |.tmp t=>match wD ops l t with
  |some j=>subs (st j).1 ch
  |none=>(lL base t).isSome
 |_=>true
def OI(st:Nat→En)(o:cz):Option (List (Nat × Bool)):=
 match o.guard with
 |none=>some []
 |some (j,b)=>match lL C.lits j with
  |some b'=>bif b'==b then some (st j).1 else none
  |none=>some ((j,b)::(st j).1)
def SB(l:List Edge):bE→Option Bool
 |.tmp t=>(wD ops l t).bind (lL C.lits)
 |_=>none
def NU(l:List Edge)(c:bE)(b:Bool)(ch:List (Nat × Bool)):List (Nat × Bool):=
 match c with
 |.tmp t=>match wD ops l t with
  |some j=>(j,b)::ch
  |none=>ch
 |_=>ch
def qc(i:Nat):Option (Nat × Array aj):=C.mem[(lL C.lds i).getD 0]?
def TS(i:Nat):Array Value:=match qc C i with|some m=>m.2|none=>#[]
def DN(st:Nat→En)(i:Nat)(o:cz):Option (Next × List Nat):=look P (TS C i) (bX (BN ops base st o.after.toList) o)
def wY(st:Nat→En)(i:Nat)(o:cz):aj × List Nat:=
 match lL C.hs i with
 |some v=>(v,[])
 |none=>match o.op with
  |.pick c a b=>(match SB ops C o.after.toList c with
   |some true=>BN ops base st o.after.toList a
   |some false=>BN ops base st o.after.toList b
   |none=>bools (BN ops base st o.after.toList c) (BN ops base st o.after.toList a) (BN ops base st o.after.toList b),[])
  |_=>match DN P ops base C st i o with
   |some (.value v,bl)=>(v,bl)
   |_=>(af,[])
def uE(st:Nat→En)(i:Nat)(o:cz):En:=
 match OI C st o with
 |none=>([],af,[])
 |some ch=>(ch,wY P ops base C st i o)
def EN:Nat→List cz→(Nat→En)→Nat→En
 |_,[],st=>st
 |i,o::l,st=>EN (i+1) l fun k=>bif Nat.beq k i then uE P ops base C st i o else st k
def nw:Nat→En:=EN P ops base C 0 ops.toList fun _=>([],af,[])
def okC(st:Nat→En)(i:Nat)(o:cz)(ch:List (Nat × Bool)):Bool:=
 match o.op with
 |.pick c a b=>(lL C.hs i).isNone&&uP ops base st o.after.toList ch c&&(match SB ops C o.after.toList c with
  |some true=>MG (BN ops base st o.after.toList c) true&&uP ops base st o.after.toList ch a
  |some false=>MG (BN ops base st o.after.toList c) false&&uP ops base st o.after.toList ch b
  |none=>isBool (BN ops base st o.after.toList c)&&isBool (BN ops base st o.after.toList a)&&isBool (BN ops base st o.after.toList b) &&
   uP ops base st o.after.toList (NU ops o.after.toList c true ch) a&&uP ops base st o.after.toList (NU ops o.after.toList c false ch) b)
 |_=>(match tT o.op with
   |some l=>l.all (uP ops base st o.after.toList ch)
   |none=>false) &&
  (match lL C.hs i with
  |some _=>true
  |none=>match DN P ops base C st i o with
   |some (.value _,bl)=>(qc C i).isSome||bl.isEmpty
   |_=>false)
def TU(st:Nat→En):Nat→List cz→Bool
 |_,[]=>true
 |i,o::l=>((match o.guard with
  |some (j,_)=>(dT ops j).isSome&&(match lL C.lits j with|some b'=>MG (st j).2.1 b'|none=>true)
  |none=>true)&&(match OI C st o with
  |none=>true
  |some ch=>okC P ops base C st i o ch))&&TU st (i+1) l
def ldL(st:Nat→En):Nat→List cz→List (List Nat)
 |_,[]=>[]
 |i,_::l=>(st i).2.2::ldL st (i+1) l
def ldR(st:Nat→En):Nat→List cz→List (List Nat)
 |_,[]=>[]
 |i,_::l=>((st i).2.2.map fun _=>((qc C i).map (·.1)).getD 0)::ldR st (i+1) l
def lJ(st:Nat→En)(ch:List (Nat × Bool)):Bool:=ch.all fun p=>MG (st p.1).2.1 p.2
def lV(s:Sem Next)(w:ar)(v:aj):Prop:=
 match s.run P w with
 |.ok (.value u) w'=>u=v∧az w.heap.size w w'
 |.ok (.enter f args) w'=>w'=w∧bm P f args w fun e w''=>e=.returned v∧az w.heap.size w w''
 |_=>False
def LA(G:Nat→Sem Next→ar→aj→Prop)(S:ar→Prop)(st:Nat→En):List (Nat × aj)→Prop
 |[]=>True
 |p::l=>(∀w,S w→lJ st (st p.1).1=true→G p.1 (bX (BN ops base st (opAt ops p.1).after.toList) (opAt ops p.1)) w p.2)∧LA G S st l
def nA(S:ar→Prop):List (Nat × Array aj)→Prop
 |[]=>True
 |m::l=>(∀w,S w→∃ty fr,w.heap[m.1]?=some (.cells m.2 ty fr))∧nA S l
def wH(st:Nat→En)(i:Nat):Pred:=
 match dT ops i with
 |some _=>fun u _ _=>u=LO (lJ st (st i).1) (st i).2.1
 |none=>fun _ _ _=>True
def oT(st:Nat→En):List Pred:=(aU ops.size).map (wH ops st)
def Vc(st:Nat→En)(t:kz):List cz→Nat→Option aj
 |[],_=>none
 |o::l,i=>bif eqT o.dst t then(match (st i).1 with|[]=>some (st i).2.1|_=>none) else Vc st t l (i+1)
end
section
variable{P:aI}{ops:Array cz}{base:List (kz × aj)}{C:Cf}{n:Nat}{S:ar→Prop}{outs:List (kz × aj)}
theorem lV.yields{o:cz}{ev:bE→aj}{w:ar}{v:aj}{R:aj→ar→Prop}(hg:lV P (bX ev o) w v)(hR:∀w',az w.heap.size w w'→R v w'):Yields P o ev w R:=by
 unfold lV at hg;unfold Yields;generalize (bX ev o).run P w=r at *;cases r with
 |halt x w'=>exact hg.elim
 |ok nx w'=>
  cases nx<;>simp only[] at hg<;>first|exact hg.elim|skip
  ·obtain⟨rfl,hb⟩:=hg;exact hR _ hb
  ·obtain⟨rfl,hc⟩:=hg;exact hc.mono (by rintro e w'' ⟨rfl,hb⟩;exact⟨_,rfl,hR _ hb⟩)
theorem LA.get{G:Nat→Sem Next→ar→aj→Prop}{st:Nat→En}:∀ {l:List (Nat × aj)} {p:Nat × aj},LA ops base G S st l→p∈l→∀w,S w→lJ st (st p.1).1=true→G p.1 (bX (BN ops base st (opAt ops p.1).after.toList) (opAt ops p.1)) w p.2
 |q::l,p,h,hp=>by
  rcases bR.1 hp with rfl|hp
  ·exact h.1
  ·exact LA.get h.2 hp
theorem nA.get:∀ {l:List (Nat × Array aj)} {m:Nat × Array aj},nA S l→m∈l→∀w,S w→∃ty fr,w.heap[m.1]?=some (.cells m.2 ty fr)
 |q::l,m,h,hp=>by
  rcases bR.1 hp with rfl|hp
  ·exact h.1
  ·exact nA.get h.2 hp
theorem EM:∀(l:List cz) (i:Nat) (st:Nat→En) (k:Nat),k<i→EN P ops base C i l st k=st k
 |[],_,_,_,_=>rfl
 |o::l,i,st,k,h=>by
  unfold EN;rw[EM l (i+1) _ k (by omega)]
  have:Nat.beq k i=false:=by
   cases hb:Nat.beq k i with
   |false=>rfl
   |true=>have:=gS hb;omega
  rw[this];rfl
theorem Lj:∀(l:List cz) (i:Nat) (st:Nat→En) (j:Nat) (o:cz),l[j]?=some o→∃N2,EN P ops base C i l st (i+j)=uE P ops base C N2 (i+j) o∧∀k,k<i+j→N2 k=EN P ops base C i l st k
 |[],_,_,_,_,h=>by simp at h
 |x::l,i,st,j,o,h=>by
  unfold EN;cases j with
  |zero=>
   simp at h;subst h;refine⟨st,?_,fun k hk=>?_⟩
   ·simp only[Nat.add_zero];rw[EM l (i+1) _ i (by omega)];have:Nat.beq i i=true:=Nat.beq_refl i;rw[this];rfl
   ·rw[EM l (i+1) _ k (by omega)]
    have:Nat.beq k i=false:=by
     cases hb:Nat.beq k i with
     |false=>rfl
     |true=>have:=gS hb;omega
    rw[this];rfl
  |succ j=>
   have:=Lj l (i+1) (fun k=>bif Nat.beq k i then uE P ops base C st i x else st k) j o (by simpa using h);rwa [show i+1+j=i+(j+1) by omega] at this
theorem QF{st N2:Nat→En}{l:List Edge}(h:∀e∈l,fe .any e=true→st e.on=N2 e.on):BN ops base st l=BN ops base N2 l:=by
 funext x
 cases x<;>try rfl
 rename_i t;unfold BN;cases hs:wD ops l t with
 |none=>simp only[hs]
 |some j=>
  obtain⟨e,he,h1,h2,-⟩:=w8 hs;simp only[hs];rw[←h1,h e he h2]
theorem JF{st N2:Nat→En}{i:Nat}{o:cz}(h:∀e∈o.after.toList,fe .any e=true→st e.on=N2 e.on)(hg:∀j b,o.guard=some (j,b)→st j=N2 j):uE P ops base C st i o=uE P ops base C N2 i o:=by
 have h1:=QF (ops:=ops) (base:=base) h
 have h2:OI C st o=OI C N2 o:=by
  unfold OI;cases hgd:o.guard with
  |none=>rfl
  |some jb=>obtain⟨j,b⟩:=jb;simp only[hg j b hgd]
 unfold uE wY DN;rw[h1,h2]
theorem BJ{o:cz}{i j:Nat}{b:Bool}(cS:iZ ops n base=true)(ho:ops[i]?=some o)(hg:o.guard=some (j,b)):∃e∈o.after.toList,fe .any e=true∧e.on=j:=by
 have hi:i<ops.size:=(ak.1 ho).1;unfold iZ at cS;rw[aC,aW] at cS;have h2:=cS.1 i (bB.2 hi);rw[ho] at h2;simp only[aC,hg] at h2;obtain⟨e,he,h3⟩:=List.any_eq_true.1 h2.2;rw[aC,decide_eq_true_eq] at h3;exact⟨e,he,h3⟩
theorem QQ(cS:iZ ops n base=true){i:Nat}{o:cz}(ho:ops[i]?=some o):nw P ops base C i=uE P ops base C (nw P ops base C) i o:=by
 obtain⟨N2,h1,h2⟩:=Lj (P:=P) (ops:=ops) (base:=base) (C:=C) ops.toList 0 (fun _=>([],af,[])) i o (by simpa using ho);rw[cZ] at h1 h2;unfold nw;rw[h1];refine JF (fun e he hb=>h2 _ (Gd.pS cS ho he hb)) fun j b hg=>?_;obtain⟨e,he,hb,rfl⟩:=BJ cS ho hg;exact h2 _ (Gd.pS cS ho he hb)
theorem UW{st:Nat→En}{i:Nat}{o:cz}(Qi:∀c a b,o.op≠.pick c a b)(Ak:lL C.hs i=none):wY P ops base C st i o=match DN P ops base C st i o with|some (.value v,bl)=>(v,bl)|_=>(af,[]):=by
 unfold wY;rw[Ak];cases ho:o.op<;>first|exact absurd ho (Qi _ _ _)|rfl
theorem Yk{st:Nat→En}{i:Nat}{o:cz}{ch:List (Nat × Bool)}(Qi:∀c a b,o.op≠.pick c a b):okC P ops base C st i o ch=((match tT o.op with | some l=>l.all (uP ops base st o.after.toList ch) | none=>false)&&(match lL C.hs i with | some _=>true | none=>match DN P ops base C st i o with | some (.value _,bl)=>(qc C i).isSome||bl.isEmpty | _=>false)):=by
 unfold okC;cases ho:o.op<;>first|exact absurd ho (Qi _ _ _)|rfl
theorem Dt{st:Nat→En}{i:Nat}{u:aj}{ds:List aj}{w w':ar}(h:wH ops st i u ds w):wH ops st i u ds w':=by
 unfold wH at h ⊢;cases hd:dT ops i with
 |none=>trivial
 |some d=>rw[hd] at h;exact h
theorem rV{st:Nat→En}{i:Nat}(hi:i<ops.size):fG (oT ops st) i=wH ops st i:=by
 unfold fG oT;simp[List.getD,hi]
theorem Pk{st:Nat→En}{a b:List (Nat × Bool)}(h:subs a b=true)(hc:lJ st b=true):lJ st a=true:=by
 unfold subs at h;unfold lJ at *;rw[aW] at *;intro p hp;obtain⟨q,hq,h1⟩:=List.any_eq_true.1 (h p hp);rw[aC] at h1;have h2:=hc q hq;rw[gS h1.1,eq_of_beq h1.2];exact h2
theorem K8{st:Nat→En}:∀ {l:List cz} {i j:Nat} {o:cz},TU P ops base C st i l=true→l[j]?=some o→
  (∀k b,o.guard=some (k,b)→(dT ops k).isSome=true∧∀b',lL C.lits k=some b'→MG (st k).2.1 b'=true)∧∀ch,OI C st o=some ch→okC P ops base C st (i+j) o ch=true
 |[],_,_,_,_,h=>by simp at h
 |x::l,i,j,o,hc,h=>by
  unfold TU at hc;rw[aC,aC] at hc;cases j with
  |zero=>
   simp at h;subst h;refine⟨fun k b hg=>?_,fun ch hg=>?_⟩
   ·have:=hc.1.1;rw[hg,aC] at this;refine⟨this.1,fun b' hk=>?_⟩;have h2:=this.2;simp only[hk] at h2;exact h2
   ·have:=hc.1.2;rw[hg] at this;exact this
  |succ j=>
   have:=K8 hc.2 (j:=j) (by simpa using h);rwa [show i+1+j=i+(j+1) by omega] at this
theorem SD{st:Nat→En}:∀ {l:List cz} {i j:Nat},ldL st i l=ldR C st i l→j<l.length→∀b∈(st (i+j)).2.2,b=((qc C (i+j)).map (·.1)).getD 0
 |[],_,_,_,h=>by simp at h
 |x::l,i,j,he,h=>by
  unfold ldL ldR at he;rw[zP] at he;cases j with
  |zero=>
   intro b hb;rw[Nat.add_zero] at hb ⊢;have h1:=he.1;rw[h1] at hb;obtain⟨_,_,rfl⟩:=dc.1 hb;rfl
  |succ j=>
   have:=SD he.2 (j:=j) (by simpa using h);rwa [show i+1+j=i+(j+1) by omega] at this
theorem Yc{st:Nat→En}{ev:bE→aj}{w:ar}{o:cz}{i:Nat}{ch:List (Nat × Bool)}(cS:iZ ops n base=true)(ho:ops[i]?=some o)(hc:∀v,ev (.const v)=v)(hg:∀g,ev (.global g)=.pointer (some ⟨g,0,none⟩))(hf:∀f,ev (.func f)=.func (.func f) #[] #[])
  (hb:gF ev base) (hd:∀e∈o.after.toList,fe .any e=true→fG (oT ops st) e.on (iK (dT ops e.on) ev) (fU ops ev (fJ ops e.on)) w) (lI:lJ st ch=true):∀ {x:bE},uP ops base st o.after.toList ch x=true→ev x=BN ops base st o.after.toList x
 |.const v,_=>hc v
 |.global g,_=>hg g
 |.func f,_=>hf f
 |.tmp t,h=>by
  unfold uP at h;unfold BN;simp only[] at h ⊢;cases hs:wD ops o.after.toList t with
  |none=>
   rw[hs] at h;simp only[] at h ⊢;cases hk:lL base t with
   |none=>rw[hk] at h;cases h
   |some v=>
    have:=yT hk;clear hd cS hk h
    induction base with
    |nil=>cases this
    |cons p l ih=>
     rcases bR.1 this with rfl|h2
     ·exact hb.1
     ·exact ih hb.2 h2
  |some j=>
   rw[hs] at h;simp only[] at h ⊢;obtain⟨e,he,rfl,h2,h3⟩:=w8 hs;have h4:=hd e he h2;have hlt:=Gd.pS cS ho he h2;have hi:i<ops.size:=(ak.1 ho).1;rw[rV (by omega)] at h4;unfold wH at h4;rw[h3] at h4;simp only[iK] at h4;rw[h4,Pk h lI];rfl
theorem KX{Vs:List Pred}{ev:bE→aj}{w:ar}:∀ {l:List Edge},E0 ops Vs ev w l→∀e∈l,fe .any e=true→fG Vs e.on (iK (dT ops e.on) ev) (fU ops ev (fJ ops e.on)) w
 |e::l,h,e',he,hb=>by
  rcases bR.1 he with rfl|he
  ·exact h.1 hb
  ·exact KX h.2 e' he hb
theorem T1{Y:lK}{G:Nat→Sem Next→ar→aj→Prop}{T:ar→ar→Prop}(UG:∀w w',S w→T w w'→S w')(Qr:∀w,T w w){i:Nat}{o:cz}(ho:ops[i]?=some o)
  (hp:lL C.hs i=none→∀ev w R v,(bX ev o).run P w=.ok (.value v) w→R v w→Y o ev w R) (hG:∀ev w v R,S w→G i (bX ev o) w v→(∀w',T w w'→R v w')→Y o ev w R)
  (cS:iZ ops n base=true) (hck:TU P ops base C (nw P ops base C) 0 ops.toList=true) (Qj:ldL (nw P ops base C) 0 ops.toList=ldR C (nw P ops base C) 0 ops.toList) (hm:nA S C.mem)
  (hh:LA ops base G S (nw P ops base C) C.hs):Gd.LQ Y ops (oT ops (nw P ops base C)) S base i o:=by
 intro ev w hS hc hg hf hb hd;have hi:i<ops.size:=(ak.1 ho).1;have hat:opAt ops i=o:=by unfold opAt;simp[List.getD,ho]
 have hstep:=QQ (P:=P) (C:=C) cS ho;obtain⟨qg,hk2⟩:=K8 hck (j:=i) (by simpa using ho);rw[cZ] at hk2;have Qj:=SD Qj (j:=i) (by simpa using hi);rw[cZ] at Qj;generalize hst:nw P ops base C=st at *;have hdm:=KX hd
 have post:∀ {v:aj} {w':ar},(∀d,o.dst=some d→v=LO (lJ st (st i).1) (st i).2.1)→T w w'→Post ops ev (oT ops st) S i o w v w':=fun {v w'} hv ht=>by
  refine⟨?_,.inr ⟨UG _ _ hS ht,fun k u ds hk hu=>?_⟩⟩
  ·rw[rV hi];unfold wH dT;rw[ho];simp only[gg];cases uk:o.dst with
   |none=>trivial
   |some d=>exact hv d uk
  ·by_cases hks:k<ops.size
   ·rw[rV hks] at hu ⊢;exact Dt hu
   ·unfold fG oT;simp[List.getD,hks]
 have go:∀ch,OI C st o=some ch→lJ st ch=true→Y o ev w (Post ops ev (oT ops st) S i o w):=fun ch hgd lI=>by
  have uj:=hk2 ch hgd
  have Uz:st i=(ch,wY P ops base C st i o):=by
   rw[hstep];unfold uE;rw[hgd]
  have hval:∀d,o.dst=some d→(wY P ops base C st i o).1=LO (lJ st (st i).1) (st i).2.1:=fun d _=>by
   rw[Uz];show(wY P ops base C st i o).1=LO (lJ st ch) (wY P ops base C st i o).1;rw[lI];rfl
  have hop:∀ {ch':List (Nat × Bool)} {x:bE},lJ st ch'=true→uP ops base st o.after.toList ch' x=true→ev x=BN ops base st o.after.toList x:=fun h1 h2=>Yc cS ho hc hg hf hb hdm h1 h2
  have rest:(∀c a b,o.op≠.pick c a b)→Y o ev w (Post ops ev (oT ops st) S i o w):=fun Qi=>by
   have h5:(match tT o.op with | some l=>l.all (uP ops base st o.after.toList ch) | none=>false)=true∧(match lL C.hs i with | some _=>true | none=>match DN P ops base C st i o with | some (.value _,bl)=>(qc C i).isSome||bl.isEmpty | _=>false)=true:=by
    rw[Yk Qi,aC] at uj;exact uj
   cases hl:tT o.op with
   |none=>rw[hl] at h5;cases h5.1
   |some l=>
    rw[hl] at h5;have hex:bX ev o=bX (BN ops base st o.after.toList) o:=execOp_congr hl fun x hx=>hop lI (aW.1 h5.1 x hx);cases Ak:lL C.hs i with
    |some v=>
     have h6:=hh.get (yT Ak) w hS (by rw[Uz];exact lI);simp only[hat] at h6;rw[←hex] at h6;have hv:(wY P ops base C st i o).1=v:=by unfold wY;rw[Ak]
     rw[hv] at hval;exact hG ev w v _ hS h6 fun w' ht=>post hval ht
    |none=>
     rw[Ak] at h5;cases hlk:DN P ops base C st i o with
     |none=>rw[hlk] at h5;cases h5.2
     |some nb=>
      obtain⟨nx,bl⟩:=nb;rw[hlk] at h5;cases nx<;>try (cases h5.2;done)
      rename_i v;have hv:wY P ops base C st i o=(v,bl):=by rw[UW Qi Ak,hlk]
      rw[hv] at hval Uz
      have hbl:∀b∈bl,∃ty fr,w.heap[b]?=some (.cells (TS C i) ty fr):=fun b Qp=>by
       have h7:=Qj b (by rw[Uz];exact Qp);have h8:=h5.2;simp only[] at h8;unfold TS;cases hmm:qc C i with
       |none=>
        rw[hmm] at h8;cases bl with
        |nil=>cases Qp
        |cons _ _=>cases h8
       |some m=>
        rw[hmm] at h7;have h7:b=m.1:=h7;subst h7;unfold qc at hmm;exact hm.get (List.mem_of_getElem? hmm) w hS
      have hrun:=mY (w:=w) hlk hbl;rw[←hex] at hrun;exact hp Ak ev w _ v hrun (post hval (Qr w))
  by_cases Rh:∃c a b,o.op=.pick c a b
  case neg=>exact rest fun c a b h=>Rh ⟨c,a,b,h⟩
  obtain⟨c,a,b,Aj⟩:=Rh;unfold okC at uj;rw[Aj] at uj;simp only[aC] at uj;obtain⟨⟨hnone,YL⟩,rq⟩:=uj;have Ak:lL C.hs i=none:=by simpa using hnone
  have MR:=hop lI YL;cases IC:SB ops C o.after.toList c with
  |some t=>
   rw[IC] at rq
   have hv:(wY P ops base C st i o).1=if t then BN ops base st o.after.toList a else BN ops base st o.after.toList b:=by
    unfold wY;rw[Ak,Aj];simp only[IC];cases t<;>rfl
   cases t with
   |true=>
    rw[aC] at rq;have hrun:=qK (P:=P) (w:=w) Aj (MR.trans (nV.1 rq.1));refine hp Ak ev w _ _ hrun (post (fun d hd=>?_) (Qr w));rw[←hval d hd,hv];exact hop lI rq.2
   |false=>
    rw[aC] at rq;have hrun:=qK (P:=P) (w:=w) Aj (MR.trans (nV.1 rq.1));refine hp Ak ev w _ _ hrun (post (fun d hd=>?_) (Qr w));rw[←hval d hd,hv];exact hop lI rq.2
  |none=>
   rw[IC] at rq;simp only[aC] at rq;obtain⟨⟨⟨⟨h1,h2⟩,h3⟩,h4⟩,h5⟩:=rq
   have hv:(wY P ops base C st i o).1=bools (BN ops base st o.after.toList c) (BN ops base st o.after.toList a) (BN ops base st o.after.toList b):=by
    unfold wY;rw[Ak,Aj];simp only[IC]
   have ib:∀ {v:aj},isBool v=true→∃x,v=.bool x:=fun {v} h=>by cases v<;>first|exact⟨_,rfl⟩|cases h
   obtain⟨t,ht⟩:=ib h1;obtain⟨x,hx⟩:=ib h2;obtain⟨y,hy⟩:=ib h3
   have hw:∀q,t=q→lJ st (NU ops o.after.toList c q ch)=true:=fun q hq=>by
    unfold NU;cases c<;>simp only[]<;>try exact lI
    rename_i tc;cases hs:wD ops o.after.toList tc with
    |none=>exact lI
    |some j=>
     have:(st j).2.1=.bool t:=by
      have:=ht;unfold BN at this;simp only[hs] at this;exact this
     unfold lJ at lI ⊢;rw[List.all_cons,lI,this,hq];cases q<;>rfl
   have hrun:=qK (P:=P) (w:=w) Aj (MR.trans ht);refine hp Ak ev w _ _ hrun (post (fun d hd=>?_) (Qr w));rw[←hval d hd,hv,ht,hx,hy];cases t with
   |true=>exact(hop (hw true rfl) h4).trans hx
   |false=>exact(hop (hw false rfl) h5).trans hy
 cases hgd:o.guard with
 |none=>
  exact go [] (by unfold OI;rw[hgd]) rfl
 |some jb=>
  obtain⟨j,b⟩:=jb;simp only[];obtain⟨e,he,heb,rfl⟩:=BJ cS ho hgd;have D5:=hdm e he heb;have hlt:=Gd.pS cS ho he heb;rw[rV (by omega)] at D5;obtain⟨hsome,qg⟩:=qg _ _ hgd;obtain⟨d0,hdd⟩:=Option.isSome_iff_exists.1 hsome;unfold wH at D5;rw[hdd] at D5;simp only[] at D5;generalize hvv:iK (some d0) ev=val at *;rw[hdd,hvv];cases hk:lL C.lits e.on with
  |some b'=>
   have afu:=nV.1 (qg _ hk);rw[afu] at D5
   by_cases zM:b'=b
   ·subst zM;have vV:OI C st o=some (st e.on).1:=by unfold OI;rw[hgd];simp only[hk];simp
    have Uz:(st i).1=(st e.on).1:=by rw[hstep];unfold uE;rw[vV]
    refine⟨fun hv=>go _ vV ?_,fun hv=>post (fun d _=>?_) (Qr w)⟩
    ·rw[hv] at D5;cases hcc:lJ st (st e.on).1 with
     |true=>rfl
     |false=>rw[hcc] at D5;simp[LO,af] at D5
    ·rw[Uz];cases hcc:lJ st (st e.on).1 with
     |false=>rfl
     |true=>rw[hcc] at D5;exact absurd D5 hv
   ·have vV:OI C st o=none:=by
     unfold OI;rw[hgd];simp only[hk];have:(b'==b)=false:=beq_false_of_ne zM;rw[this];rfl
    have Uz:st i=([],af,[]):=by rw[hstep];unfold uE;rw[vV]
    refine⟨fun hv=>?_,fun hv=>post (fun d _=>by rw[Uz];rfl) (Qr w)⟩;exfalso;rw[hv] at D5;cases hcc:lJ st (st e.on).1 with
    |true=>rw[hcc] at D5;simp[LO] at D5;exact zM D5.symm
    |false=>rw[hcc] at D5;simp[LO,af] at D5
  |none=>
   have vV:OI C st o=some ((e.on,b)::(st e.on).1):=by unfold OI;rw[hgd];simp only[hk]
   have Uz:(st i).1=(e.on,b)::(st e.on).1:=by rw[hstep];unfold uE;rw[vV]
   have hca:lJ st ((e.on,b)::(st e.on).1)=(MG (st e.on).2.1 b&&lJ st (st e.on).1):=by unfold lJ;rw[List.all_cons]
   refine⟨fun hv=>go _ vV ?_,fun hv=>post (fun d _=>?_) (Qr w)⟩
   ·rw[hca];rw[hv] at D5;cases hcc:lJ st (st e.on).1 with
    |true=>
     rw[hcc] at D5;have h1:(st e.on).2.1=.bool b:=D5.symm;rw[h1];cases b<;>rfl
    |false=>rw[hcc] at D5;simp[LO,af] at D5
   ·rw[Uz,hca];cases hcc:lJ st (st e.on).1 with
    |false=>rw[Bool.and_false];rfl
    |true=>
     cases hib:MG (st e.on).2.1 b with
     |false=>rfl
     |true=>
      rw[hcc,nV.1 hib] at D5;exact absurd D5 hv
theorem GF{Y:lK}:∀ {i:Nat} {l:List cz} {Vs:List Pred},(∀j o,l[j]?=some o→Gd.LQ Y ops Vs S base (i+j) o)→Gd.Each Y ops Vs S base i l
 |_,[],_,_=>trivial
 |i,o::l,Vs,h=>⟨by have:=h 0 o (by simp);rwa [Nat.add_zero] at this,GF fun j o' hj=>by have:=h (j+1) o' (by simpa using hj);rwa [show i+(j+1)=i+1+j by omega] at this⟩
def JW(P:aI)(ops:Array cz)(n:Nat)(base:List (kz × aj))(C:Cf)(outs:List (kz × aj)):Bool × List (List Nat) × List (Option aj):=
 (iZ ops n base&&TU P ops base C (nw P ops base C) 0 ops.toList,ldL (nw P ops base C) 0 ops.toList,outs.map fun p=>Vc (nw P ops base C) p.1 ops.toList 0)
def Bq(P:aI)(ops:Array cz)(base:List (kz × aj))(C:Cf)(outs:List (kz × aj)):Bool × List (List Nat) × List (Option aj):=(true,ldR C (nw P ops base C) 0 ops.toList,outs.map fun p=>some p.2)
theorem GM(UG:∀w w',S w→az w.heap.size w w'→S w')(hr:JW P ops n base C outs=Bq P ops base C outs)(hm:nA S C.mem)(hh:LA ops base (fun _=>lV P) S (nw P ops base C) C.hs) :
  Gd.Each (Yields P) ops (oT ops (nw P ops base C)) S base 0 ops.toList:=by
 unfold JW Bq at hr;rw[iq,iq,aC] at hr;obtain⟨⟨cS,hck⟩,Qj,-⟩:=hr;refine GF fun j o hj=>?_;rw[cZ];exact T1 (T:=fun w w'=>az w.heap.size w w') UG (fun w=>aw _ _) (by simpa using hj) (fun _ ev w R v hrun hR=>.value hrun hR) (fun ev w v R _ hg hR=>hg.yields hR) cS hck Qj hm hh
theorem wG{st:Nat→En}:jd S (oT ops st):=by
 unfold oT
 have:∀l:List Nat,jd S (l.map (wH ops st)):=fun l=>by
  induction l with
  |nil=>trivial
  |cons i l ih=>
   exact⟨fun u ds w w' _ h _=>Dt h,ih⟩
 exact this _
theorem Oa{st:Nat→En}{t:kz}{v:aj}:∀ {l:List cz} {i:Nat},Vc st t l i=some v→∃j o,l[j]?=some o∧o.dst=some t∧(st (i+j)).1=[]∧(st (i+j)).2.1=v
 |o::l,i,h=>by
  unfold Vc at h;cases hb:eqT o.dst t with
  |true=>
   rw[hb] at h;simp only[cond_true] at h;cases hs:(st i).1 with
   |nil=>
    rw[hs] at h;refine⟨0,o,rfl,?_,hs,by simpa using h⟩;cases hd:o.dst with
    |none=>rw[hd] at hb;cases hb
    |some d=>rw[hd] at hb;rw[gS hb]
   |cons _ _=>rw[hs] at h;cases h
  |false=>
   rw[hb] at h;obtain⟨j,o',h1,h2,h3,h4⟩:=Oa h;exact⟨j+1,o',by simpa using h1,h2,by rwa [show i+(j+1)=i+1+j by omega],by rwa [show i+(j+1)=i+1+j by omega]⟩
theorem EK{a0 a:iR}{w:ar}(hF:iV n a0 base)(hr:JW P ops n base C outs=Bq P ops base C outs)(h:iX ops (oT ops (nw P ops base C)) S a0 (aT ops.size true) a w):iV n a (outs++base):=by
 unfold JW Bq at hr;rw[iq,iq,aC] at hr;obtain⟨⟨cS,-⟩,-,hout⟩:=hr
 have S8:iV n a base:=⟨h.size.trans hF.size,h.defers.trans hF.defers,hF.base.congr fun p hp=>h.keep _ fun o' YP hd=>by
  obtain⟨k,hk,rfl⟩:=ji YP;have qy:k<ops.size:=by simpa using hk
  unfold iZ at cS;rw[aC,aW] at cS;have h3:=cS.1 k (bB.2 qy);rw[aM qy] at h3;simp only[qE] at hd;simp only[aC,hd] at h3;have:=aW.1 h3.1.2.1.2 p hp
  simp at this⟩
 refine⟨S8.size,S8.defers,?_⟩
 induction outs with
 |nil=>exact S8.base
 |cons p l ih=>
  rw[List.map_cons,List.map_cons,zP] at hout;refine⟨?_,ih hout.2⟩;obtain⟨j,o,h1,h2,h3,h4⟩:=Oa hout.1;rw[cZ] at h3 h4
  have hj:j<ops.size:=by
   have:=(oM.1 h1).1;simpa using this
  have hv:=h.vals j (by simp[eb,hj]);have LK:dT ops j=some p.1:=by unfold dT;rw[show ops[j]?=some o by simpa using h1];exact h2
  rw[rV hj] at hv;unfold wH at hv;rw[LK] at hv;simp only[iK] at hv;rw[hv,h3,h4];rfl
theorem N8(hr:JW P ops n base C outs=Bq P ops base C outs):iZ ops n base=true:=by
 unfold JW Bq at hr;rw[iq,aC] at hr;exact hr.1.1
def uz(K:List (kz × aj)→Prop):List (kz × aj)→List (kz × aj)→Prop
 |[],l=>K l
 |p::r,l=>uz K r (p::l)
theorem uz.get{K:List (kz × aj)→Prop}:∀ {r l:List (kz × aj)},uz K r l→K (r.reverse++l)
 |[],l,h=>h
 |p::r,l,h=>by have:=uz.get (r:=r) h;simpa using this
theorem iV.rev{n:Nat}{a:iR}{r l:List (kz × aj)}(h:iV n a (r++l)):iV n a (r.reverse++l):=by
 refine⟨h.size,h.defers,?_⟩;have h1:=h.base;clear h
 have iff:∀(ev:bE→aj) (l:List (kz × aj)),gF ev l↔∀p∈l,ev (.tmp p.1)=p.2:=fun ev l=>by
  induction l with
  |nil=>simp[gF]
  |cons p l ih=>simp[gF,ih]
 rw[iff] at *;intro p hp;refine h1 p ?_;simp at hp ⊢;exact hp
variable{Q:Exit→iR→ar→Prop}
theorem GN(hmx:P.follows .mixedOrders=true)(C:Cf)(outs:List (kz × aj)){id:Nat}{y:Code}{a0:iR}{W:ar}(hF:iV n a0 base)(hm:nA (fun w=>az W.heap.size W w) C.mem)(hh:LA ops base (fun _=>lV P) (fun w=>az W.heap.size W w) (nw P ops base C) C.hs)(hy:uz (fun l=>∀a w,az W.heap.size W w→iV n a l→y.wp P Q a w) outs base)(hr:JW P ops n base C outs=Bq P ops base C outs:=by kernel_rfl):(Code.seq (.region id ops true) y).wp P Q a0 W:=
 OS hmx _ base (N8 hr) hF.size hF.base wG (GM (fun _ _ h hb=>h.trans (hb.mono h.size)) hr hm hh) fun a w h=>hy.get a w h.s (EK hF hr h).rev
theorem ZW(hmx:P.follows .mixedOrders=true)(C:Cf)(outs:List (kz × aj)){id:Nat}{a0:iR}{W:ar}(hF:iV n a0 base)(hm:nA (fun w=>az W.heap.size W w) C.mem)(hh:LA ops base (fun _=>lV P) (fun w=>az W.heap.size W w) (nw P ops base C) C.hs)(hy:uz (fun l=>∀a w,az W.heap.size W w→iV n a l→Q .normal a w) outs base)(hr:JW P ops n base C outs=Bq P ops base C outs:=by kernel_rfl):(Code.region id ops true).wp P Q a0 W:=
 ac5 hmx _ base (N8 hr) hF.size hF.base wG (GM (fun _ _ h hb=>h.trans (hb.mono h.size)) hr hm hh) fun a w h=>hy.get a w h.s (EK hF hr h).rev
variable{s:Sem Next}{w:ar}{v:aj}
theorem gc{f:FuncId}{args:Array aj}(h:bm P f args w fun e w'=>e=.returned v∧az w.heap.size w w')(he:look P #[] s=some (.enter f args,[]):=by kernel_rfl):lV P s w v:=by
 unfold lV;rw[mY he (by simp)];exact⟨rfl,h⟩
theorem ge{u:aj}(h:u=v)(he:look P #[] s=some (.value u,[]):=by kernel_rfl):lV P s w v:=by
 unfold lV;rw[mY he (by simp)];exact⟨h,aw _ _⟩
theorem gs(s':Sem aj)(h:s'.run P w=.ok v w)(he:s=(do pure (.value (←s'))):=by kernel_rfl):lV P s w v:=by
 unfold lV;rw[he,Sem.run_bind,h];exact⟨rfl,aw _ _⟩
theorem gr(h:s.run P w=.ok (.value v) w):lV P s w v:=by
 unfold lV;rw[h];exact⟨rfl,aw _ _⟩
def SA(P:aI)(v:aj):Sem Next→Option (Addr × Option (Next × List Nat))
 |.load _ a k=>some (a,look P #[] (k v))
 |.program k=>SA P v (k P)
 |_=>none
theorem gl{a:Addr}(h:w.cell? a=some v)(he:SA P v s=some (a,some (.value v,[])):=by kernel_rfl):lV P s w v:=by
 refine gr ?_
 induction s with
 |load m b k _=>
  unfold SA at he;simp only[Option.some.injEq,iq] at he;obtain⟨rfl,he⟩:=he
  conv=>lhs;unfold Sem.run
  rw[h];exact mY he (by simp)
 |program k ih=>exact ih P he
 |_=>cases he
end
end Go.Lag
namespace Go.Proofs.YtffladgmkiimjaaGreatDoor
open Go Go.RowKit Go.Lag Go.ChangeShapes Go.WideShapes
theorem agB:Tryz.prog.cellTypes Tryz.prog.depth 28=some [3,3,3,3,3,3,3,3,3,3,3,3,24,25,26]:=by kernel_rfl
theorem agF:Tryz.prog.cellsOf 28=15:=by kernel_rfl
theorem agD:Tryz.prog.cellsOf 79=3:=by kernel_rfl
def SliceAt(W:ar)(v:aj):Prop:=v=.slice none 0 0∨∃g off n c,v=.slice (some ⟨g,off,none⟩) n c∧n≤c∧g<W.heap.size
theorem RA{W:ar}{base:Nat}{t e:aX}{v:aj}(ht:Tryz.prog.underlying t=some (.slice e))(h:Cell.okWide aq W .any base t v):SliceAt W v:=by
 unfold Cell.okWide Cell.ok at h;rw[ht] at h;cases v<;>simp only at h<;>try exact h.elim
 rename_i p n c;cases p with
 |none=>
  cases n<;>cases c<;>simp only at h<;>first|exact h.elim|exact .inl rfl
 |some a=>
  obtain⟨h1,h2,-,h3,row,cells,h4,-⟩:=h;obtain⟨b,o,s⟩:=a;cases h3;refine .inr ⟨b,o,n,c,rfl,h1,?_⟩;unfold World.shape? at h4
  by_cases hb:b<W.heap.size
  ·exact hb
  ·rw[fg (show W.heap.size≤b from Nat.le_of_not_lt hb)] at h4;simp at h4
theorem SJ{W:ar}{base:Nat}{t:aX}{k:IntKind}{v:aj}(ht:Tryz.prog.underlying t=some (.int k))(h:Cell.okWide aq W .any base t v):∃x,v=.int k x∧k.has x:=by
 unfold Cell.okWide Cell.ok at h;rw[ht] at h;cases v<;>simp only at h<;>try exact h.elim
 obtain⟨rfl,h⟩:=h;exact⟨_,rfl,h⟩
theorem Wo{W:ar}{base:Nat}{v:aj}(h:Value.okWide aq W .any base 28 v):∃(b:BB) (m s k:aj),v=.agg (b.cells m s k)∧SliceAt W m∧SliceAt W s∧SliceAt W k:=by
 unfold Value.okWide at h;rw[cB] at h;obtain⟨cs,rfl,hc,ts,hts,-,hall⟩:=h;rw[agB] at hts;cases hts;rw[agF] at hc
 have hi:∀i (h:i<12),∃x,cs[i]?=some (.int .i64 x):=by
  intro i h;have hl:i<cs.size:=by omega
  obtain⟨u,hu,cS⟩:=hall i _ (aM hl)
  have h3:u=3:=by
   rw[Nat.mod_eq_of_lt (by simp;omega)] at hu
   match i,h,hu with
   |0,_,hu|1,_,hu|2,_,hu|3,_,hu|4,_,hu|5,_,hu|6,_,hu|7,_,hu|8,_,hu|9,_,hu|10,_,hu|11,_,hu=>simpa using hu.symm
  subst h3;obtain⟨x,hx,-⟩:=SJ eo cS;exact⟨x,(aM hl).trans (congrArg some hx)⟩
 have hs:∀i t (h:i<15),[3,3,3,3,3,3,3,3,3,3,3,3,24,25,26][i]?=some t→∀e,Tryz.prog.underlying t=some (.slice e)→∃x,cs[i]?=some x∧SliceAt W x:=by
  intro i t h ht e he;have hl:i<cs.size:=by omega
  obtain⟨u,hu,cS⟩:=hall i _ (aM hl);rw[Nat.mod_eq_of_lt (by simpa using h),ht] at hu;cases hu;exact⟨_,aM hl,RA he cS⟩
 obtain⟨x0,e0⟩:=hi 0 (by omega);obtain⟨x1,e1⟩:=hi 1 (by omega);obtain⟨x2,e2⟩:=hi 2 (by omega);obtain⟨x3,e3⟩:=hi 3 (by omega);obtain⟨x4,e4⟩:=hi 4 (by omega);obtain⟨x5,e5⟩:=hi 5 (by omega);obtain⟨x6,e6⟩:=hi 6 (by omega);obtain⟨x7,e7⟩:=hi 7 (by omega);obtain⟨x8,e8⟩:=hi 8 (by omega);obtain⟨x9,e9⟩:=hi 9 (by omega);obtain⟨nS,M9⟩:=hi 10 (by omega);obtain⟨nR,e11⟩:=hi 11 (by omega);obtain⟨m,XJ,hm⟩:=hs 12 24 (by omega) rfl _ Tryz.underlying24;obtain⟨s,XI,hs'⟩:=hs 13 25 (by omega) rfl _ Tryz.underlying25;obtain⟨k,Fb,hk⟩:=hs 14 26 (by omega) rfl _ Tryz.underlying26;refine⟨⟨x0,x1,x2,x3,x4,x5,x6,x7,x8,x9,nS,nR⟩,m,s,k,?_,hm,hs',hk⟩
 congr 1
 apply Array.ext';apply List.ext_getElem?;intro i
 by_cases h:i<15
 ·rw[Array.getElem?_toList,Array.getElem?_toList]
  match i,h with
  |0,_=>exact e0
  |1,_=>exact e1
  |2,_=>exact e2
  |3,_=>exact e3
  |4,_=>exact e4
  |5,_=>exact e5
  |6,_=>exact e6
  |7,_=>exact e7
  |8,_=>exact e8
  |9,_=>exact e9
  |10,_=>exact M9
  |11,_=>exact e11
  |12,_=>exact XJ
  |13,_=>exact XI
  |14,_=>exact Fb
 ·rw[Array.getElem?_toList,Array.getElem?_toList,fg (by omega),fg (by simp;omega)]
theorem TV{W:ar}{base:Nat}{a:Addr}{cs:List aj}(h:W.cells? base a 3=some cs):∃x y z,cs=[x,y,z]∧W.cell? (a.add 0)=some x∧W.cell? (a.add 1)=some y∧W.cell? (a.add 2)=some z:=by
 unfold World.cells? at h;split at h
 ·simp only[show aU 3=[0,1,2] from rfl,List.mapM_cons,List.mapM_nil] at h;cases h0:W.cell? (a.add 0)<;>rw[h0] at h<;>simp at h;cases h1:W.cell? (a.add 1)<;>rw[h1] at h<;>simp at h;cases h2:W.cell? (a.add 2)<;>rw[h2] at h<;>simp at h;exact⟨_,_,_,h.symm,rfl,rfl,rfl⟩
 ·cases h
theorem sG(g off k:Nat):(⟨g,off,none⟩:Addr).add k=⟨g,off+k,none⟩:=by
 unfold Addr.add;split
 ·rename_i h;rw[h];rfl
 ·rfl
section
variable{H:Type}{enc:aX × aj→H}{W:ar}{sp:Nat→Bool}{hd:Bool}
theorem Nr{fuel:Nat}{b:BB}{m s k:aj}{x:DataW H × List MemPlace}(h:DataW.trod enc aq W 0 sp hd fuel 28 (b.cells m s k).toList=some x) :
  (∃n y,DataW.trod enc aq W 0 sp hd n 24 [m]=some y)∧(∃n y,DataW.trod enc aq W 0 sp hd n 25 [s]=some y)∧(∃n y,DataW.trod enc aq W 0 sp hd n 26 [k]=some y):=by
 obtain⟨xs,n,-,-,-,hlen,hf⟩:=DataW.trod_struct cB h;have h10:=hf 10 _ rfl;have h11:=hf 11 _ rfl;have V5:=hf 12 _ rfl;have hl:xs.length=13:=hlen;have OV:Tryz.prog.cellsOf 24=1:=by kernel_rfl
 have c25:Tryz.prog.cellsOf 25=1:=by kernel_rfl
 have c26:Tryz.prog.cellsOf 26=1:=by kernel_rfl
 rw[List.getElem?_eq_getElem (by omega)] at h10 h11 V5;simp only[OV,c25,c26] at h10 h11 V5;exact⟨⟨n,_,h10⟩,⟨n,_,h11⟩,⟨n,_,V5⟩⟩
theorem Sw{fuel:Nat}{g off n c:Nat}{x:DataW H × List MemPlace}(vT:n≤c)(h:DataW.trod enc aq W 0 (fun _=>true) hd fuel 24 [.slice (some ⟨g,off,none⟩) n c]=some x) :
  ∀i,i<n→∃mn:Mn,W.cell? ⟨g,off+i*3,none⟩=some (.string mn.name)∧W.cell? ⟨g,off+i*3+1,none⟩=some (.int .i64 mn.lo)∧W.cell? ⟨g,off+i*3+2,none⟩=some (.int .i64 mn.hi):=by
 intro i hi;rcases Go.Deep.open_slice Tryz.underlying24 h with⟨h0,-⟩|⟨a,len,cap,mm,nn,D,Pl,h0,-,-,-,hm,-,hel⟩
 ·cases h0
 ·cases h0;obtain⟨cs',hc,ht⟩:=hel i (by rw[hm];simp;omega);rw[agD] at hc;obtain⟨x,y,z,rfl,e0,e1,e2⟩:=TV hc;rw[sG,sG] at e0 e1 e2;obtain⟨y0,y1,n1,-,-,t0,t1⟩:=trod_struct2 Tryz.underlying79 ht;have c9:Tryz.prog.cellsOf 9=1:=by kernel_rfl
  have c23:Tryz.prog.cellsOf 23=2:=by kernel_rfl
  have c3:Tryz.prog.cellsOf 3=1:=by kernel_rfl
  simp only[c9,c23] at t0 t1;obtain⟨z0,z1,n2,-,-,u0,u1⟩:=trod_struct2 Tryz.underlying23 t1;simp only[c3] at u0 u1;obtain⟨s,hs,-⟩:=DataW.trod_string Tryz.underlying9 t0;obtain⟨lo,hlo,-⟩:=DataW.trod_int eo u0;obtain⟨hi',hhi,-⟩:=DataW.trod_int eo u1;simp at hs hlo hhi;subst hs;subst hlo;subst hhi;exact⟨⟨s,lo,hi'⟩,e0,e1,e2⟩
end
theorem PH{W:ar}{g off n c:Nat}(vT:n≤c)(hg:g<W.heap.size)(hn:n≤20)(h:∀i,i<n→∃mn:Mn,W.cell? ⟨g,off+i*3,none⟩=some (.string mn.name)∧W.cell? ⟨g,off+i*3+1,none⟩=some (.int .i64 mn.lo)∧W.cell? ⟨g,off+i*3+2,none⟩=some (.int .i64 mn.hi)) :
  ∃ml:List Mn,ml.length=n∧Reads W (.slice (some ⟨g,off,none⟩) n c) n (fF ml):=by
 obtain⟨f,hf⟩:∃f:Nat→Mn,∀i,i<n→W.cell? ⟨g,off+i*3,none⟩=some (.string (f i).name)∧W.cell? ⟨g,off+i*3+1,none⟩=some (.int .i64 (f i).lo)∧W.cell? ⟨g,off+i*3+2,none⟩=some (.int .i64 (f i).hi):=
  ⟨fun i=>if hi:i<n then(h i hi).choose else⟨⟨#[]⟩,0,0⟩,fun i hi=>by simp only[dif_pos hi];exact(h i hi).choose_spec⟩
 refine⟨(aU n).map f,by simp,.inr ⟨g,off,c,rfl,⟨by omega,vT⟩,hg,fun j u hj=>?_⟩⟩;have LI:j<(fF ((aU n).map f)).length:=(oM.1 hj).1;rw[vD] at LI;simp at LI;have hk:j / 3<n:=by omega
 have e:j=3*(j / 3)+j % 3:=by omega
 rw[e,rS _ _ _ (by simpa using hk) (by omega)] at hj;obtain⟨h0,h1,h2⟩:=hf (j / 3) hk;simp only[List.getElem_map,List.getElem_range] at hj;have h3:j % 3<3:=Nat.mod_lt _ (by decide);rw[show off+j=off+(j / 3)*3+j % 3 by omega]
 match j % 3,h3,hj with
 |0,_,hj=>simp at hj;subst hj;exact h0
 |1,_,hj=>simp at hj;subst hj;exact h1
 |2,_,hj=>simp at hj;subst hj;exact h2
end Go.Proofs.YtffladgmkiimjaaGreatDoor
namespace Go.Proofs.YtffladgmkiimjaaGreatDoor
open Go.RowKit Go.Lag
def ve(x y:Int):Int:=if x<y then -1 else if y<x then 1 else 0
theorem Ia(x:Int)(w:ar):bm aq 179 #[ah ag x] w fun e w'=>e=aF (.bool false)∧w=w':=by
 go_enter Tryz.func179,Tryz.ntmps179
 go_wp2
 go_ret
 exact⟨rfl,rfl⟩
theorem vJ(x y:Int)(w:ar):bm aq 161 #[ah ag x,ah ag y] w fun e w'=>e=aF (ah ag (ve x y))∧w=w':=by
 rcases Int.lt_trichotomy x y with h|h|h
 ·have e:ve x y = -1:=by unfold ve;rw[if_pos h]
  rw[e];clear e
  go_enter Tryz.func161,Tryz.ntmps161
  go_wp2_with (go_at_call 179;refine(Ia _ _).mono ?_;rintro e w' ⟨rfl,rfl⟩)
  go_ret
  exact⟨rfl,rfl⟩
 ·subst h;have e:ve x x=0:=by unfold ve;simp
  rw[e];clear e
  go_enter Tryz.func161,Tryz.ntmps161
  go_wp2_with (go_at_call 179;refine(Ia _ _).mono ?_;rintro e w' ⟨rfl,rfl⟩)
  go_ret
  exact⟨rfl,rfl⟩
 ·have e:ve x y=1:=by unfold ve;rw[if_neg (by omega),if_pos h]
  have h2:¬x<y:=by omega
  rw[e];clear e
  go_enter Tryz.func161,Tryz.ntmps161
  go_wp2_with (go_at_call 179;refine(Ia _ _).mono ?_;rintro e w' ⟨rfl,rfl⟩)
  go_ret
  exact⟨rfl,rfl⟩
def gp:List Int→List Int→Int
 |[],[]=>0
 |[],_::_=>-1
 |_::_,[]=>1
 |x::xs,y::ys=>if ve x y≠0 then ve x y else gp xs ys
theorem CR:∀(xs ys:List Int),-1≤gp xs ys∧gp xs ys≤1
 |[],[]=>by simp[gp]
 |[],_::_=>by simp[gp]
 |_::_,[]=>by simp[gp]
 |x::xs,y::ys=>by
  have:=CR xs ys;unfold gp
  by_cases h:ve x y≠0
  ·rw[if_pos h];unfold ve
   by_cases h1:x<y
   ·rw[if_pos h1];omega
   ·rw[if_neg h1]
    by_cases h2:y<x
    ·rw[if_pos h2];omega
    ·rw[if_neg h2];omega
  ·rw[if_neg h];exact this
theorem QK(xs ys:List Int)(k:Nat)(hx:k<xs.length)(hy:k<ys.length):gp (xs.drop k) (ys.drop k)=if ve xs[k] ys[k]≠0 then ve xs[k] ys[k] else gp (xs.drop (k+1)) (ys.drop (k+1)):=by
 rw[dN hx,dN hy];rfl
theorem QJ(xs ys:List Int)(k:Nat)(hx:k<xs.length)(hy:ys.length≤k):gp (xs.drop k) (ys.drop k)=1:=by
 rw[dN hx,List.drop_eq_nil_of_le hy];rfl
theorem Ey(xs ys:List Int)(k:Nat)(hx:xs.length≤k)(hk:k≤ys.length):gp (xs.drop k) (ys.drop k)=if k<ys.length then -1 else 0:=by
 rw[List.drop_eq_nil_of_le hx]
 by_cases h:k<ys.length
 ·rw[dN h,if_pos h];rfl
 ·rw[List.drop_eq_nil_of_le (by omega),if_neg h];rfl
theorem Ng(w:ar):bm aq 98 #[(ae none 0 0),(ae none 0 0)] w fun e w'=>e=aF (ah ag (gp [] []))∧w=w':=by
 go_enter Tryz.func98,Tryz.ntmps98
 go_wp2
 go_loop [11] (fun i=>i=ah ag 0) (fun _=>0)
 case atStart=>exact rfl
 case round=>
  obtain rfl:=hrel;go_wp2
  go_ret
  exact⟨rfl,rfl⟩
theorem Nf(w:ar)(ys:List Int)(g2 o2 L2 c2:Nat)(hL2:ys.length=L2)(ye:L2≤4294967296)(hc2:∀j u,(ys.map (aD ag))[j]?=some u→w.cell? ⟨g2,o2+j,none⟩=some u):bm aq 98 #[(ae none 0 0),(ae (some ⟨g2,o2,none⟩) L2 c2)] w fun e w'=>e=aF (ah ag (gp [] ys))∧w=w':=by
 have Jp:=ai hL2;have HC2:=ai hc2;clear hL2 hc2
 go_enter Tryz.func98,Tryz.ntmps98
 go_wp2
 go_loop [11] (fun i=>i=ah ag 0) (fun _=>0)
 case atStart=>exact rfl
 case round=>
  obtain rfl:=hrel
  by_cases h0:0<L2
  ·have HE:Hid (gp [] ys = -1):=by have:=Ey [] ys 0 (by simp) (by omega);rw[Jp.out,if_pos h0] at this;exact ai (by simpa using this)
   go_wp2
   go_ret
   exact⟨gP HE.out.symm,rfl⟩
  ·have HE:Hid (gp [] ys=0):=by have:=Ey [] ys 0 (by simp) (by omega);rw[Jp.out,if_neg h0] at this;exact ai (by simpa using this)
   go_wp2
   go_ret
   exact⟨gP HE.out.symm,rfl⟩
theorem Nd(w:ar)(xs:List Int)(g1 o1 L1 c1:Nat)(Zq:xs.length=L1)(tW:L1≤4294967296)(hc1:∀j u,(xs.map (aD ag))[j]?=some u→w.cell? ⟨g1,o1+j,none⟩=some u):bm aq 98 #[(ae (some ⟨g1,o1,none⟩) L1 c1),(ae none 0 0)] w fun e w'=>e=aF (ah ag (gp xs []))∧w=w':=by
 have HL1:=ai Zq;have O8:=ai hc1;clear Zq hc1
 go_enter Tryz.func98,Tryz.ntmps98
 go_wp2
 go_loop [5,6,7,8,11] (fun _ _ _ _ i=>∃k:Nat,k≤L1∧i=ah ag k∧gp xs []=gp (xs.drop k) []) (fun _ _ _ _ i=>L1-(intOf i).toNat)
 case atStart=>exact⟨0,by omega,rfl,by simp⟩
 case round=>
  obtain⟨k,qg,rfl,MV⟩:=hrel;have O7:=ai MV;clear MV
  by_cases hlt:k<L1
  ·have kh:k<xs.length:=by rw[HL1.out];exact hlt
   have Y8:w.cell? ⟨g1,o1+k,none⟩=some (ah ag xs[k]):=O8.out k _ (by simp[kh]);have HE:Hid (gp xs []=1):=by have h1:=O7.out;rw[dN kh] at h1;rw[h1];rfl
   generalize xs[k]=x at *
   go_wp2_with (go_at_call 161;refine(vJ _ _ _).mono ?_;rintro e w' ⟨rfl,rfl⟩)
   go_ret
   exact⟨gP HE.out.symm,rfl⟩
  ·obtain rfl:k=L1:=by omega
   have HE:Hid (gp xs []=0):=by rw[O7.out,List.drop_eq_nil_of_le (by rw[HL1.out];exact ax _)];rfl
   go_wp2_with (go_at_call 161;refine(vJ _ _ _).mono ?_;rintro e w' ⟨rfl,rfl⟩)
   go_ret
   exact⟨gP HE.out.symm,rfl⟩
theorem Nc(w:ar)(xs:List Int)(g1 o1 L1 c1:Nat)(Zq:xs.length=L1)(tW:L1≤4294967296)(hc1:∀j u,(xs.map (aD ag))[j]?=some u→w.cell? ⟨g1,o1+j,none⟩=some u)(ys:List Int)(g2 o2 L2 c2:Nat)(hL2:ys.length=L2)(ye:L2≤4294967296)(hc2:∀j u,(ys.map (aD ag))[j]?=some u→w.cell? ⟨g2,o2+j,none⟩=some u):bm aq 98 #[(ae (some ⟨g1,o1,none⟩) L1 c1),(ae (some ⟨g2,o2,none⟩) L2 c2)] w fun e w'=>e=aF (ah ag (gp xs ys))∧w=w':=by
 have HL1:=ai Zq;have O8:=ai hc1;clear Zq hc1;have Jp:=ai hL2;have HC2:=ai hc2;clear hL2 hc2
 go_enter Tryz.func98,Tryz.ntmps98
 go_wp2
 go_loop [5,6,7,8,11] (fun _ _ _ _ i=>∃k:Nat,k≤L1∧k≤L2∧i=ah ag k∧gp xs ys=gp (xs.drop k) (ys.drop k)) (fun _ _ _ _ i=>L1-(intOf i).toNat)
 case atStart=>exact⟨0,by omega,by omega,rfl,by simp⟩
 case round=>
  obtain⟨k,qg,hk2,rfl,MV⟩:=hrel;have O7:=ai MV;clear MV
  by_cases hlt:k<L1
  ·have kh:k<xs.length:=by rw[HL1.out];exact hlt
   have Y8:w.cell? ⟨g1,o1+k,none⟩=some (ah ag xs[k]):=O8.out k _ (by simp[kh])
   by_cases hlt2:k<L2
   ·have hky:k<ys.length:=by rw[Jp.out];exact hlt2
    have afP:w.cell? ⟨g2,o2+k,none⟩=some (ah ag ys[k]):=HC2.out k _ (by simp[hky]);have hst:=QK xs ys k kh hky;generalize xs[k]=x at *;generalize ys[k]=y at *;have hC:=vJ x y;obtain⟨c,hc⟩:∃c,ve x y=c:=⟨_,rfl⟩
    rw[hc] at hst hC;have HCC:=ai hc;clear hc
    by_cases hz:c=0
    ·subst hz;rw[if_neg (by simp)] at hst;have HST:=ai hst;clear hst
     go_wp2_with (go_at_call 161;refine(hC _).mono ?_;rintro e w' ⟨rfl,rfl⟩)
     go_round
     case rel=>exact⟨k+1,by omega,by omega,by go_num,O7.out.trans HST.out⟩
     case measure=>simp[intOf];omega
    ·have hb:(c==0)=false:=by simpa using hz
     have hb2:(c !=0)=true:=by simpa using hz
     rw[if_pos hz] at hst;have HST:=ai hst;have HZ:=ai hz;clear hst hz
     go_wp2_with (go_at_call 161;refine(hC _).mono ?_;rintro e w' ⟨rfl,rfl⟩)
     go_ret
     exact⟨gP (O7.out.trans HST.out).symm,rfl⟩
   ·have HE:Hid (gp xs ys=1):=O7.out.trans (QJ xs ys k kh (by rw[Jp.out];omega));generalize xs[k]=x at *
    go_wp2_with (go_at_call 161;refine(vJ _ _ _).mono ?_;rintro e w' ⟨rfl,rfl⟩)
    go_ret
    exact⟨gP HE.out.symm,rfl⟩
  ·obtain rfl:k=L1:=by omega
   have hend:=Ey xs ys k (by rw[HL1.out];exact ax _) (by rw[Jp.out];exact hk2);rw[Jp.out] at hend
   by_cases h0:k<L2
   ·rw[if_pos h0] at hend;have HE:Hid (gp xs ys = -1):=O7.out.trans hend;clear hend
    go_wp2_with (go_at_call 161;refine(vJ _ _ _).mono ?_;rintro e w' ⟨rfl,rfl⟩)
    go_ret
    exact⟨gP HE.out.symm,rfl⟩
   ·rw[if_neg h0] at hend;have HE:Hid (gp xs ys=0):=O7.out.trans hend;clear hend
    go_wp2_with (go_at_call 161;refine(vJ _ _ _).mono ?_;rintro e w' ⟨rfl,rfl⟩)
    go_ret
    exact⟨gP HE.out.symm,rfl⟩
theorem qW(xs ys:List Int)(v1 v2:aj)(w:ar)(h1:Reads w v1 xs.length (xs.map (aD ag)))(h2:Reads w v2 ys.length (ys.map (aD ag))) :
  bm aq 98 #[v1,v2] w fun e w'=>e=aF (ah ag (gp xs ys))∧w=w':=by
 rcases h1 with⟨rfl,hn,_⟩|⟨g1,o1,c1,rfl,tW,_,hc1⟩
 ·obtain rfl:=aY hn;rcases h2 with⟨rfl,hn,_⟩|⟨g2,o2,c2,rfl,ye,_,hc2⟩
  ·obtain rfl:=aY hn;exact Ng w
  ·exact Nf w ys g2 o2 _ c2 rfl ye.1 hc2
 ·rcases h2 with⟨rfl,hn,_⟩|⟨g2,o2,c2,rfl,ye,_,hc2⟩
  ·obtain rfl:=aY hn;exact Nd w xs g1 o1 _ c1 rfl tW.1 hc1
  ·exact Nc w xs g1 o1 _ c1 rfl tW.1 hc1 ys g2 o2 _ c2 rfl ye.1 hc2
def gH(p:Nat):List Int:=(upTo p 8).map fun(m:Nat)=>(m:Int)
theorem P5(p:Nat):(gH p).length=(upTo p 8).length:=by simp[gH]
theorem rX(p:Nat)(hp:p<512)(w:ar):bm aq 99 #[ah ag p] w fun e w'=>∃v,e=aF v∧Reads w' v (gH p).length ((gH p).map (aD ag))∧az w.heap.size w w':=by
 refine(Ke p hp w).mono ?_;rintro e w' ⟨v,rfl,hown,hb⟩;have hle:=vy p 8;refine⟨v,rfl,?_,hb⟩;have:=Reads.iT hown (by omega) (by simp);rw[P5];simpa [gH,Function.comp_def] using this
def rZ(a b:Nat):Bool:=decide ((upTo a 8).length<(upTo b 8).length)||(decide ((upTo a 8).length=(upTo b 8).length)&&decide (gp (gH a) (gH b)<0))
def rY(a b:Nat):Bool:=decide ((upTo a 8).length<(upTo b 8).length)||(decide ((upTo a 8).length=(upTo b 8).length)&&decide (0<gp (gH a) (gH b)))
theorem P8(a b:Nat)(ha:a<512)(hb:b<512)(w:ar):bm aq 96 #[ah ag a,ah ag b] w fun e w'=>e=aF (.bool (rZ a b))∧az w.heap.size w w':=by
 have hA:=sk a ha;have hB:=sk b hb;have lA:=rX a ha;have lB:=rX b hb;have afr:=vy a 8;have afq:=vy b 8;have hL:rZ a b=(decide ((upTo a 8).length<(upTo b 8).length)||(decide ((upTo a 8).length=(upTo b 8).length)&&decide (gp (gH a) (gH b)<0))):=rfl;have yZ:=CR (gH a) (gH b);generalize (upTo a 8).length=na at *;generalize (upTo b 8).length=nb at *;obtain⟨c,hc⟩:∃c,gp (gH a) (gH b)=c:=⟨_,rfl⟩
 rw[hc] at hL yZ;have hC:=qW (gH a) (gH b);rw[hc] at hC;generalize rZ a b=r at *;have HL:=ai hL;clear hL hc
 have K:∀w,bm aq 96 #[ah ag a,ah ag b] w fun e w'=>e=aF (.bool (decide (na<nb)||(decide (na=nb)&&decide (c<0))))∧az w.heap.size w w':=by
  clear HL;intro w
  by_cases h1:na<nb
  ·have e1:decide (na<nb)=true:=by simp;omega
   have er:(decide (na<nb)||(decide (na=nb)&&decide (c<0)))=true:=by rw[decide_eq_true h1];rfl
   rw[er];have H1:=ai h1;clear h1 er
   go_enter Tryz.func96,Tryz.ntmps96
   go_wp2_with fail
   refine(hA _).mono ?_;rintro e w1 ⟨rfl,hb1⟩
   go_wp2_with fail
   refine(hB _).mono ?_;rintro e w2 ⟨rfl,hb2⟩;go_wp2
   go_ret
   exact⟨rfl,hb1.trans (hb2.mono hb1.size)⟩
  ·have e1:decide (na<nb)=false:=by simp;omega
   by_cases h2:na=nb
   ·subst h2;have er:(decide (na<na)||(decide (na=na)&&decide (c<0)))=decide (c<0):=by simp
    rw[er];clear h1 er e1;have e1:decide (na<na)=false:=by simp
    have e9:(na==na)=true:=by simp
    go_enter Tryz.func96,Tryz.ntmps96
    go_wp2_with fail
    refine(hA _).mono ?_;rintro e w1 ⟨rfl,hb1⟩
    go_wp2_with fail
    refine(hB _).mono ?_;rintro e w2 ⟨rfl,hb2⟩
    go_wp2_with fail
    refine(hA _).mono ?_;rintro e w3 ⟨rfl,hb3⟩
    go_wp2_with fail
    refine(hB _).mono ?_;rintro e w4 ⟨rfl,hb4⟩
    go_wp2_with fail
    refine(lA _).mono ?_;rintro e w5 ⟨v5,rfl,hr5,hb5⟩
    go_wp2_with fail
    refine(lB _).mono ?_;rintro e w6 ⟨v6,rfl,hr6,hb6⟩;have SY:=hr5.below hb6
    go_wp2_with fail
    refine(hC v5 v6 _ SY hr6).mono ?_;rintro e w7 ⟨rfl,rfl⟩;clear hr5 SY hr6;go_wp2
    go_ret
    exact⟨rfl,hb1.trans ((hb2.trans ((hb3.trans ((hb4.trans ((hb5.trans (hb6.mono hb5.size)).mono hb4.size)).mono hb3.size)).mono hb2.size)).mono hb1.size)⟩
   ·have e2:decide ((na:Int)=(nb:Int))=false:=by simp;omega
    have e3:((na:Int)==(nb:Int))=false:=by simp;omega
    have e4:(na==nb)=false:=by simp;omega
    have er:(decide (na<nb)||(decide (na=nb)&&decide (c<0)))=false:=by rw[decide_eq_false h1,decide_eq_false h2];rfl
    rw[er];have H1:=ai h1;have H2:=ai h2;clear h1 h2 er
    go_enter Tryz.func96,Tryz.ntmps96
    go_wp2_with fail
    refine(hA _).mono ?_;rintro e w1 ⟨rfl,hb1⟩
    go_wp2_with fail
    refine(hB _).mono ?_;rintro e w2 ⟨rfl,hb2⟩
    go_wp2_with fail
    refine(hA _).mono ?_;rintro e w3 ⟨rfl,hb3⟩
    go_wp2_with fail
    refine(hB _).mono ?_;rintro e w4 ⟨rfl,hb4⟩;go_wp2
    go_ret
    exact⟨rfl,hb1.trans ((hb2.trans ((hb3.trans (hb4.mono hb3.size)).mono hb2.size)).mono hb1.size)⟩
 rw[HL.out];exact K w
theorem P7(a b:Nat)(ha:a<512)(hb:b<512)(w:ar):bm aq 102 #[ah ag a,ah ag b] w fun e w'=>e=aF (.bool (rY a b))∧az w.heap.size w w':=by
 have hA:=sk a ha;have hB:=sk b hb;have lA:=rX a ha;have lB:=rX b hb;have afr:=vy a 8;have afq:=vy b 8;have hL:rY a b=(decide ((upTo a 8).length<(upTo b 8).length)||(decide ((upTo a 8).length=(upTo b 8).length)&&decide (0<gp (gH a) (gH b)))):=rfl;have yZ:=CR (gH a) (gH b);generalize (upTo a 8).length=na at *;generalize (upTo b 8).length=nb at *;obtain⟨c,hc⟩:∃c,gp (gH a) (gH b)=c:=⟨_,rfl⟩
 rw[hc] at hL yZ;have hC:=qW (gH a) (gH b);rw[hc] at hC;generalize rY a b=r at *;have HL:=ai hL;clear hL hc
 have K:∀w,bm aq 102 #[ah ag a,ah ag b] w fun e w'=>e=aF (.bool (decide (na<nb)||(decide (na=nb)&&decide (0<c))))∧az w.heap.size w w':=by
  clear HL;intro w
  by_cases h1:na<nb
  ·have e1:decide (na<nb)=true:=by simp;omega
   have er:(decide (na<nb)||(decide (na=nb)&&decide (0<c)))=true:=by rw[decide_eq_true h1];rfl
   rw[er];have H1:=ai h1;clear h1 er
   go_enter Tryz.func102,Tryz.ntmps102
   go_wp2_with fail
   refine(hA _).mono ?_;rintro e w1 ⟨rfl,hb1⟩
   go_wp2_with fail
   refine(hB _).mono ?_;rintro e w2 ⟨rfl,hb2⟩;go_wp2
   go_ret
   exact⟨rfl,hb1.trans (hb2.mono hb1.size)⟩
  ·have e1:decide (na<nb)=false:=by simp;omega
   by_cases h2:na=nb
   ·subst h2;have er:(decide (na<na)||(decide (na=na)&&decide (0<c)))=decide (0<c):=by simp
    rw[er];clear h1 er e1;have e1:decide (na<na)=false:=by simp
    have e9:(na==na)=true:=by simp
    go_enter Tryz.func102,Tryz.ntmps102
    go_wp2_with fail
    refine(hA _).mono ?_;rintro e w1 ⟨rfl,hb1⟩
    go_wp2_with fail
    refine(hB _).mono ?_;rintro e w2 ⟨rfl,hb2⟩
    go_wp2_with fail
    refine(hA _).mono ?_;rintro e w3 ⟨rfl,hb3⟩
    go_wp2_with fail
    refine(hB _).mono ?_;rintro e w4 ⟨rfl,hb4⟩
    go_wp2_with fail
    refine(lA _).mono ?_;rintro e w5 ⟨v5,rfl,hr5,hb5⟩
    go_wp2_with fail
    refine(lB _).mono ?_;rintro e w6 ⟨v6,rfl,hr6,hb6⟩;have SY:=hr5.below hb6
    go_wp2_with fail
    refine(hC v5 v6 _ SY hr6).mono ?_;rintro e w7 ⟨rfl,rfl⟩;clear hr5 SY hr6;go_wp2
    go_ret
    exact⟨rfl,hb1.trans ((hb2.trans ((hb3.trans ((hb4.trans ((hb5.trans (hb6.mono hb5.size)).mono hb4.size)).mono hb3.size)).mono hb2.size)).mono hb1.size)⟩
   ·have e2:decide ((na:Int)=(nb:Int))=false:=by simp;omega
    have e3:((na:Int)==(nb:Int))=false:=by simp;omega
    have e4:(na==nb)=false:=by simp;omega
    have er:(decide (na<nb)||(decide (na=nb)&&decide (0<c)))=false:=by rw[decide_eq_false h1,decide_eq_false h2];rfl
    rw[er];have H1:=ai h1;have H2:=ai h2;clear h1 h2 er
    go_enter Tryz.func102,Tryz.ntmps102
    go_wp2_with fail
    refine(hA _).mono ?_;rintro e w1 ⟨rfl,hb1⟩
    go_wp2_with fail
    refine(hB _).mono ?_;rintro e w2 ⟨rfl,hb2⟩
    go_wp2_with fail
    refine(hA _).mono ?_;rintro e w3 ⟨rfl,hb3⟩
    go_wp2_with fail
    refine(hB _).mono ?_;rintro e w4 ⟨rfl,hb4⟩;go_wp2
    go_ret
    exact⟨rfl,hb1.trans ((hb2.trans ((hb3.trans (hb4.mono hb3.size)).mono hb2.size)).mono hb1.size)⟩
 rw[HL.out];exact K w
def jA(lt:Nat→Nat→Bool)(first:Nat)(more:List Nat):Nat:=more.foldl (fun b x=>if lt x b then x else b) first
theorem EO(lt:Nat→Nat→Bool)(first:Nat)(more:List Nat)(k:Nat)(hk:k<more.length):jA lt first (more.take (k+1))=if lt more[k] (jA lt first (more.take k)) then more[k] else jA lt first (more.take k):=by
 unfold jA;rw[List.take_succ_eq_append_getElem hk,List.foldl_append];rfl
theorem zE(lt:Nat→Nat→Bool):∀(more:List Nat) (first:Nat),first<512→(∀x∈more,x<512)→jA lt first more<512
 |[],first,h,_=>h
 |x::more,first,h,hx=>by
  refine zE lt more _ ?_ (fun y hy=>hx y (by simp[hy]));show(if lt x first=true then x else first)<512
  by_cases hl:lt x first=true
  ·rw[if_pos hl];exact hx x (by simp)
  ·rw[if_neg hl];exact h
theorem QT(first:Nat)(hf:first<512)(more:List Nat)(hm:∀x∈more,x<512)(v:aj)(w:ar)(hv:Reads w v more.length (more.map fun(p:Nat)=>aD ag (p:Int))) :
  bm aq 160 #[.func (.func 96) #[] #[],ah ag first,v] w fun e w'=>e=aF (ah ag (jA rZ first more:Nat))∧az w.heap.size w w':=by
 rcases hv with⟨rfl,hn,_⟩|⟨g,off,cap,rfl,hn,hg,hc⟩
 ·obtain rfl:=aY hn;clear hn
  go_enter Tryz.func160,Tryz.ntmps160
  go_wp2
  go_loopw [1,11] (fun b i wr=>i=ah ag 0∧b=ah ag first∧az w.heap.size w wr) (fun _ _ _=>0)
  case atStart=>exact⟨rfl,rfl,aw _ _⟩
  case round=>
   obtain⟨rfl,rfl,eh⟩:=hrel;go_wp2
   go_ret
   exact⟨rfl,eh⟩
 ·have HC:=ai hc;have HM:=ai hm;clear hc hm;generalize hL:more.length=L at *;have HL:=ai hL;clear hL
  go_enter Tryz.func160,Tryz.ntmps160
  go_wp2
  go_loopw [1,8,11] (fun b _ i wr=>∃k:Nat,k≤L∧i=ah ag k∧b=ah ag (jA rZ first (more.take k):Nat)∧az w.heap.size w wr) (fun _ _ i _=>L-(intOf i).toNat)
  case atStart=>exact⟨0,by omega,rfl,rfl,aw _ _⟩
  case round=>
   obtain⟨k,hk,rfl,rfl,eh⟩:=hrel;have hbl:=zE rZ (more.take k) first hf (fun x hx=>HM.out x (fj hx))
   by_cases hlt:k<L
   ·have kh:k<more.length:=by rw[HL.out];exact hlt
    have hcell:wr.cell? ⟨g,off+k,none⟩=some (ah ag (more[k]:Nat)):=(eh.cell (p:=⟨g,off+k,none⟩) hg).trans (HC.out k _ (by simp[kh]));have hx:=HM.out more[k] (cu kh);have hst:=EO rZ first more k kh
    generalize more[k]=x at *;generalize jA rZ first (more.take k)=bst at *
    have hB:=P8 x bst hx hbl;have hsz:=eh.size;cases hr:rZ x bst
    all_goals
     rw[hr] at hst hB;have HR:=ai hr;have HST:=ai hst;clear hr hst
     go_wp2_with (go_at_call 96;refine(hB _).mono ?_;rintro e w2 ⟨rfl,hb2⟩)
     go_roundw
     case rel=>exact⟨k+1,by omega,by go_num,by rw[HST.out];rfl,eh.trans (hb2.mono hsz)⟩
     case measure=>simp[intOf];omega
   ·obtain rfl:k=L:=by omega
    have sX:more.take k=more:=cQ (by rw[HL.out];exact ax _);rw[sX];clear sX;go_wp2
    go_ret
    exact⟨rfl,eh⟩
theorem QS(first:Nat)(hf:first<512)(more:List Nat)(hm:∀x∈more,x<512)(v:aj)(w:ar)(hv:Reads w v more.length (more.map fun(p:Nat)=>aD ag (p:Int))) :
  bm aq 160 #[.func (.func 102) #[] #[],ah ag first,v] w fun e w'=>e=aF (ah ag (jA rY first more:Nat))∧az w.heap.size w w':=by
 rcases hv with⟨rfl,hn,_⟩|⟨g,off,cap,rfl,hn,hg,hc⟩
 ·obtain rfl:=aY hn;clear hn
  go_enter Tryz.func160,Tryz.ntmps160
  go_wp2
  go_loopw [1,11] (fun b i wr=>i=ah ag 0∧b=ah ag first∧az w.heap.size w wr) (fun _ _ _=>0)
  case atStart=>exact⟨rfl,rfl,aw _ _⟩
  case round=>
   obtain⟨rfl,rfl,eh⟩:=hrel;go_wp2
   go_ret
   exact⟨rfl,eh⟩
 ·have HC:=ai hc;have HM:=ai hm;clear hc hm;generalize hL:more.length=L at *;have HL:=ai hL;clear hL
  go_enter Tryz.func160,Tryz.ntmps160
  go_wp2
  go_loopw [1,8,11] (fun b _ i wr=>∃k:Nat,k≤L∧i=ah ag k∧b=ah ag (jA rY first (more.take k):Nat)∧az w.heap.size w wr) (fun _ _ i _=>L-(intOf i).toNat)
  case atStart=>exact⟨0,by omega,rfl,rfl,aw _ _⟩
  case round=>
   obtain⟨k,hk,rfl,rfl,eh⟩:=hrel;have hbl:=zE rY (more.take k) first hf (fun x hx=>HM.out x (fj hx))
   by_cases hlt:k<L
   ·have kh:k<more.length:=by rw[HL.out];exact hlt
    have hcell:wr.cell? ⟨g,off+k,none⟩=some (ah ag (more[k]:Nat)):=(eh.cell (p:=⟨g,off+k,none⟩) hg).trans (HC.out k _ (by simp[kh]));have hx:=HM.out more[k] (cu kh);have hst:=EO rY first more k kh
    generalize more[k]=x at *;generalize jA rY first (more.take k)=bst at *
    have hB:=P7 x bst hx hbl;have hsz:=eh.size;cases hr:rY x bst
    all_goals
     rw[hr] at hst hB;have HR:=ai hr;have HST:=ai hst;clear hr hst
     go_wp2_with (go_at_call 102;refine(hB _).mono ?_;rintro e w2 ⟨rfl,hb2⟩)
     go_roundw
     case rel=>exact⟨k+1,by omega,by go_num,by rw[HST.out];rfl,eh.trans (hb2.mono hsz)⟩
     case measure=>simp[intOf];omega
   ·obtain rfl:k=L:=by omega
    have sX:more.take k=more:=cQ (by rw[HL.out];exact ax _);rw[sX];clear sX;go_wp2
    go_ret
    exact⟨rfl,eh⟩
end Go.Proofs.YtffladgmkiimjaaGreatDoor
