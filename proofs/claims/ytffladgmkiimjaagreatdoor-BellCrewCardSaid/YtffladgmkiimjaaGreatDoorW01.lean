/- A DRAWN REGION, EACH OPERATION BY ITSELF: what each operation gives is .. -/
import Derived.RegionTactic
import Derived.OrdersIn
import Derived.Below
import Derived.Laws.Tables
import Derived.ProofKit
import Derived.Deep.Slices
import Derived.Test.YtffladgmkiimjaaGreatDoorW00
set_option linter.all false
set_option maxHeartbeats 100000000
set_option maxRecDepth 1000000
open Array renaming getElem?_eq_getElem → aM,replicate → aV,getD_eq_getD_getElem? → aW,getElem?_eq_some_iff → ak,getElem?_setIfInBounds → bA,mem_of_getElem? → eL,getD → ek,getElem?_eq_none → fg,getElem?_replicate → qG,getElem_toList → qL,toList_map → vC
open Bool renaming not_true → CL,and_eq_true → aD
open Go renaming Program → aI,TypeId → aZ,undef → af,Value → aj,World → ar,Operand → bH,execOp → bY,Calls → bm,Oper → cy,yielded → jP,Act → je,Tmp → kr,step → ni
open Go.Ending renaming returned → aC
open Go.IntKind renaming i64 → ag
open Go.Lib renaming hid → ai
open Go.Obj renaming cells → au
open Go.Proofs.Tryz renaming prog → aq,underlying28 → cG,underlying3 → ig
open Go.Region renaming wanted → cC,binds → fe,ready → iN
open Go.Result renaming andThen_ok → Bb
open Go.RowKit renaming Below → az
open Go.RowKit.Below renaming heap_alloc → aS,refl → aw,heap_setCell → bj
open Go.Value renaming int → aG,agg → aO,slice → ae,int → ah,pointer → bp
open Go.World renaming alloc_heap_new → ay,cell? → dH,cell?_alloc_lt → eb
open List renaming range → aT,all_eq_true → aU,mem_cons → bR,range' → bV,mem_range → bt,mem_cons_of_mem → bz,mem_map → cY,all_cons → dN,mem_cons_self → dw,mem_filter → jd,getElem_of_mem → jo,range_eq_range' → mF,map_congr_left → nG,countP_le_length → xe
open List.cons renaming injEq → Aa
open Nat renaming le_refl → ax,zero_add → cJ,eq_of_beq_eq_true → gU,add_assoc → np
open Ne renaming symm → Bc
open Option renaming map_some → dI,bind_some → gg
open Option.some renaming inj → bg
open Prod.mk renaming injEq → iB
namespace Go.Lag
open Go Go.RowKit
abbrev pv(b i:Nat):Value:=.pointer (some ⟨b,i,none⟩)
def Yields(P:aI)(o:cy)(ev:bH→aj)(w:ar)(R:aj→ar→Prop):Prop:=
 match (bY ev o).run P w with
 |.ok (.value v) w'=>R v w'
 |.ok .skip w'=>R af w'
 |.ok (.enter f args) w'=>bm P f args w' fun e w''=>∃v,e=.returned v∧R v w''
 |_=>False
theorem Yields.value{P:aI}{o:cy}{ev:bH→aj}{w w':ar}{R:aj→ar→Prop}{v:aj}(he:(bY ev o).run P w=.ok (.value v) w')(h:R v w'):Yields P o ev w R:=by
 unfold Yields;rw[he];exact h
theorem Yields.skip{P:aI}{o:cy}{ev:bH→aj}{w w':ar}{R:aj→ar→Prop}(he:(bY ev o).run P w=.ok .skip w')(h:R af w'):Yields P o ev w R:=by
 unfold Yields;rw[he];exact h
theorem Yields.call{P:aI}{o:cy}{ev:bH→aj}{w:ar}{R:aj→ar→Prop}{f:FuncId}{args:Array aj}{R':Ending→ar→Prop}(he:(bY ev o).run P w=.ok (.enter f args) w)
  (h:bm P f args w R') (hr:∀e w',R' e w'→∃v,e=.returned v∧R v w'):Yields P o ev w R:=by
 unfold Yields;rw[he];exact h.mono hr
theorem Yields.wp{P:aI}{o:cy}{a:je}{w:ar}{R:aj→ar→Prop}{K:je→ar→Prop}{Q:Exit→je→ar→Prop}(h:Yields P o a.eval w R)
  (hk:∀v w',R v w'→K (a.put o.dst v) w'):o.wp P a w K Q:=by
 unfold Oper.wp;unfold Yields at h;generalize (bY a.eval o).run P w=r at *;cases r with
 |halt x w'=>exact h.elim
 |ok n w'=>
  cases n<;>simp only[] at h
  ·exact hk _ _ h
  ·exact hk _ _ h
  all_goals first|exact h.elim|skip
  ·exact h.mono (by rintro e w'' ⟨v,rfl,hv⟩;exact hk _ _ hv)
abbrev Pred:=aj→List aj→ar→Prop
def dV(ops:Array cy)(j:Nat):Option Tmp:=(ops[j]?).bind (·.dst)
def iP(d:Option kr)(ev:bH→aj):Value:=
 match d with
 |some d=>ev (.tmp d)
 |none=>af
def fJ(Vs:List Pred)(i:Nat):Pred:=Vs.getD i fun _ _ _=>True
def fU(ops:Array cy)(ev:bH→aj)(l:List Edge):List Value:=(l.filter (fe .any)).map fun e=>iP (dV ops e.on) ev
def fL(ops:Array cy)(i:Nat):List Edge:=match ops[i]? with|some o=>o.after.toList|none=>[]
def gH(ev:bH→aj):List (kr × aj)→Prop
 |[]=>True
 |(t,v)::l=>ev (.tmp t)=v∧gH ev l
def Fg(ops:Array cy)(Vs:List Pred)(ev:bH→aj)(w:ar):List Edge→Prop
 |[]=>True
 |e::l=>(fe .any e=true→fJ Vs e.on (iP (dV ops e.on) ev) (fU ops ev (fL ops e.on)) w)∧Fg ops Vs ev w l
def Post(ops:Array cy)(ev:bH→aj)(Vs:List Pred)(S:ar→Prop)(i:Nat)(o:cy)(w:ar)(v:aj)(w':ar):Prop:=
 fJ Vs i (match o.dst with|some _=>v|none=>af) (fU ops ev o.after.toList) w'∧(az w.heap.size w w'∨(S w'∧∀k u ds,k≠i→fJ Vs k u ds w→fJ Vs k u ds w'))
abbrev lM:=cy→(bH→aj)→ar→(aj→ar→Prop)→Prop
def Mm(Y:lM)(ops:Array cy)(Vs:List Pred)(S:ar→Prop)(base:List (kr × aj))(i:Nat)(o:cy):Prop:=
 ∀(ev:bH→aj) (w:ar),S w→(∀v,ev (.const v)=v)→(∀g,ev (.global g)=.pointer (some ⟨g,0,none⟩))→(∀f,ev (.func f)=.func (.func f) #[] #[])→gH ev base→Fg ops Vs ev w o.after.toList→
  match o.guard with
  |none=>Y o ev w (Post ops ev Vs S i o w)
  |some (j,b)=>(∃r,iP (dV ops j) ev=.bool r)∧∀r,iP (dV ops j) ev=.bool r→if r=b then Y o ev w (Post ops ev Vs S i o w) else Post ops ev Vs S i o w af w
def Each(Y:lM)(ops:Array cy)(Vs:List Pred)(S:ar→Prop)(base:List (kr × aj)):Nat→List cy→Prop
 |_,[]=>True
 |i,o::l=>Mm Y ops Vs S base i o∧Each Y ops Vs S base (i+1) l
def jl(S:ar→Prop):List Pred→Prop
 |[]=>True
 |V::l=>(∀u ds w w',S w→V u ds w→az w.heap.size w w'→V u ds w')∧jl S l
def jf(ops:Array cy)(n:Nat)(base:List (kr × aj)):Bool:=
 ((aT ops.size).all fun i=>
  match ops[i]? with
  |none=>false
  |some o=>(o.after.toList.all fun e=>!Region.binds .any e||decide (e.on<i)) &&
   (match o.dst with|some d=>decide (d<n)&&(base.all fun p=>decide (p.1≠d))&&((aT i).all fun j=>decide (dV ops j≠some d))|none=>true) &&
   (match o.guard with|some (j,_)=>(o.after.toList.any fun e=>fe .any e&&decide (e.on=j))|none=>true)) &&
 (base.all fun p=>decide (p.1<n))
section
variable{P:aI}{ops:Array cy}{Q:Exit→je→ar→Prop}{Vs:List Pred}{S:ar→Prop}{base:List (kr × aj)}{n:Nat}
theorem Each.get{Y:lM}{i:Nat}{l:List cy}(h:Each Y ops Vs S base i l){j:Nat}{o:cy}(hj:l[j]?=some o):Mm Y ops Vs S base (i+j) o:=by
 induction l generalizing i j with
 |nil=>simp at hj
 |cons x l ih=>
  cases j with
  |zero=>simp at hj;subst hj;exact h.1
  |succ j=>have:=ih h.2 (j:=j) (by simpa using hj);rwa [np,Nat.add_comm 1 j] at this
theorem jl.get(h:jl S Vs)(i:Nat){u:aj}{ds:List aj}{w w':ar}(hS:S w)(hb:az w.heap.size w w')(hv:fJ Vs i u ds w):fJ Vs i u ds w':=by
 induction Vs generalizing i with
 |nil=>trivial
 |cons V l ih=>
  cases i with
  |zero=>exact h.1 u ds w w' hS hv hb
  |succ i=>exact ih h.2 i hv
theorem gH.congr{ev ED:bH→aj}{l:List (kr × aj)}(h:gH ev l)(he:∀p∈l,ED (.tmp p.1)=ev (.tmp p.1)):gH ED l:=by
 induction l with
 |nil=>trivial
 |cons p l ih=>exact⟨(he p (by simp)).trans h.1,ih h.2 fun q hq=>he q (by simp[hq])⟩
theorem Fg.of{ev:bH→aj}{w:ar}{l:List Edge}(h:∀e∈l,fe .any e=true→fJ Vs e.on (iP (dV ops e.on) ev) (fU ops ev (fL ops e.on)) w):Fg ops Vs ev w l:=by
 induction l with
 |nil=>trivial
 |cons e l ih=>exact⟨h e (by simp),ih fun e' he=>h e' (by simp[he])⟩
theorem yJ(a:je)(d:Option kr)(v:aj):(a.put d v).tmps.size=a.tmps.size:=by cases d<;>simp[Act.put]
theorem put_defers(a:je)(d:Option kr)(v:aj):(a.put d v).defers=a.defers:=by cases d<;>rfl
theorem s5(a:je)(d:Option kr)(v:aj)(t:kr)(h:d≠some t):(a.put d v).eval (.tmp t)=a.eval (.tmp t):=by
 cases d with
 |none=>rfl
 |some d=>
  have:d≠t:=fun e=>h (by rw[e]);simp[Act.put,Act.eval,aW,bA,this]
theorem put_eq(a:je)(d:kr)(v:aj)(h:d<a.tmps.size):(a.put (some d) v).eval (.tmp d)=v:=by
 simp[Act.put,Act.eval,aW,bA,h]
structure ja(ops:Array cy)(Vs:List Pred)(S:ar→Prop)(a0:je)(L:Array Bool)(a:je)(w:ar):Prop where
 ue:L.size=ops.size
 size:a.tmps.size=a0.tmps.size
 defers:a.defers=a0.defers
 s:S w
 keep:∀t,(∀o∈ops.toList,o.dst≠some t)→a.eval (.tmp t)=a0.eval (.tmp t)
 closed:∀i e,L.getD i false=true→e∈fL ops i→fe .any e=true→L.getD e.on false=true
 vals:∀i,L.getD i false=true→fJ Vs i (iP (dV ops i) a.eval) (fU ops a.eval (fL ops i)) w
theorem LV{i:Nat}{e:Edge}(cN:jf ops n base=true)(he:e∈fL ops i)(hb:fe .any e=true):e.on<ops.size:=by
 unfold fL at he
 by_cases hi:i<ops.size
 ·have wb:ops[i]?=some ops[i]:=aM hi;rw[wb] at he;unfold jf at cN;rw[aD,aU] at cN;have h2:=cN.1 i (bt.2 hi);rw[wb] at h2;simp only[aD] at h2;have h3:=aU.1 h2.1.1 e he;simp only[hb,CL,Bool.false_or,decide_eq_true_eq] at h3;omega
 ·simp[fg (Nat.le_of_not_lt hi)] at he
theorem pG{ev ED:bH→aj}{l:List Edge}(h:∀e∈l,fe .any e=true→iP (dV ops e.on) ED=iP (dV ops e.on) ev):fU ops ED l=fU ops ev l:=by
 unfold fU;apply nG;intro e he;rw[jd] at he;exact h e he.1 he.2
theorem ready_nil{L:Array Bool}(cN:jf ops n base=true)(hL:L.size=ops.size)(h:iN .any ops L=[]):∀i,i<ops.size→L.getD i false=true:=by
 intro i
 induction i using Nat.strongRecOn with
 |ind i ih=>
  intro hi;refine Classical.byContradiction fun hc=>?_
  have hm:i∈iN .any ops L:=by
   unfold iN;rw[jd];have wb:ops[i]?=some ops[i]:=aM hi;refine⟨bt.2 hi,?_⟩;have vg:i<L.size:=by omega
   have h1:L.getD i true=false:=by
    simp[ek,vg] at hc ⊢;exact hc
   rw[h1,wb];simp only[Bool.not_false,Bool.true_and,dI,Option.getD_some];rw[Array.all_eq_true];intro k hk;unfold jf at cN;rw[aD,aU] at cN;have h2:=cN.1 i (bt.2 hi);rw[wb] at h2;simp only[aD] at h2;have h3:=aU.1 h2.1.1 (ops[i].after[k]) (by simp);simp only[Bool.or_eq_true,Bool.not_eq_true',decide_eq_true_eq] at h3 ⊢;rcases h3 with h3|h3
   ·exact .inl h3
   ·exact .inr (ih _ h3 (by omega))
  rw[h] at hm;cases hm
def anyOf(ni:Nat→(je→ar→Prop)→je→ar→Prop)(ops:Array cy)(Q:Exit→je→ar→Prop):Nat→Array Bool→je→ar→Prop
 |0,L,a,w=>iN .any ops L=[]∧Q .normal a w
 |fuel+1,L,a,w=>(iN .any ops L=[]→Q .normal a w)∧∀i∈iN .any ops L,ni i (anyOf ni ops Q fuel (L.setIfInBounds i true)) a w
theorem Dc:∀fuel L,wpAny P .any ops Q fuel L=anyOf (wpOp P ops Q) ops Q fuel L
 |0,L=>rfl
 |fuel+1,L=>by
  funext a w
  simp only[wpAny,anyOf];simp only[Dc fuel]
theorem xo{a0:je}{w:ar}(hS:S w):ja ops Vs S a0 (aV ops.size false) a0 w:=⟨by simp,rfl,rfl,hS,fun _ _=>rfl,fun i e hi _ _=>by
  simp[aW,qG] at hi;split at hi<;>simp at hi,fun i hi=>by
  simp[aW,qG] at hi
  split at hi<;>simp at hi⟩
theorem vq:(aV ops.size false).toList.countP (!·)≤ops.size:=by simpa using xe (p:=(!·)) (l:=List.replicate ops.size false)
end
namespace Gd
open Go Go.RowKit
def Mm(Y:lM)(ops:Array cy)(Vs:List Pred)(S:ar→Prop)(base:List (kr × aj))(i:Nat)(o:cy):Prop:=
 ∀(ev:bH→aj) (w:ar),S w→(∀v,ev (.const v)=v)→(∀g,ev (.global g)=.pointer (some ⟨g,0,none⟩))→(∀f,ev (.func f)=.func (.func f) #[] #[])→gH ev base→Fg ops Vs ev w o.after.toList→
  match o.guard with
  |none=>Y o ev w (Post ops ev Vs S i o w)
  |some (j,b)=>(iP (dV ops j) ev=.bool b→Y o ev w (Post ops ev Vs S i o w))∧(iP (dV ops j) ev≠.bool b→Post ops ev Vs S i o w af w)
def Each(Y:lM)(ops:Array cy)(Vs:List Pred)(S:ar→Prop)(base:List (kr × aj)):Nat→List cy→Prop
 |_,[]=>True
 |i,o::l=>Mm Y ops Vs S base i o∧Each Y ops Vs S base (i+1) l
section
variable{P:aI}{ops:Array cy}{Q:Exit→je→ar→Prop}{Vs:List Pred}{S:ar→Prop}{base:List (kr × aj)}{n:Nat}
theorem Each.get{Y:lM}{i:Nat}{l:List cy}(h:Each Y ops Vs S base i l){j:Nat}{o:cy}(hj:l[j]?=some o):Mm Y ops Vs S base (i+j) o:=by
 induction l generalizing i j with
 |nil=>simp at hj
 |cons x l ih=>
  cases j with
  |zero=>simp at hj;subst hj;exact h.1
  |succ j=>have:=ih h.2 (j:=j) (by simpa using hj);rwa [np,Nat.add_comm 1 j] at this
theorem zT{Y:lM}{ni:Nat→(je→ar→Prop)→je→ar→Prop}
  (hs1:∀i o K a w R,ops[i]?=some o→cC o (jP ops a.tmps)=true→Y o a.eval w R→(∀v w',R v w'→K (a.put o.dst v) w')→ni i K a w)
  (hs2:∀i o K a w,ops[i]?=some o→¬cC o (jP ops a.tmps)=true→K (a.put o.dst af) w→ni i K a w)
  (cN:jf ops n base=true) (Ev:jl S Vs) (Mh:∀w w',S w→az w.heap.size w w'→S w') (a0:je) (hn:a0.tmps.size=n) (hbase:gH a0.eval base) (lo:Nat) (hE:∀j o,lo≤j→ops[j]?=some o→Mm Y ops Vs S base j o)
  (hQ:∀a w,ja ops Vs S a0 (aV ops.size true) a w→Q .normal a w) :
  ∀fuel (L:Array Bool) (a:je) (w:ar),L.toList.countP (!·)≤fuel→(∀k,k<lo→L.getD k false=true)→ja ops Vs S a0 L a w→anyOf ni ops Q fuel L a w:=by
 have fin:∀(L:Array Bool) (a:je) (w:ar),iN .any ops L=[]→ja ops Vs S a0 L a w→Q .normal a w:=fun L a w hr h=>
  hQ a w ⟨by simp,h.size,h.defers,h.s,h.keep,fun i e hi he hb=>by
   have hlt:e.on<ops.size:=LV cN he hb;simp[ek,hlt],fun i hi=>by
   by_cases hlt:i<ops.size
   ·exact h.vals i (ready_nil cN h.ue hr i hlt)
   ·simp[ek,hlt] at hi⟩
 intro fuel
 induction fuel with
 |zero=>
  intro L a w hc hlo h
  have hr:iN .any ops L=[]:=by
   apply List.eq_nil_iff_forall_not_mem.2;intro i hi;unfold iN at hi;rw[jd,bt] at hi;obtain⟨hi,h2⟩:=hi;have vg:i<L.size:=by have:=h.ue;omega
   simp[ek,vg] at h2;have h0:=List.countP_eq_zero.1 (Nat.le_zero.1 hc) L[i] (by simp);simp[h2.1] at h0
  exact⟨hr,fin L a w hr h⟩
 |succ fuel ih=>
  intro L a w hc hlo h;refine⟨fun hr=>fin L a w hr h,fun i hi=>?_⟩;have hi':=hi;unfold iN at hi';rw[jd,bt] at hi';obtain⟨hlt,h2⟩:=hi';have vg:i<L.size:=by have:=h.ue;omega
  have wb:ops[i]?=some ops[i]:=aM hlt;generalize ops[i]=o at wb;rw[wb] at h2;simp only[aD,Bool.not_eq_true',dI,Option.getD_some,Array.all_eq_true] at h2;obtain⟨TF,Tx⟩:=h2
  have Zi:o∈ops.toList:=by
   have:=eL wb;simpa using this
  have rC:=cN;unfold jf at rC;rw[aD,aU,aU] at rC;have Cp:=rC.1 i (bt.2 hlt);rw[wb] at Cp;simp only[aD] at Cp;obtain⟨⟨ZN,ux⟩,Zp⟩:=Cp
  have TH:Fg ops Vs a.eval w o.after.toList:=Fg.of fun e he hb=>by
   obtain⟨k,hk,rfl⟩:=jo he;have:=Tx k (by simpa using hk);simp only[qL] at hb ⊢;rw[hb] at this;simp only[CL,Bool.false_or] at this;exact h.vals _ this
  have hBs:gH a.eval base:=hbase.congr fun p hp=>h.keep _ fun o' Zg hd=>by
   obtain⟨k,hk,rfl⟩:=jo Zg;have qH:k<ops.size:=by simpa using hk
   have h3:=rC.1 k (bt.2 qH);rw[aM qH] at h3;simp only[qL] at hd;simp only[aD,hd] at h3;have:=aU.1 h3.1.2.1.2 p hp;simp at this
  have hil:lo≤i:=by
   refine Nat.le_of_not_lt fun hc2=>?_;have:=hlo i hc2;simp[ek,vg] at TF this;rw[TF] at this;cases this
  have hO:=hE i o hil wb a.eval w h.s (fun _=>rfl) (fun _=>rfl) (fun _=>rfl) hBs TH;have hao:fL ops i=o.after.toList:=by unfold fL;rw[wb]
  have KN:∀e∈o.after.toList,fe .any e=true→L.getD e.on false=true:=fun e he hb=>by
   obtain⟨k,hk,rfl⟩:=jo he;have:=Tx k (by simpa using hk);simp only[qL] at hb ⊢;rw[hb] at this;simpa using this
  have hne:∀k,L.getD k false=true→k≠i∧k<ops.size:=fun k hk=>by
   refine⟨fun e=>?_,?_⟩
   ·subst e;simp[ek,vg] at TF hk;rw[TF] at hk;cases hk
   ·rcases Nat.lt_or_ge k ops.size with h5|h5
    ·exact h5
    ·have:¬k<L.size:=by have:=h.ue;omega
     simp[ek,this] at hk
  have next:∀v w',Post ops a.eval Vs S i o w v w'→anyOf ni ops Q fuel (L.setIfInBounds i true) (a.put o.dst v) w':=fun v w' hp=>by
   have hval:∀k,L.getD k false=true→iP (dV ops k) (a.put o.dst v).eval=iP (dV ops k) a.eval:=fun k qH=>by
    obtain⟨zW,xI⟩:=hne k qH;cases Me:dV ops k with
    |none=>rfl
    |some d=>
     refine s5 _ _ _ _ fun XP=>?_;rcases Nat.lt_trichotomy k i with h5|h5|h5
     ·rw[XP] at ux;simp only[aD,decide_eq_true_eq] at ux;have:=aU.1 ux.2 k (bt.2 h5);simp[Me] at this
     ·exact zW h5
     ·have h6:=rC.1 k (bt.2 xI);rw[aM xI] at h6
      have h7:(ops[k]).dst=some d:=by
       unfold dV at Me;rw[aM xI] at Me;simpa using Me
      simp only[aD,h7] at h6;have:=aU.1 h6.1.2.2 i (bt.2 h5);unfold dV at this;rw[wb] at this;simp[XP] at this
   have uv:∀k,L.getD k false=true→(L.setIfInBounds i true).getD k false=true:=fun k hk=>by
    have:=(hne k hk).1;simpa [aW,bA,Bc this] using hk
   have hback:∀k,k≠i→(L.setIfInBounds i true).getD k false=true→L.getD k false=true:=fun k zW hk=>by
    simpa [aW,bA,Bc zW] using hk
   refine ih _ _ _ ?_ (fun k hk=>uv k (hlo k hk)) ⟨by simp[h.ue],by rw[yJ,h.size],by rw[put_defers,h.defers],?_,fun t ht=>?_,fun k e hk he hb=>?_,fun k hk=>?_⟩
   ·have hLv:L[i]=false:=by simpa [ek,vg] using TF
    have h4:(L.setIfInBounds i true).toList.countP (!·)=L.toList.countP (!·)-1:=by
     rw[Array.toList_setIfInBounds,List.countP_set (by simpa using vg)];simp[hLv]
    omega
   ·exact hp.2.elim (fun hb=>Mh _ _ h.s hb) fun hs=>hs.1
   ·rw[s5 _ _ _ _ (ht o Zi)];exact h.keep t ht
   ·by_cases zW:k=i
    ·subst zW;rw[hao] at he;exact uv _ (KN e he hb)
    ·exact uv _ (h.closed k e (hback k zW hk) he hb)
   ·by_cases zW:k=i
    ·subst zW
     have hdd:fU ops (a.put o.dst v).eval (fL ops k)=fU ops a.eval o.after.toList:=by
      rw[hao];exact pG fun e he hb=>hval _ (KN e he hb)
     rw[hdd];have:=hp.1;unfold dV iP;rw[wb];simp only[gg];cases hd:o.dst with
     |none=>rw[hd] at this;exact this
     |some d=>
      rw[hd] at this ux;simp only[aD,decide_eq_true_eq] at ux;have h9:=put_eq a d v (by rw[h.size,hn];exact ux.1.1);simp only[] at this ⊢;rw[h9];exact this
    ·have qH:=hback k zW hk;have Y2:=h.vals k qH;have hdd:fU ops (a.put o.dst v).eval (fL ops k)=fU ops a.eval (fL ops k):=pG fun e he hb=>hval _ (h.closed k e qH he hb);rw[hval k qH,hdd];exact hp.2.elim (fun hb=>Ev.get k h.s hb Y2) fun hs=>hs.2 k _ _ zW Y2
  cases hg:o.guard with
  |none=>
   rw[hg] at hO;exact hs1 i o _ a w _ wb (by simp[cC,hg]) hO next
  |some jb=>
   obtain⟨j,b⟩:=jb;rw[hg] at hO;obtain⟨hO1,U6⟩:=hO
   by_cases hr:iP (dV ops j) a.eval=.bool b
   ·have hy:jP ops a.tmps j=some b:=by
     unfold jP;unfold iP at hr;unfold dV at hr;cases hd:(ops[j]?).bind (·.dst) with
     |none=>rw[hd] at hr;simp[af] at hr
     |some d=>
      rw[hd] at hr;simp only[gg]
      have h8:a.tmps[d]?=some (.bool b):=by
       unfold Act.eval at hr;simp only[] at hr
       by_cases Cq:d<a.tmps.size
       ·simp[ek,Cq] at hr;rw[aM Cq,hr]
       ·simp[ek,Cq,af] at hr
      rw[h8]
    exact hs1 i o _ a w _ wb (by simp[cC,hg,hy]) (hO1 hr) next
   ·have hy:jP ops a.tmps j≠some b:=by
     intro hy;refine hr ?_;unfold jP at hy;unfold iP dV;cases hd:(ops[j]?).bind (·.dst) with
     |none=>rw[hd] at hy;simp at hy
     |some d=>
      rw[hd] at hy;simp only[gg] at hy;simp only[];unfold Act.eval;simp only[];cases h8:a.tmps[d]? with
      |none=>rw[h8] at hy;simp at hy
      |some v=>
       rw[h8] at hy
       have hv:v=.bool b:=by
        revert hy;cases v<;>simp
       simp[aW,h8,hv]
    exact hs2 i o _ a w wb (by simpa [cC,hg] using hy) (next _ _ (U6 hr))
theorem bQ{id:Nat}{a0:je}{w:ar}(hm:P.follows .mixedOrders=true)(Vs:List Pred)(S:ar→Prop)(base:List (kr × aj))(cN:jf ops a0.tmps.size base=true)(Ev:jl S Vs)(Mh:∀w w',S w→az w.heap.size w w'→S w')
  (hS:S w.drew) (hbase:gH a0.eval base) (hE:Each (Yields P) ops Vs S base 0 ops.toList) (hQ:∀a w,ja ops Vs S a0 (aV ops.size true) a w→Q .normal a w):(Code.region id ops true).wp P Q a0 w:=
 wp_region_any hm (by
  rw[Dc]
  exact zT (Y:=Yields P) (fun i o K a w R ho hw hy hk=>wpOp_step ho fun K' hK=>by rw[if_pos hw];exact hy.wp fun v w' hv=>hK _ _ (hk v w' hv))
   (fun i o K a w ho hw hk=>wpOp_step ho fun K' hK=>by rw[if_neg hw];exact hK _ _ hk) cN Ev Mh a0 rfl hbase 0 (fun j o _ h=>by have:=hE.get (j:=j) (o:=o) (by simpa using h);rwa [cJ] at this) hQ ops.size _ a0 _ vq (fun k hk=>by omega) (xo hS))
end
end Gd
section
variable{P:aI}{ops:Array cy}{Q:Exit→je→ar→Prop}{Vs:List Pred}{S:ar→Prop}{base:List (kr × aj)}{n:Nat}
theorem Mm.gd{Y:lM}{i:Nat}{o:cy}(h:Mm Y ops Vs S base i o):Gd.Mm Y ops Vs S base i o:=by
 intro ev w hS hc hg hf hb hd;have h1:=h ev w hS hc hg hf hb hd;cases hgd:o.guard with
 |none=>rw[hgd] at h1;exact h1
 |some jb=>
  obtain⟨j,b⟩:=jb;rw[hgd] at h1;obtain⟨⟨r,hr⟩,h2⟩:=h1;exact⟨fun e=>by have:=h2 b e;rwa [if_pos rfl] at this,fun e=>by have:=h2 r hr;rwa [if_neg (fun h=>e (hr.trans (congrArg _ h)))] at this⟩
theorem Each.gd{Y:lM}:∀ {i:Nat} {l:List cy},Each Y ops Vs S base i l→Gd.Each Y ops Vs S base i l
 |_,[],_=>trivial
 |_,_::_,h=>⟨h.1.gd,Each.gd h.2⟩
theorem bQ{id:Nat}{a0:je}{w:ar}(hm:P.follows .mixedOrders=true)(Vs:List Pred)(S:ar→Prop)(base:List (kr × aj))(cN:jf ops a0.tmps.size base=true)(Ev:jl S Vs)(Mh:∀w w',S w→az w.heap.size w w'→S w')
  (hS:S w.drew) (hbase:gH a0.eval base) (hE:Each (Yields P) ops Vs S base 0 ops.toList) (hQ:∀a w,ja ops Vs S a0 (aV ops.size true) a w→Q .normal a w):(Code.region id ops true).wp P Q a0 w:=
 Gd.bQ hm Vs S base cN Ev Mh hS hbase hE.gd hQ
def YieldsIn(P:aI)(o:cy)(ev:bH→aj)(w:ar)(R:aj→ar→Prop):Prop:=
 match (bY ev o).run P w with
 |.ok (.value v) w'=>R v w'
 |.ok .skip w'=>R af w'
 |.ok (.enter f args) w'=>bm P f args w' fun e w''=>∃v,e=.returned v∧R v w''
 |.ok (.round l f tmps assign body) w'=>∀m,RoundIn Fence.wide m P l f tmps assign body w' fun e w''=>∃v,e=.returned v∧R v w''
 |_=>False
theorem YieldsIn.wpIn{P:aI}{m:Nat}{o:cy}{a:je}{w:ar}{R:aj→ar→Prop}{K:je→ar→Prop}{Q:Exit→je→ar→Prop}(h:YieldsIn P o a.eval w R)
  (hk:∀v w',R v w'→K (a.put o.dst v) w'):o.wpIn Fence.wide m P a w K Q:=by
 refine⟨fun _ _=>trivial,?_⟩;have e:o.semAt Fence.wide.round a.eval=bY a.eval o:=rfl;rw[e];unfold YieldsIn at h;generalize (bY a.eval o).run P w=r at *;cases r with
 |halt x w'=>exact h.elim
 |ok n w'=>
  cases n<;>simp only[] at h<;>first|exact h.elim|skip
  ·exact hk _ _ h
  ·exact hk _ _ h
  ·refine⟨fun h=>(by cases h),?_⟩;rw[callsIn_wide];exact h.mono (by rintro e w'' ⟨v,rfl,hv⟩;exact hk _ _ hv)
  ·refine⟨fun h=>(by cases h),?_⟩;exact(h _).mono (by rintro e w'' ⟨v,rfl,hv⟩;exact hk _ _ hv)
def keeps(ops:Array cy)(t:kr):Bool:=ops.toList.all fun o=>decide (o.dst≠some t)
theorem ja.kept{a0 a:je}{L:Array Bool}{w:ar}(h:ja ops Vs S a0 L a w){t:kr}(hk:keeps ops t=true):a.tmps.getD t af=a0.tmps.getD t undef:=
 h.keep t fun o ho=>by
  have:=aU.1 hk o ho;simpa using this
theorem ja.kp{a0 a:je}{L:Array Bool}{w:ar}(h:ja ops Vs S a0 L a w)(t:kr)(hk:keeps ops t=true):a.tmps.getD t af=a0.tmps.getD t undef:=h.kept hk
theorem ja.val{a0 a:je}{w:ar}(h:ja ops Vs S a0 (aV ops.size true) a w)(i:Nat)(hi:i<ops.size):fJ Vs i (iP (dV ops i) a.eval) (fU ops a.eval (fL ops i)) w:=h.vals i (by simp[ek,hi])
theorem ja.act{a0 a:je}{L:Array Bool}{w:ar}(h:ja ops Vs S a0 L a w):a=⟨((aT a0.tmps.size).map fun t=>a.tmps.getD t af).toArray,a0.defers⟩:=by
 have h1:=h.size;have h2:=h.defers;obtain⟨tm,df⟩:=a;simp only[] at h1 h2;subst h2;rw[←h1]
 congr 1
 apply Array.ext
 ·simp
 ·intro i h1 h2;simp[ek,h1]
theorem ja.lits{a0 a:je}{L:Array Bool}{w:ar}(h:ja ops Vs S a0 L a w)(n:Nat)(hn:a0.tmps.size=n):a=⟨((aT n).map fun t=>a.tmps.getD t af).toArray,a0.defers⟩:=hn▸h.act
end
theorem ko(l:List aj)(i:Nat)(d:aj):l.toArray.getD i d=l.getD i d:=by simp[aW,List.getD]
theorem qQ{P:aI}{o:cy}{ev:bH→aj}{w:ar}{c a b:bH}{t:Bool}(ho:o.op=.pick c a b)(hc:ev c=.bool t):(bY ev o).run P w=.ok (.value (if t then ev a else ev b)) w:=by
 unfold bY;simp only[ho,hc,asBool,Sem.run_bind,Sem.run_pure,Bb]
theorem Yields.abJ{P:aI}{o:cy}{ev:bH→aj}{w:ar}{R:aj→ar→Prop}{c b:bH}{A B:Bool}(ho:o.op=.pick c (.const (.bool true)) b)(hc:∀v,ev (.const v)=v)(hA:ev c=.bool A)(hB:A=false→ev b=.bool B)(h:R (.bool (A||B)) w):Yields P o ev w R:=by
 refine .value (qQ ho hA) ?_;cases A
 ·rw[hB rfl];exact h
 ·rw[hc];exact h
theorem Yields.abK{P:aI}{o:cy}{ev:bH→aj}{w:ar}{R:aj→ar→Prop}{c b:bH}{A B:Bool}(ho:o.op=.pick c b (.const (.bool false)))(hc:∀v,ev (.const v)=v)(hA:ev c=.bool A)(hB:A=true→ev b=.bool B)(h:R (.bool (A&&B)) w):Yields P o ev w R:=by
 refine .value (qQ ho hA) ?_;cases A
 ·rw[hc];exact h
 ·rw[hB rfl];exact h
abbrev pV(x:aj):Pred:=fun v _ _=>v=x
abbrev pC(c:Bool)(x:aj):Pred:=fun v _ _=>c=true→v=x
theorem sV{S:ar→Prop}{x:aj}:∀(u:aj) (ds:List aj) (w w':ar),S w→pV x u ds w→az w.heap.size w w'→pV x u ds w':=fun _ _ _ _ _ h _=>h
theorem sC{S:ar→Prop}{c:Bool}{x:aj}:∀(u:aj) (ds:List aj) (w w':ar),S w→pC c x u ds w→az w.heap.size w w'→pC c x u ds w':=fun _ _ _ _ _ h _=>h
section
variable{P:aI}{ops:Array cy}{Vs:List Pred}{S:ar→Prop}{o:cy}{ev:bH→aj}{w:ar}{i:Nat}
theorem yv{v:aj}(he:(bY ev o).run P w=.ok (.value v) w)(hp:fJ Vs i (match o.dst with|some _=>v|none=>af) (fU ops ev o.after.toList) w):Yields P o ev w (Post ops ev Vs S i o w):=.value he ⟨hp,.inl (aw _ _)⟩
theorem tV{p:Prop}(h:p:=by refine yv ?_ rfl;go_simp):p:=h
theorem yO{c b:bH}{A B:Bool}(ho:o.op=.pick c (.const (.bool true)) b)(hc:∀v,ev (.const v)=v)(hA:ev c=.bool A)(hB:A=false→ev b=.bool B)(hp:fJ Vs i (match o.dst with | some _=>.bool (A||B) | none=>af) (fU ops ev o.after.toList) w):Yields P o ev w (Post ops ev Vs S i o w):=.abJ ho hc hA hB ⟨hp,.inl (aw _ _)⟩
theorem yA{c b:bH}{A B:Bool}(ho:o.op=.pick c b (.const (.bool false)))(hc:∀v,ev (.const v)=v)(hA:ev c=.bool A)(hB:A=true→ev b=.bool B)(hp:fJ Vs i (match o.dst with|some _=>.bool (A&&B)|none=>af) (fU ops ev o.after.toList) w):Yields P o ev w (Post ops ev Vs S i o w):=.abK ho hc hA hB ⟨hp,.inl (aw _ _)⟩
theorem yc{f:FuncId}{args:Array aj}{X:aj}(h:bm P f args w fun e w'=>e=.returned X∧az w.heap.size w w')(he:(bY ev o).run P w=.ok (.enter f args) w)(hp:∀w',fJ Vs i (match o.dst with|some _=>X|none=>af) (fU ops ev o.after.toList) w'):Yields P o ev w (Post ops ev Vs S i o w):=
 .call he h (by rintro e w2 ⟨rfl,hb⟩;exact⟨_,rfl,hp _,.inl hb⟩)
theorem yq{f:FuncId}{args:Array aj}{X:aj}(h:bm P f args w fun e w'=>e=.returned X∧w=w')(he:(bY ev o).run P w=.ok (.enter f args) w)(hp:∀w',fJ Vs i (match o.dst with|some _=>X|none=>af) (fU ops ev o.after.toList) w'):Yields P o ev w (Post ops ev Vs S i o w):=
 .call he h (by rintro e w2 ⟨rfl,rfl⟩;exact⟨_,rfl,hp _,.inl (aw _ _)⟩)
end
section
variable{A b x:Bool}{val V0 u X:aj}{Y R Z:Prop}{w:ar}
theorem gC(d:val=V0)(l:V0=.bool b↔A=true)(h:A=true→Y):(val=.bool b→Y)∧(val≠.bool b→(A=true→u=X)∧(az w.heap.size w w∨Z)):=
 ⟨fun e=>h (l.1 (d.symm.trans e)),fun e=>⟨fun hc=>absurd (d.trans (l.2 hc)) e,.inl (aw _ _)⟩⟩
theorem gN(d:val=.bool x)(hne:(x==b)=false):(val=.bool b→Y)∧(val≠.bool b→True∧(az w.heap.size w w∨Z)):=
 ⟨fun e=>absurd (d.symm.trans e) (by intro h;cases h;simp at hne),fun _=>⟨trivial,.inl (aw _ _)⟩⟩
theorem gL(d:val=.bool b)(h:Y):(val=.bool b→Y)∧(val≠.bool b→R):=⟨fun _=>h,fun e=>absurd d e⟩
end
theorem Yields.nI{P:aI}{o:cy}{ev:bH→aj}{w:ar}{R:aj→ar→Prop}(ty:aZ)(x y:bH)(ho:o.op=.store ty x y)(g:Nat)(cells:Array aj)(hx:ev x=.pointer (some ⟨g,0,none⟩))(hy:ev y=.agg cells)
  (t:aZ) (old:Array aj) (hg:w.heap[g]?=some (.cells old t (0,0))) (hi:(P.info? ty).map (·.size)=some cells.size) (hold:old.size=cells.size) (h1:cells.all (·.oneCell')=true) (h:R af (w.setRow g cells)):Yields P o ev w R:=by
 refine Yields.skip (w':=w.setRow g cells) ?_ h;unfold bY;simp only[ho,hx,hy,Instr.storeAt,Instr.sureAddr,Sem.run_bind,Sem.run_pure,Bb,run_storeVar_row w g t ty old cells hg hi hold h1]
theorem Yields.yZ{P:aI}{o:cy}{ev:bH→aj}{w:ar}{R:aj→ar→Prop}(ty:aZ)(x:bH)(ho:o.op=.load ty x)(g:Nat)(hx:ev x=.pointer (some ⟨g,0,none⟩))(t:aZ)(cs:Array aj)(fr:Nat × Nat)(d:TypeDesc)(hg:w.heap[g]?=some (.cells cs t fr))
  (hu:P.underlying ty=some d) (hd:(match d with|.struct _|.array _ _=>true|_=>false)=true) (hi:(P.info? ty).map (·.size)=some cs.size) (h:R (.agg cs) w):Yields P o ev w R:=by
 refine Yields.value (v:=.agg cs) (w':=w) ?_ h;unfold bY;simp only[ho,hx,Instr.loadAt,Instr.sureAddr,Sem.run_bind,Sem.run_pure,Bb,run_loadVar_row w g t ty cs fr d hg hu hd hi]
theorem Ku{P:aI}{ops:Array cy}{Vs:List Pred}{S:ar→Prop}{o:cy}{ev:bH→aj}{w:ar}{i:Nat}(ty:aZ){x:bH}(ho:o.op=.load ty x){g:Nat}(hx:ev x=.pointer (some ⟨g,0,none⟩)){t:aZ}{cs:Array aj}{fr:Nat × Nat}{d:TypeDesc}(hg:w.heap[g]?=some (.cells cs t fr))
  (hu:P.underlying ty=some d) (hd:(match d with|.struct _|.array _ _=>true|_=>false)=true) (hi:(P.info? ty).map (·.size)=some cs.size) (hp:fJ Vs i (match o.dst with|some _=>.agg cs|none=>af) (fU ops ev o.after.toList) w):Yields P o ev w (Post ops ev Vs S i o w):=
 Yields.yZ ty x ho g hx t cs fr d hg hu hd hi ⟨hp,.inl (aw _ _)⟩
namespace Gd
section
variable{P:aI}{ops:Array cy}{Q:Exit→je→ar→Prop}{Vs:List Pred}{S:ar→Prop}{base:List (kr × aj)}{n:Nat}
theorem qd{i:Nat}{o:cy}{e:Edge}(cN:jf ops n base=true)(ho:ops[i]?=some o)(he:e∈o.after.toList)(hb:fe .any e=true):e.on<i:=by
 have hi:i<ops.size:=(ak.1 ho).1;unfold jf at cN;rw[aD,aU] at cN;have h2:=cN.1 i (bt.2 hi);rw[ho] at h2;simp only[aD] at h2;have h3:=aU.1 h2.1.1 e he;simpa [hb] using h3
theorem P0{L:Array Bool}{i:Nat}(cN:jf ops n base=true)(hlt:i<ops.size)(hL:L.size=ops.size)(hk:∀k,L.getD k false=decide (k<i)):i∈iN .any ops L:=by
 unfold iN;rw[jd];have wb:ops[i]?=some ops[i]:=aM hlt;refine⟨bt.2 hlt,?_⟩;have vg:i<L.size:=by omega
 have h1:L.getD i true=false:=by
  have:=hk i;simp[ek,vg] at this ⊢;exact this
 rw[h1,wb];simp only[Bool.not_false,Bool.true_and,dI,Option.getD_some];rw[Array.all_eq_true];intro k hk2;cases hb:fe .any ops[i].after[k] with
 |false=>rfl
 |true=>
  have:=qd cN wb (e:=ops[i].after[k]) (by simp) hb;rw[hk];simp[this]
theorem VP{L:Array Bool}{i:Nat}(vg:i<L.size)(hk:∀k,L.getD k false=decide (k<i))(k:Nat):(L.setIfInBounds i true).getD k false=decide (k<i+1):=by
 by_cases zW:k=i
 ·subst zW;simp[aW,bA,vg]
 ·have:=hk k;rw[aW,bA,if_neg (Bc zW),←aW,this];simp;omega
theorem yr(cN:jf ops n base=true):∀(m i:Nat) (L:Array Bool) (a:je) (w:ar),i+m=ops.size→L.size=ops.size→(∀k,L.getD k false=decide (k<i))→anyOf (wpOp P ops Q) ops Q m L a w→wpOps P ops Q (bV i m) a w
 |0,i,L,a,w,hi,hL,hk,h=>h.2
 |m+1,i,L,a,w,hi,hL,hk,h=>by
  show wpOps P ops Q (i::bV (i+1) m) a w;rw[wpOps_cons];exact wpOp_mono (fun a w h=>yr cN m (i+1) _ a w (by omega) (by simpa using hL) (VP (by omega) hk) h) (h.2 i (P0 cN (by omega) hL hk))
def M0(n i:Nat):Array Bool:=((aT n).map fun k=>decide (k<i)).toArray
theorem yY(n i k:Nat)(hi:i≤n):(M0 n i).getD k false=decide (k<i):=by
 unfold M0;rw[aW]
 by_cases hk:k<n
 ·simp[hk]
 ·have:¬k<i:=by omega
  simp[hk,this]
theorem Hr{a0:je}{w:ar}(i m:Nat)(him:i+m=ops.size)(Vs:List Pred)(S:ar→Prop)(base:List (kr × aj))(cN:jf ops n base=true)(hn:a0.tmps.size=n)(Ev:jl S Vs)(Mh:∀w w',S w→az w.heap.size w w'→S w')
  (hS:S w) (hbase:gH a0.eval base) (Wh:∀k,k<i→fJ Vs k (iP (dV ops k) a0.eval) (fU ops a0.eval (fL ops k)) w) (hE:Each (Yields P) ops Vs S base i (ops.toList.drop i)) (hQ:∀a w,ja ops Vs S a0 (aV ops.size true) a w→Q .normal a w):wpOps P ops Q (bV i m) a0 w:=by
 refine yr cN m i (M0 ops.size i) a0 w him (by simp[M0]) (fun k=>yY _ _ _ (by omega)) ?_
 refine zT (Y:=Yields P) (fun i o K a w R ho hw hy hk=>wpOp_step ho fun K' hK=>by rw[if_pos hw];exact hy.wp fun v w' hv=>hK _ _ (hk v w' hv))
  (fun i o K a w ho hw hk=>wpOp_step ho fun K' hK=>by rw[if_neg hw];exact hK _ _ hk) cN Ev Mh a0 hn hbase i (fun j o hj h=>by
   have:=hE.get (j:=j-i) (o:=o) (by rw[List.getElem?_drop,show i+(j-i)=j by omega];simpa using h)
   rwa [show i+(j-i)=j by omega] at this) hQ m _ a0 _ ?_ (fun k hk=>by rw[yY _ _ _ (by omega)];simpa using hk) ⟨by simp[M0],rfl,rfl,hS,fun _ _=>rfl,fun k e hk he hb=>?_,fun k hk=>?_⟩
 ·have e:(M0 ops.size i).toList=(aT i).map (fun _=>true)++(bV i m).map fun _=>false:=by
   unfold M0;simp only
   have:aT ops.size=aT i++bV i m:=by
    rw[mF,mF,←him,←List.range'_append_1,cJ]
   rw[this,List.map_append]
   congr 1
   ·apply nG;intro k hk;simpa using hk
   ·apply nG;intro k hk;have:=(List.mem_range'_1.1 hk).1;simp;omega
  rw[e,List.countP_append]
  have h1:((aT i).map fun _=>true).countP (!·)=0:=by
   rw[List.countP_eq_zero];intro x hx;simp at hx;simp[hx.2]
  have h2:=xe (p:=(!·)) (l:=(bV i m).map fun _=>false);simp only[List.length_map,List.length_range'] at h2;omega
 ·rw[yY _ _ _ (by omega)] at hk ⊢;have zW:k<i:=by simpa using hk
  unfold fL at he;have hko:ops[k]?=some ops[k]:=aM (by omega);rw[hko] at he;have:=qd cN hko he hb;simp;omega
 ·rw[yY _ _ _ (by omega)] at hk;exact Wh k (by simpa using hk)
theorem Hs{id:Nat}{a0:je}{w:ar}(Vs:List Pred)(S:ar→Prop)(base:List (kr × aj))(cN:jf ops n base=true)(hn:a0.tmps.size=n)(Ev:jl S Vs)(Mh:∀w w',S w→az w.heap.size w w'→S w')
  (hS:S w) (hbase:gH a0.eval base) (hE:Each (Yields P) ops Vs S base 0 ops.toList) (hQ:∀a w,ja ops Vs S a0 (aV ops.size true) a w→Q .normal a w):(Code.region id ops false).wp P Q a0 w:=by
 refine wp_region ?_;rw[mF];exact Hr 0 ops.size (by omega) Vs S base cN hn Ev Mh hS hbase (fun k hk=>by omega) hE hQ
end
end Gd
structure jg(n:Nat)(a:je)(l:List (kr × aj)):Prop where
 size:a.tmps.size=n
 defers:a.defers=[]
 base:gH a.eval l
theorem ja.fr{ops:Array cy}{Vs:List Pred}{S:ar→Prop}{a0 a:je}{L:Array Bool}{w:ar}{n:Nat}{l:List (kr × aj)}(h:ja ops Vs S a0 L a w)(h0:jg n a0 l)(hk:(l.all fun p=>keeps ops p.1)=true):jg n a l:=
 ⟨h.size.trans h0.size,h.defers.trans h0.defers,h0.base.congr fun p hp=>h.keep p.1 fun o ho=>by
  have h1:=aU.1 hk p hp;have:=aU.1 h1 o ho
  simpa using this⟩
theorem jg.g{n:Nat}{a:je}{l:List (kr × aj)}(h:jg n a l)(k:Nat){t:kr}{v:aj}(hk:l[k]?=some (t,v)):a.eval (.tmp t)=v:=by
 have h1:=h.base;clear h
 induction l generalizing k with
 |nil=>simp at hk
 |cons p l ih=>cases k with
  |zero=>cases hk;exact h1.1
  |succ k=>exact ih k (by simpa using hk) h1.2
def Vx:Op→Bool
 |.call c=>match c.callee with|.builtin _=>true|_=>false
 |.load ..=>false
 |_=>true
theorem yw{P:aI}{ops:Array cy}{Vs:List Pred}{S:ar→Prop}{o:cy}{ev:bH→aj}{w:ar}{i:Nat}{v:aj}(hq:Vx o.op=true)(he:(bY ev o).run P w=.ok (.value v) w)(hp:fJ Vs i (match o.dst with|some _=>v|none=>af) (fU ops ev o.after.toList) w):Yields P o ev w (Post ops ev Vs S i o w):=yv he hp
def nS(t:kr):List (kr × aj)→List (kr × aj)
 |[]=>[]
 |p::l=>if p.1=t then l else p::nS t l
theorem jg.del{n:Nat}{a:je}{l:List (kr × aj)}(h:jg n a l)(t:kr):jg n a (nS t l):=⟨h.size,h.defers,by
 have h1:=h.base;clear h
 induction l with
 |nil=>trivial
 |cons p l ih=>
  unfold nS;split
  ·exact h1.2
  ·exact⟨h1.1,ih h1.2⟩⟩
theorem jg.tl{n:Nat}{a:je}{p:kr × aj}{l:List (kr × aj)}(h:jg n a (p::l)):jg n a l:=⟨h.size,h.defers,h.base.2⟩
theorem jg.put{n:Nat}{a:je}{l:List (kr × aj)}(h:jg n a l)(d:kr)(v:aj)(hk:(l.all fun p=>!Nat.beq p.1 d)=true):jg n (a.put (some d) v) l:=
 ⟨(yJ _ _ _).trans h.size,(put_defers _ _ _).trans h.defers,h.base.congr fun p hp=>s5 _ _ _ _ fun e=>by
  have h1:=aU.1 hk p hp;cases e
  simp at h1⟩
theorem jg.cons{n:Nat}{a:je}{l:List (kr × aj)}(h:jg n a l){t:kr}{v:aj}(hv:a.eval (.tmp t)=v):jg n a ((t,v)::l):=⟨h.size,h.defers,hv,h.base⟩
section
variable{P:aI}{ops:Array cy}{Q:Exit→je→ar→Prop}{n:Nat}
theorem Yields.mono{o:cy}{ev:bH→aj}{w:ar}{R R':aj→ar→Prop}(h:Yields P o ev w R)(hr:∀v w',R v w'→R' v w'):Yields P o ev w R':=by
 unfold Yields at *;generalize (bY ev o).run P w=r at *;cases r with
 |halt x w'=>exact h.elim
 |ok n w'=>
  cases n<;>simp only[] at h ⊢
  ·exact hr _ _ h
  ·exact hr _ _ h
  all_goals first|exact h.elim|skip
  ·exact h.mono (by rintro e w'' ⟨v,rfl,hv⟩;exact⟨v,rfl,hr _ _ hv⟩)
end
end Go.Lag
namespace Go.Lag
namespace Ph
open Go Go.RowKit
abbrev Ls:=Nat→Bool
def upd(L:Ls)(i:Nat):Ls:=fun t=>if t=i then true else L t
def needs(ops:Array cy)(i t:Nat):Bool:=(fL ops t).any fun e=>fe .any e&&decide (e.on=i)
def yh(L:Ls)(ev:bH→aj):List (Nat × kr × aj)→Prop
 |[]=>True
 |(i,t,v)::l=>(L i=false→ev (.tmp t)=v)∧yh L ev l
def Jw(ops:Array cy)(ev:bH→aj):List (Nat × kr × aj)→Prop
 |[]=>True
 |(i,t,v)::l=>(dV ops i=some t∧ev (.tmp t)=v)∧Jw ops ev l
def Hp(L:Ls)(ev:bH→aj)(late:List (Nat × kr × aj)):List (kr × aj)→Prop
 |[]=>yh L ev late
 |(t,v)::l=>ev (.tmp t)=v∧Hp L ev late l
theorem Hp.of{L:Ls}{ev:bH→aj}{late:List (Nat × kr × aj)}(h2:yh L ev late):∀ {base:List (kr × aj)},gH ev base→Hp L ev late base
 |[],_=>h2
 |(_,_)::_,h=>⟨h.1,Hp.of h2 h.2⟩
theorem yh.of{ops:Array cy}{L:Ls}{ev ED:bH→aj}(hk:∀i d,dV ops i=some d→L i=false→ED (.tmp d)=ev (.tmp d)):∀ {late:List (Nat × kr × aj)},Jw ops ev late→yh L ED late
 |[],_=>trivial
 |(_,_,_)::_,h=>⟨fun e=>(hk _ _ h.1.1 e).trans h.1.2,yh.of hk h.2⟩
def Post(L:Ls)(ops:Array cy)(ev:bH→aj)(Vs:List Pred)(S:Ls→ar→Prop)(i:Nat)(o:cy)(w:ar)(v:aj)(w':ar):Prop:=
 fJ Vs i (match o.dst with|some _=>v|none=>af) (fU ops ev o.after.toList) w'∧(az w.heap.size w w'∨(S (upd L i) w'∧∀k u ds,k≠i→L k=true→fJ Vs k u ds w→fJ Vs k u ds w'))
theorem yv{P:aI}{L:Ls}{ops:Array cy}{Vs:List Pred}{S:Ls→ar→Prop}{o:cy}{ev:bH→aj}{w:ar}{i:Nat}{v:aj}(he:(bY ev o).run P w=.ok (.value v) w)(hp:fJ Vs i (match o.dst with|some _=>v|none=>af) (fU ops ev o.after.toList) w):Yields P o ev w (Post L ops ev Vs S i o w):=.value he ⟨hp,.inl (aw _ _)⟩
theorem sV{S:Ls→ar→Prop}{x:aj}:∀(u:aj) (ds:List aj) (L:Ls) (w w':ar),S L w→pV x u ds w→az w.heap.size w w'→pV x u ds w':=fun _ _ _ _ _ _ h _=>h
theorem sC{S:Ls→ar→Prop}{c:Bool}{x:aj}:∀(u:aj) (ds:List aj) (L:Ls) (w w':ar),S L w→pC c x u ds w→az w.heap.size w w'→pC c x u ds w':=fun _ _ _ _ _ _ h _=>h
def Mm(Y:lM)(ops:Array cy)(Vs:List Pred)(S:Ls→ar→Prop)(base:List (kr × aj))(late:List (Nat × kr × aj))(i:Nat)(o:cy):Prop:=
 ∀(L:Ls) (ev:bH→aj) (w:ar),(∀t,needs ops i t=true→L t=false)→L i=false→S L w→(∀v,ev (.const v)=v)→(∀g,ev (.global g)=.pointer (some ⟨g,0,none⟩))→(∀f,ev (.func f)=.func (.func f) #[] #[])→Hp L ev late base→Fg ops Vs ev w o.after.toList→
  match o.guard with
  |none=>Y o ev w (Post L ops ev Vs S i o w)
  |some (j,b)=>(∃r,iP (dV ops j) ev=.bool r)∧∀r,iP (dV ops j) ev=.bool r→if r=b then Y o ev w (Post L ops ev Vs S i o w) else Post L ops ev Vs S i o w af w
def Each(Y:lM)(ops:Array cy)(Vs:List Pred)(S:Ls→ar→Prop)(base:List (kr × aj))(late:List (Nat × kr × aj)):Nat→List cy→Prop
 |_,[]=>True
 |i,o::l=>Mm Y ops Vs S base late i o∧Each Y ops Vs S base late (i+1) l
def jl(S:Ls→ar→Prop):List Pred→Prop
 |[]=>True
 |V::l=>(∀u ds L w w',S L w→V u ds w→az w.heap.size w w'→V u ds w')∧jl S l
section
variable{P:aI}{ops:Array cy}{Q:Exit→je→ar→Prop}{Vs:List Pred}{S:Ls→ar→Prop}{base:List (kr × aj)}{late:List (Nat × kr × aj)}{n:Nat}
theorem Each.get{Y:lM}{i:Nat}{l:List cy}(h:Each Y ops Vs S base late i l){j:Nat}{o:cy}(hj:l[j]?=some o):Mm Y ops Vs S base late (i+j) o:=by
 induction l generalizing i j with
 |nil=>simp at hj
 |cons x l ih=>
  cases j with
  |zero=>simp at hj;subst hj;exact h.1
  |succ j=>have:=ih h.2 (j:=j) (by simpa using hj);rwa [np,Nat.add_comm 1 j] at this
theorem jl.get(h:jl S Vs)(i:Nat){L:Ls}{u:aj}{ds:List aj}{w w':ar}(hS:S L w)(hb:az w.heap.size w w')(hv:fJ Vs i u ds w):fJ Vs i u ds w':=by
 induction Vs generalizing i with
 |nil=>trivial
 |cons V l ih=>
  cases i with
  |zero=>exact h.1 u ds L w w' hS hv hb
  |succ i=>exact ih h.2 i hv
structure ja(ops:Array cy)(Vs:List Pred)(S:Ls→ar→Prop)(a0:je)(L:Array Bool)(a:je)(w:ar):Prop where
 ue:L.size=ops.size
 size:a.tmps.size=a0.tmps.size
 defers:a.defers=a0.defers
 s:S (fun t=>L.getD t false) w
 keep:∀t,(∀o∈ops.toList,o.dst≠some t)→a.eval (.tmp t)=a0.eval (.tmp t)
 late:∀i d,dV ops i=some d→L.getD i false=false→a.eval (.tmp d)=a0.eval (.tmp d)
 closed:∀i e,L.getD i false=true→e∈fL ops i→fe .any e=true→L.getD e.on false=true
 vals:∀i,L.getD i false=true→fJ Vs i (iP (dV ops i) a.eval) (fU ops a.eval (fL ops i)) w
theorem zT{Y:lM}{ni:Nat→(je→ar→Prop)→je→ar→Prop}
  (hs1:∀i o K a w R,ops[i]?=some o→cC o (jP ops a.tmps)=true→Y o a.eval w R→(∀v w',R v w'→K (a.put o.dst v) w')→ni i K a w)
  (hs2:∀i o K a w,ops[i]?=some o→¬cC o (jP ops a.tmps)=true→K (a.put o.dst af) w→ni i K a w)
  (cN:jf ops n base=true) (Ev:jl S Vs) (Mh:∀(L L':Ls) w w',(∀t,L' t=false→L t=false)→S L w→az w.heap.size w w'→S L' w') (a0:je) (hn:a0.tmps.size=n) (hbase:gH a0.eval base) (hlate:Jw ops a0.eval late) (hE:Each Y ops Vs S base late 0 ops.toList)
  (hQ:∀a w,ja ops Vs S a0 (aV ops.size true) a w→Q .normal a w) :
  ∀fuel (L:Array Bool) (a:je) (w:ar),L.toList.countP (!·)≤fuel→ja ops Vs S a0 L a w→anyOf ni ops Q fuel L a w:=by
 have agy:∀(L:Array Bool) (a:je) (w:ar),iN .any ops L=[]→ja ops Vs S a0 L a w→S (fun t=>(aV ops.size true).getD t false) w:=fun L a w hr h=>
  Mh _ _ w w (fun t ht=>by
   by_cases hlt:t<ops.size
   ·simp[ek,hlt] at ht
   ·have:¬t<L.size:=by have:=h.ue;omega
    simp[ek,this]) h.s (aw _ _)
 have fin:∀(L:Array Bool) (a:je) (w:ar),iN .any ops L=[]→ja ops Vs S a0 L a w→Q .normal a w:=fun L a w hr h=>
  hQ a w ⟨by simp,h.size,h.defers,agy L a w hr h,h.keep,fun i d hd hi=>by
   by_cases hlt:i<ops.size
   ·simp[ek,hlt] at hi
   ·unfold dV at hd;rw[fg (by omega)] at hd;simp at hd,fun i e hi he hb=>by
   have hlt:e.on<ops.size:=LV cN he hb;simp[ek,hlt],fun i hi=>by
   by_cases hlt:i<ops.size
   ·exact h.vals i (ready_nil cN h.ue hr i hlt)
   ·simp[ek,hlt] at hi⟩
 intro fuel
 induction fuel with
 |zero=>
  intro L a w hc h
  have hr:iN .any ops L=[]:=by
   apply List.eq_nil_iff_forall_not_mem.2;intro i hi;unfold iN at hi;rw[jd,bt] at hi;obtain⟨hi,h2⟩:=hi;have vg:i<L.size:=by have:=h.ue;omega
   simp[ek,vg] at h2;have h0:=List.countP_eq_zero.1 (Nat.le_zero.1 hc) L[i] (by simp);simp[h2.1] at h0
  exact⟨hr,fin L a w hr h⟩
 |succ fuel ih=>
  intro L a w hc h;refine⟨fun hr=>fin L a w hr h,fun i hi=>?_⟩;have hi':=hi;unfold iN at hi';rw[jd,bt] at hi';obtain⟨hlt,h2⟩:=hi';have vg:i<L.size:=by have:=h.ue;omega
  have wb:ops[i]?=some ops[i]:=aM hlt;generalize ops[i]=o at wb;rw[wb] at h2;simp only[aD,Bool.not_eq_true',dI,Option.getD_some,Array.all_eq_true] at h2;obtain⟨TF,Tx⟩:=h2
  have Zi:o∈ops.toList:=by
   have:=eL wb;simpa using this
  have rC:=cN;unfold jf at rC;rw[aD,aU,aU] at rC;have Cp:=rC.1 i (bt.2 hlt);rw[wb] at Cp;simp only[aD] at Cp;obtain⟨⟨ZN,ux⟩,Zp⟩:=Cp
  have TH:Fg ops Vs a.eval w o.after.toList:=Fg.of fun e he hb=>by
   obtain⟨k,hk,rfl⟩:=jo he;have:=Tx k (by simpa using hk);simp only[qL] at hb ⊢;rw[hb] at this;simp only[CL,Bool.false_or] at this;exact h.vals _ this
  have hBs:gH a.eval base:=hbase.congr fun p hp=>h.keep _ fun o' Zg hd=>by
   obtain⟨k,hk,rfl⟩:=jo Zg;have qH:k<ops.size:=by simpa using hk
   have h3:=rC.1 k (bt.2 qH);rw[aM qH] at h3;simp only[qL] at hd;simp only[aD,hd] at h3;have:=aU.1 h3.1.2.1.2 p hp;simp at this
  have adj:(fun t=>L.getD t false) i=false:=by
   simp[ek,vg] at TF ⊢;exact TF
  have acK:∀t,needs ops i t=true→L.getD t false=false:=fun t ht=>by
   cases hq:L.getD t false with
   |false=>rfl
   |true=>
    unfold needs at ht;obtain⟨e,he,h8⟩:=List.any_eq_true.1 ht;rw[aD,decide_eq_true_eq] at h8;have h9:=h.closed t e hq he h8.1;rw[h8.2] at h9;have h10:L.getD i false=false:=adj;rw[h10] at h9;cases h9
  have hO:=hE.get (j:=i) (o:=o) (by simpa using wb) (fun t=>L.getD t false) a.eval w (by rw[cJ];exact acK) (by rw[cJ];exact adj) h.s (fun _=>rfl) (fun _=>rfl) (fun _=>rfl) (Hp.of (yh.of (fun k d hd hk=>h.late k d hd hk) hlate) hBs) TH;rw[cJ] at hO;have hao:fL ops i=o.after.toList:=by unfold fL;rw[wb]
  have KN:∀e∈o.after.toList,fe .any e=true→L.getD e.on false=true:=fun e he hb=>by
   obtain⟨k,hk,rfl⟩:=jo he;have:=Tx k (by simpa using hk);simp only[qL] at hb ⊢;rw[hb] at this;simpa using this
  have hne:∀k,L.getD k false=true→k≠i∧k<ops.size:=fun k hk=>by
   refine⟨fun e=>?_,?_⟩
   ·subst e;simp[ek,vg] at TF hk;rw[TF] at hk;cases hk
   ·rcases Nat.lt_or_ge k ops.size with h5|h5
    ·exact h5
    ·have:¬k<L.size:=by have:=h.ue;omega
     simp[ek,this] at hk
  have next:∀v w',Post (fun t=>L.getD t false) ops a.eval Vs S i o w v w'→anyOf ni ops Q fuel (L.setIfInBounds i true) (a.put o.dst v) w':=fun v w' hp=>by
   have hval:∀k,L.getD k false=true→iP (dV ops k) (a.put o.dst v).eval=iP (dV ops k) a.eval:=fun k qH=>by
    obtain⟨zW,xI⟩:=hne k qH;cases Me:dV ops k with
    |none=>rfl
    |some d=>
     refine s5 _ _ _ _ fun XP=>?_;rcases Nat.lt_trichotomy k i with h5|h5|h5
     ·rw[XP] at ux;simp only[aD,decide_eq_true_eq] at ux;have:=aU.1 ux.2 k (bt.2 h5);simp[Me] at this
     ·exact zW h5
     ·have h6:=rC.1 k (bt.2 xI);rw[aM xI] at h6
      have h7:(ops[k]).dst=some d:=by
       unfold dV at Me;rw[aM xI] at Me;simpa using Me
      simp only[aD,h7] at h6;have:=aU.1 h6.1.2.2 i (bt.2 h5);unfold dV at this;rw[wb] at this;simp[XP] at this
   have uv:∀k,L.getD k false=true→(L.setIfInBounds i true).getD k false=true:=fun k hk=>by
    have:=(hne k hk).1;simpa [aW,bA,Bc this] using hk
   have hback:∀k,k≠i→(L.setIfInBounds i true).getD k false=true→L.getD k false=true:=fun k zW hk=>by
    simpa [aW,bA,Bc zW] using hk
   refine ih _ _ _ ?_ ⟨by simp[h.ue],by rw[yJ,h.size],by rw[put_defers,h.defers],?_,fun t ht=>?_,fun k d hd hk=>?_,fun k e hk he hb=>?_,fun k hk=>?_⟩
   ·have hLv:L[i]=false:=by simpa [ek,vg] using TF
    have h4:(L.setIfInBounds i true).toList.countP (!·)=L.toList.countP (!·)-1:=by
     rw[Array.toList_setIfInBounds,List.countP_set (by simpa using vg)];simp[hLv]
    omega
   ·have hup:(fun t=>(L.setIfInBounds i true).getD t false)=upd (fun t=>L.getD t false) i:=by
     funext t
     unfold upd
     by_cases ht:t=i
     ·subst ht;simp[aW,bA,vg]
     ·simp[aW,bA,Bc ht,ht]
    rw[hup]
    exact hp.2.elim (fun hb=>Mh _ _ _ _ (fun t ht=>by
     unfold upd at ht;split at ht
     ·cases ht
     ·exact ht) h.s hb) fun hs=>hs.1
   ·rw[s5 _ _ _ _ (ht o Zi)];exact h.keep t ht
   ·have zW:k≠i:=by
     rintro rfl;simp[aW,bA,vg] at hk
    have hkL:L.getD k false=false:=by
     simpa [aW,bA,Bc zW] using hk
    have xI:k<ops.size:=by
     rcases Nat.lt_or_ge k ops.size with h5|h5
     ·exact h5
     ·unfold dV at hd;rw[fg h5] at hd;simp at hd
    rw[s5 _ _ _ _ fun XP=>?_]
    ·exact h.late k d hd hkL
    ·rcases Nat.lt_trichotomy k i with h5|h5|h5
     ·rw[XP] at ux;simp only[aD,decide_eq_true_eq] at ux;have:=aU.1 ux.2 k (bt.2 h5);simp[hd] at this
     ·exact zW h5
     ·have h6:=rC.1 k (bt.2 xI);rw[aM xI] at h6
      have h7:(ops[k]).dst=some d:=by
       unfold dV at hd;rw[aM xI] at hd;simpa using hd
      simp only[aD,h7] at h6;have:=aU.1 h6.1.2.2 i (bt.2 h5);unfold dV at this;rw[wb] at this;simp[XP] at this
   ·by_cases zW:k=i
    ·subst zW;rw[hao] at he;exact uv _ (KN e he hb)
    ·exact uv _ (h.closed k e (hback k zW hk) he hb)
   ·by_cases zW:k=i
    ·subst zW
     have hdd:fU ops (a.put o.dst v).eval (fL ops k)=fU ops a.eval o.after.toList:=by
      rw[hao];exact pG fun e he hb=>hval _ (KN e he hb)
     rw[hdd];have:=hp.1;unfold dV iP;rw[wb];simp only[gg];cases hd:o.dst with
     |none=>rw[hd] at this;exact this
     |some d=>
      rw[hd] at this ux;simp only[aD,decide_eq_true_eq] at ux;have h9:=put_eq a d v (by rw[h.size,hn];exact ux.1.1);simp only[] at this ⊢;rw[h9];exact this
    ·have qH:=hback k zW hk;have Y2:=h.vals k qH;have hdd:fU ops (a.put o.dst v).eval (fL ops k)=fU ops a.eval (fL ops k):=pG fun e he hb=>hval _ (h.closed k e qH he hb);rw[hval k qH,hdd];exact hp.2.elim (fun hb=>Ev.get k h.s hb Y2) fun hs=>hs.2 k _ _ zW qH Y2
  cases hg:o.guard with
  |none=>
   rw[hg] at hO;exact hs1 i o _ a w _ wb (by simp[cC,hg]) hO next
  |some jb=>
   obtain⟨j,b⟩:=jb;rw[hg] at hO;obtain⟨⟨r,hr⟩,hO⟩:=hO;have hO:=hO r hr
   have hy:jP ops a.tmps j=some r:=by
    unfold jP;unfold iP at hr;unfold dV at hr;cases hd:(ops[j]?).bind (·.dst) with
    |none=>rw[hd] at hr;simp[af] at hr
    |some d=>
     rw[hd] at hr;simp only[gg]
     have h8:a.tmps[d]?=some (.bool r):=by
      unfold Act.eval at hr;simp only[] at hr
      by_cases Cq:d<a.tmps.size
      ·simp[ek,Cq] at hr;rw[aM Cq,hr]
      ·simp[ek,Cq,af] at hr
     rw[h8]
   by_cases hrb:r=b
   ·rw[if_pos hrb] at hO;exact hs1 i o _ a w _ wb (by simp[cC,hg,hy,hrb]) hO next
   ·rw[if_neg hrb] at hO;exact hs2 i o _ a w wb (by simp[cC,hg,hy,hrb]) (next _ _ hO)
theorem xo{a0:je}{w:ar}(hS:S (fun t=>(aV ops.size false).getD t false) w):ja ops Vs S a0 (aV ops.size false) a0 w:=⟨by simp,rfl,rfl,hS,fun _ _=>rfl,fun _ _ _ _=>rfl,fun i e hi _ _=>by
  simp[aW,qG] at hi;split at hi<;>simp at hi,fun i hi=>by
  simp[aW,qG] at hi
  split at hi<;>simp at hi⟩
theorem vq:(aV ops.size false).toList.countP (!·)≤ops.size:=by simpa using xe (p:=(!·)) (l:=List.replicate ops.size false)
theorem uK{id:Nat}{a0:je}{w:ar}(hm:P.follows .mixedOrders=true)(Vs:List Pred)(S:Ls→ar→Prop)(base:List (kr × aj))(cN:jf ops a0.tmps.size base=true)(Ev:jl S Vs)(Mh:∀(L L':Ls) w w',(∀t,L' t=false→L t=false)→S L w→az w.heap.size w w'→S L' w')
  (hS:S (fun _=>false) w.drew) (hbase:gH a0.eval base) (hlate:Jw ops a0.eval late) (hE:Each (Yields P) ops Vs S base late 0 ops.toList) (hQ:∀a w,ja ops Vs S a0 (aV ops.size true) a w→Q .normal a w):(Code.region id ops true).wp P Q a0 w:=
 wp_region_any hm (by
  rw[Dc]
  exact zT (Y:=Yields P) (fun i o K a w R ho hw hy hk=>wpOp_step ho fun K' hK=>by rw[if_pos hw];exact hy.wp fun v w' hv=>hK _ _ (hk v w' hv))
   (fun i o K a w ho hw hk=>wpOp_step ho fun K' hK=>by rw[if_neg hw];exact hK _ _ hk) cN Ev Mh a0 rfl hbase hlate hE hQ ops.size _ a0 _ vq (xo (by
   have e:(fun t=>(aV ops.size false).getD t false)=fun _=>false:=by
    funext t
    simp[aW,qG];split<;>simp
   rw[e];exact hS)))
theorem bQ{id:Nat}{a0:je}{w:ar}(hm:P.follows .mixedOrders=true)(Vs:List Pred)(S:Ls→ar→Prop)(base:List (kr × aj))(cN:jf ops a0.tmps.size base=true)(Ev:jl S Vs)(Mh:∀(L L':Ls) w w',(∀t,L' t=false→L t=false)→S L w→az w.heap.size w w'→S L' w')
  (hS:S (fun _=>false) w.drew) (hbase:gH a0.eval base) (hE:Each (Yields P) ops Vs S base [] 0 ops.toList) (hQ:∀a w,ja ops Vs S a0 (aV ops.size true) a w→Q .normal a w):(Code.region id ops true).wp P Q a0 w:=
 uK (late:=[]) hm Vs S base cN Ev Mh hS hbase trivial hE hQ
theorem ja.kept{a0 a:je}{L:Array Bool}{w:ar}(h:ja ops Vs S a0 L a w){t:kr}(hk:keeps ops t=true):a.tmps.getD t af=a0.tmps.getD t undef:=
 h.keep t fun o ho=>by
  have:=aU.1 hk o ho;simpa using this
theorem ja.kp{a0 a:je}{L:Array Bool}{w:ar}(h:ja ops Vs S a0 L a w)(t:kr)(hk:keeps ops t=true):a.tmps.getD t af=a0.tmps.getD t undef:=h.kept hk
theorem ja.val{a0 a:je}{w:ar}(h:ja ops Vs S a0 (aV ops.size true) a w)(i:Nat)(hi:i<ops.size):fJ Vs i (iP (dV ops i) a.eval) (fU ops a.eval (fL ops i)) w:=h.vals i (by simp[ek,hi])
theorem ja.act{a0 a:je}{L:Array Bool}{w:ar}(h:ja ops Vs S a0 L a w):a=⟨((aT a0.tmps.size).map fun t=>a.tmps.getD t af).toArray,a0.defers⟩:=by
 have h1:=h.size;have h2:=h.defers;obtain⟨tm,df⟩:=a;simp only[] at h1 h2;subst h2;rw[←h1]
 congr 1
 apply Array.ext
 ·simp
 ·intro i h1 h2;simp[ek,h1]
theorem ja.lits{a0 a:je}{L:Array Bool}{w:ar}(h:ja ops Vs S a0 L a w)(n:Nat)(hn:a0.tmps.size=n):a=⟨((aT n).map fun t=>a.tmps.getD t af).toArray,a0.defers⟩:=hn▸h.act
end
end Ph
def Mj(c:Bool)(v:aj):Value:=if c then v else af
theorem ye{x:Bool}:((.bool x:aj)=.bool true)↔x=true:=by simp
theorem lS{x:Bool}:((.bool x:aj)=.bool false)↔(!x)=true:=by cases x<;>simp
end Go.Lag
namespace Go.RowKit
theorem Below.tr{w W W':ar}(h:az w.heap.size w W)(ho:az W.heap.size W W'):az w.heap.size w W':=h.trans (ho.mono h.size)
end Go.RowKit
namespace Go.Lag
open Go Go.RowKit
theorem aL{W W':ar}{B:Nat}{o:Obj}(h:W.heap[B]?=some o)(ho:az W.heap.size W W'):W'.heap[B]?=some o:=(ho.block _ (ak.1 h).1).trans h
section
variable{P:aI}{ops:Array cy}{Q:Exit→je→ar→Prop}{n:Nat}
theorem mL{id:Nat}{y:Code}{a0:je}{W:ar}(Vs:List Pred)(base:List (kr × aj))(cN:jf ops n base=true)(hn:a0.tmps.size=n)(hbase:gH a0.eval base)(Ev:jl (fun w=>az W.heap.size W w) Vs)
  (hE:Gd.Each (Yields P) ops Vs (fun w=>az W.heap.size W w) base 0 ops.toList) (hy:∀a w,ja ops Vs (fun w=>az W.heap.size W w) a0 (aV ops.size true) a w→y.wp P Q a w):(Code.seq (.region id ops false) y).wp P Q a0 W:=
 wp_seq (Gd.Hs Vs (fun w=>az W.heap.size W w) base cN hn Ev (fun _ _ h hb=>h.trans (hb.mono h.size)) (aw _ _) hbase hE fun a w h=>hy a w h)
theorem T7(hm:P.follows .mixedOrders=true){id:Nat}{y:Code}{a0:je}{W:ar}(Vs:List Pred)(base:List (kr × aj))(cN:jf ops n base=true)(hn:a0.tmps.size=n)(hbase:gH a0.eval base)(Ev:jl (fun w=>az W.heap.size W w) Vs)
  (hE:Gd.Each (Yields P) ops Vs (fun w=>az W.heap.size W w) base 0 ops.toList) (hy:∀a w,ja ops Vs (fun w=>az W.heap.size W w) a0 (aV ops.size true) a w→y.wp P Q a w):(Code.seq (.region id ops true) y).wp P Q a0 W:=
 wp_seq (Gd.bQ hm Vs (fun w=>az W.heap.size W w) base (by rw[hn];exact cN) Ev (fun _ _ h hb=>h.trans (hb.mono h.size)) (aw _ _).drew hbase hE fun a w h=>hy a w h)
theorem adI(hm:P.follows .mixedOrders=true){id:Nat}{a0:je}{W:ar}(Vs:List Pred)(base:List (kr × aj))(cN:jf ops n base=true)(hn:a0.tmps.size=n)(hbase:gH a0.eval base)(Ev:jl (fun w=>az W.heap.size W w) Vs)
  (hE:Gd.Each (Yields P) ops Vs (fun w=>az W.heap.size W w) base 0 ops.toList) (hy:∀a w,ja ops Vs (fun w=>az W.heap.size W w) a0 (aV ops.size true) a w→Q .normal a w):(Code.region id ops true).wp P Q a0 W:=
 Gd.bQ hm Vs (fun w=>az W.heap.size W w) base (by rw[hn];exact cN) Ev (fun _ _ h hb=>h.trans (hb.mono h.size)) (aw _ _).drew hbase hE fun a w h=>hy a w h
theorem Ph.ja.fr{Vs:List Pred}{S:Ph.Ls→ar→Prop}{a0 a:je}{L:Array Bool}{w:ar}{n:Nat}{l:List (kr × aj)}(h:Ph.ja ops Vs S a0 L a w)(h0:jg n a0 l)(hk:(l.all fun p=>keeps ops p.1)=true):jg n a l:=
 ⟨h.size.trans h0.size,h.defers.trans h0.defers,h0.base.congr fun p hp=>h.keep p.1 fun o ho=>by
  have h1:=aU.1 hk p hp;have:=aU.1 h1 o ho
  simpa using this⟩
theorem nw{args:Array aj}{k t:Nat}{v:aj}(h:args[t]?=some v):(⟨args++aV k af,[]⟩:je).eval (.tmp t)=v:=by
 have hl:=(ak.1 h).1;unfold Act.eval;simp only[aW];rw[Array.getElem?_append_left hl,h];rfl
theorem kY{args:Array aj}{n:Nat}(hn:args.size≤n)(l:List (kr × aj))(h:gH (⟨args++aV (n-args.size) af,[]⟩:je).eval l):jg n ⟨args++aV (n-args.size) af,[]⟩ l:=⟨by simp;omega,rfl,h⟩
end
def look(P:aI)(cs:Array aj){α:Type}:Sem α→Option (α × List Nat)
 |.pure a=>some (a,[])
 |.program k=>look P cs (k P)
 |.load _ a k=>match a.spot,cs[a.off]? with
  |none,some v=>match look P cs (k v) with
   |some (x,l)=>some (x,a.block::l)
   |none=>none
  |_,_=>none
 |_=>none
theorem m5{P:aI}{cs:Array aj}{α:Type}{w:ar}{s:Sem α}:∀ {a:α} {l:List Nat},look P cs s=some (a,l)→(∀b∈l,∃ty fr,w.heap[b]?=some (.cells cs ty fr))→s.run P w=.ok a w:=by
 induction s with
 |pure x=>intro a l h _;cases h;rfl
 |program k ih=>intro a l h hB;exact ih P h hB
 |load m ad k ih=>
  intro a l h hB;unfold look at h;cases hs:ad.spot with
  |some _=>rw[hs] at h;simp at h
  |none=>
   cases hc:cs[ad.off]? with
   |none=>rw[hs,hc] at h;simp at h
   |some v=>
    rw[hs,hc] at h;simp only[] at h;cases hk:look P cs (k v) with
    |none=>rw[hk] at h;simp at h
    |some x=>
     rw[hk] at h;obtain⟨x,l'⟩:=x;cases h
     have h1:w.cell? ad=some v:=by
      obtain⟨ty,fr,hb⟩:=hB ad.block (by simp);unfold dH;rw[hb,hs];exact hc
     unfold Sem.run;rw[h1];exact ih v hk fun b hb=>hB b (bz _ hb)
 |_=>intro a l h _;cases h
def ud:Op→Option (List bH)
 |.move x|.assign x|.box _ x|.load _ x|.unOp _ _ x|.convert _ _ x|.fieldAddr _ x _|.field _ x _|.extract x _|.nilCheck x|.makeInterface _ x=>some [x]
 |.binOp _ _ x y _|.indexAddr _ x y|.index _ x y|.lookup _ x y _=>some [x,y]
 |.build _ ps|.buildSlice _ _ ps=>some (ps.toList.map (·.2))
 |.alloc _=>some []
 |.store _ x y|.makeSlice _ x y=>some [x,y]
 |.mapUpdate _ x y z=>some [x,y,z]
 |.slice _ x lo hi mx=>some (x::(lo.toList++(hi.toList++mx.toList)))
 |.makeFunc _ xs ys=>some (xs.toList++ys.toList)
 |.call c=>match c.callee with
  |.value f=>some (f::c.args.toList)
  |.builtin _=>some c.args.toList
  |_=>none
 |_=>none
theorem map_congr{α:Type}{f g:bH→α}{xs:Array bH}(h:∀x∈xs.toList,f x=g x):xs.map f=xs.map g:=by
 apply Array.ext';rw[vC,vC];exact nG h
theorem xq{α:Type}{f g:bH→α}{xs:Option bH}(h:∀x∈xs.toList,f x=g x):xs.map f=xs.map g:=by
 cases xs with
 |none=>rfl
 |some x=>simp[h x (by simp)]
theorem execOp_congr{o:cy}{ev ED:bH→aj}{l:List bH}(hl:ud o.op=some l)(h:∀x∈l,ev x=ED x):bY ev o=bY ED o:=by
 unfold bY;cases ho:o.op<;>rw[ho] at hl<;>simp only[ud] at hl<;>try (cases hl;done)
 case call c=>
  cases hc:c.callee<;>rw[hc] at hl<;>simp only[] at hl<;>try (cases hl;done)
  ·cases hl;have h1:c.args.map ev=c.args.map ED:=map_congr fun x hx=>h x (bz _ hx);simp only[resolve,hc,h1,h _ (dw ..)]
  ·cases hl;have h1:c.args.map ev=c.args.map ED:=map_congr h;simp only[resolve,hc,h1]
 case build t ps=>
  cases hl
  have h1:(ps.map fun(x:Nat × bH)=>(x.1,ev x.2))=ps.map fun x=>(x.1,ED x.2):=by
   apply Array.ext';rw[vC,vC];exact nG fun x hx=>by rw[h x.2 (cY.2 ⟨x,hx,rfl⟩)]
  simp only[h1]
 case buildSlice t k ps=>
  cases hl
  have h1:(ps.map fun(x:Nat × bH)=>(x.1,ev x.2))=ps.map fun x=>(x.1,ED x.2):=by
   apply Array.ext';rw[vC,vC];exact nG fun x hx=>by rw[h x.2 (cY.2 ⟨x,hx,rfl⟩)]
  simp only[h1]
 case slice t x lo hi mx=>
  cases hl;have h1:lo.map ev=lo.map ED:=xq fun x hx=>h x (by simp[hx]);have h2:hi.map ev=hi.map ED:=xq fun x hx=>h x (by simp[hx]);have h3:mx.map ev=mx.map ED:=xq fun x hx=>h x (by simp[hx]);simp only[h1,h2,h3,h x (by simp)]
 case makeFunc fn xs ys=>
  cases hl;have h1:xs.map ev=xs.map ED:=map_congr fun x hx=>h x (by simp at hx ⊢;exact .inl hx);have h2:ys.map ev=ys.map ED:=map_congr fun x hx=>h x (by simp at hx ⊢;exact .inr hx);simp only[h1,h2]
 all_goals
  cases hl
  first
   |rfl
   |(simp only[h _ (dw ..)];done)
   |(simp only[h _ (dw ..),h _ (bz _ (dw ..))];done)
   |(simp only[h _ (dw ..),h _ (bz _ (dw ..)),h _ (bz _ (bz _ (dw ..)))];done)
structure Cf where
 lits:List (Nat × Bool)
 hs:List (Nat × aj)
 mem:List (Nat × Array aj)
 lds:List (Nat × Nat)
def lQ{β:Type}:List (Nat × β)→Nat→Option β
 |[],_=>none
 |p::l,i=>bif Nat.beq p.1 i then some p.2 else lQ l i
theorem zg{β:Type}:∀ {l:List (Nat × β)} {i:Nat} {v:β},lQ l i=some v→(i,v)∈l
 |p::l,i,v,h=>by
  unfold lQ at h;cases hb:Nat.beq p.1 i with
  |true=>
   rw[hb] at h;have:=gU hb;cases h;obtain⟨a,b⟩:=p;cases this;exact dw ..
  |false=>rw[hb] at h;exact bz _ (zg h)
abbrev En:=List (Nat × Bool) × aj × List Nat
def eqT:Option Nat→Nat→Bool
 |some d,t=>Nat.beq d t
 |none,_=>false
def wK(ops:Array cy):List Edge→kr→Option Nat
 |[],_=>none
 |e::l,t=>bif fe .any e&&eqT (dV ops e.on) t then some e.on else wK ops l t
theorem xk{ops:Array cy}{t j:Nat}:∀ {l:List Edge},wK ops l t=some j→∃e∈l,e.on=j∧fe .any e=true∧dV ops j=some t
 |e::l,h=>by
  unfold wK at h;cases hb:(fe .any e&&eqT (dV ops e.on) t) with
  |true=>
   rw[hb] at h;cases h;rw[aD] at hb;refine⟨e,dw ..,rfl,hb.1,?_⟩;have:=hb.2;cases hd:dV ops e.on with
   |none=>rw[hd] at this;cases this
   |some d=>rw[hd] at this;rw[gU this]
  |false=>
   rw[hb] at h;obtain⟨e',he,h1⟩:=xk h;exact⟨e',bz _ he,h1⟩
def M7:aj→Bool→Bool
 |.bool true,b=>b
 |.bool false,b=>!b
 |_,_=>false
theorem n4{v:aj}{b:Bool}:M7 v b=true↔v=.bool b:=by
 unfold M7;cases v<;>try simp
 rename_i x;cases x<;>cases b<;>simp
def bools:aj→aj→aj→aj
 |.bool t,.bool x,.bool y=>.bool (bif t then x else y)
 |_,_,_=>af
def isBool:aj→Bool
 |.bool _=>true
 |_=>false
def subs(a b:List (Nat × Bool)):Bool:=a.all fun p=>b.any fun q=>Nat.beq p.1 q.1&&(p.2==q.2)
section
variable(P:aI)(ops:Array cy)(base:List (kr × aj))(C:Cf)
def opAt(i:Nat):Oper:=(ops.toList).getD i default
def BX(st:Nat→En)(l:List Edge):bH→aj
 |.const v=>v
 |.global g=>.pointer (some ⟨g,0,none⟩)
 |.func f=>.func (.func f) #[] #[]
 |.tmp t=>match wK ops l t with
  |some j=>(st j).2.1
  |none=>(lQ base t).getD af
def uW(st:Nat→En)(l:List Edge)(ch:List (Nat × Bool)):bH→Bool
 |.tmp t=>match wK ops l t with
  |some j=>subs (st j).1 ch
  |none=>(lQ base t).isSome
 |_=>true
def O7(st:Nat→En)(o:cy):Option (List (Nat × Bool)):=
 match o.guard with
 |none=>some []
 |some (j,b)=>match lQ C.lits j with
  |some b'=>bif b'==b then some (st j).1 else none
  |none=>some ((j,b)::(st j).1)
def SX(l:List Edge):bH→Option Bool
 |.tmp t=>(wK ops l t).bind (lQ C.lits)
 |_=>none
def Oe(l:List Edge)(c:bH)(b:Bool)(ch:List (Nat × Bool)):List (Nat × Bool):=
 match c with
 |.tmp t=>match wK ops l t with
  |some j=>(j,b)::ch
  |none=>ch
 |_=>ch
def qm(i:Nat):Option (Nat × Array aj):=C.mem[(lQ C.lds i).getD 0]?
def Ub(i:Nat):Array Value:=match qm C i with|some m=>m.2|none=>#[]
def Ea(st:Nat→En)(i:Nat)(o:cy):Option (Next × List Nat):=look P (Ub C i) (bY (BX ops base st o.after.toList) o)
def xi(st:Nat→En)(i:Nat)(o:cy):aj × List Nat:=
 match lQ C.hs i with
 |some v=>(v,[])
 |none=>match o.op with
  |.pick c a b=>(match SX ops C o.after.toList c with
   |some true=>BX ops base st o.after.toList a
   |some false=>BX ops base st o.after.toList b
   |none=>bools (BX ops base st o.after.toList c) (BX ops base st o.after.toList a) (BX ops base st o.after.toList b),[])
  |_=>match Ea P ops base C st i o with
   |some (.value v,bl)=>(v,bl)
   |_=>(af,[])
def uM(st:Nat→En)(i:Nat)(o:cy):En:=
 match O7 C st o with
 |none=>([],af,[])
 |some ch=>(ch,xi P ops base C st i o)
def E3:Nat→List cy→(Nat→En)→Nat→En
 |_,[],st=>st
 |i,o::l,st=>E3 (i+1) l fun k=>bif Nat.beq k i then uM P ops base C st i o else st k
def nC:Nat→En:=E3 P ops base C 0 ops.toList fun _=>([],af,[])
def okC(st:Nat→En)(i:Nat)(o:cy)(ch:List (Nat × Bool)):Bool:=
 match o.op with
 |.pick c a b=>(lQ C.hs i).isNone&&uW ops base st o.after.toList ch c&&(match SX ops C o.after.toList c with
  |some true=>M7 (BX ops base st o.after.toList c) true&&uW ops base st o.after.toList ch a
  |some false=>M7 (BX ops base st o.after.toList c) false&&uW ops base st o.after.toList ch b
  |none=>isBool (BX ops base st o.after.toList c)&&isBool (BX ops base st o.after.toList a)&&isBool (BX ops base st o.after.toList b) &&
   uW ops base st o.after.toList (Oe ops o.after.toList c true ch) a&&uW ops base st o.after.toList (Oe ops o.after.toList c false ch) b)
 |_=>(match ud o.op with
   |some l=>l.all (uW ops base st o.after.toList ch)
   |none=>false) &&
  (match lQ C.hs i with
  |some _=>true
  |none=>match Ea P ops base C st i o with
   |some (.value _,bl)=>(qm C i).isSome||bl.isEmpty
   |_=>false)
def Ug(st:Nat→En):Nat→List cy→Bool
 |_,[]=>true
 |i,o::l=>((match o.guard with
  |some (j,_)=>(dV ops j).isSome&&(match lQ C.lits j with|some b'=>M7 (st j).2.1 b'|none=>true)
  |none=>true)&&(match O7 C st o with
  |none=>true
  |some ch=>okC P ops base C st i o ch))&&Ug st (i+1) l
def ldL(st:Nat→En):Nat→List cy→List (List Nat)
 |_,[]=>[]
 |i,_::l=>(st i).2.2::ldL st (i+1) l
def ldR(st:Nat→En):Nat→List cy→List (List Nat)
 |_,[]=>[]
 |i,_::l=>((st i).2.2.map fun _=>((qm C i).map (·.1)).getD 0)::ldR st (i+1) l
def lL(st:Nat→En)(ch:List (Nat × Bool)):Bool:=ch.all fun p=>M7 (st p.1).2.1 p.2
def lZ(s:Sem Next)(w:ar)(v:aj):Prop:=
 match s.run P w with
 |.ok (.value u) w'=>u=v∧az w.heap.size w w'
 |.ok (.enter f args) w'=>w'=w∧bm P f args w fun e w''=>e=.returned v∧az w.heap.size w w''
 |_=>False
def L6(G:Nat→Sem Next→ar→aj→Prop)(S:ar→Prop)(st:Nat→En):List (Nat × aj)→Prop
 |[]=>True
 |p::l=>(∀w,S w→lL st (st p.1).1=true→G p.1 (bY (BX ops base st (opAt ops p.1).after.toList) (opAt ops p.1)) w p.2)∧L6 G S st l
def nE(S:ar→Prop):List (Nat × Array aj)→Prop
 |[]=>True
 |m::l=>(∀w,S w→∃ty fr,w.heap[m.1]?=some (.cells m.2 ty fr))∧nE S l
def wO(st:Nat→En)(i:Nat):Pred:=
 match dV ops i with
 |some _=>fun u _ _=>u=Mj (lL st (st i).1) (st i).2.1
 |none=>fun _ _ _=>True
def oX(st:Nat→En):List Pred:=(aT ops.size).map (wO ops st)
def VB(st:Nat→En)(t:kr):List cy→Nat→Option aj
 |[],_=>none
 |o::l,i=>bif eqT o.dst t then(match (st i).1 with|[]=>some (st i).2.1|_=>none) else VB st t l (i+1)
end
section
variable{P:aI}{ops:Array cy}{base:List (kr × aj)}{C:Cf}{n:Nat}{S:ar→Prop}{outs:List (kr × aj)}
theorem lZ.yields{o:cy}{ev:bH→aj}{w:ar}{v:aj}{R:aj→ar→Prop}(hg:lZ P (bY ev o) w v)(hR:∀w',az w.heap.size w w'→R v w'):Yields P o ev w R:=by
 unfold lZ at hg;unfold Yields;generalize (bY ev o).run P w=r at *;cases r with
 |halt x w'=>exact hg.elim
 |ok nx w'=>
  cases nx<;>simp only[] at hg<;>first|exact hg.elim|skip
  ·obtain⟨rfl,hb⟩:=hg;exact hR _ hb
  ·obtain⟨rfl,hc⟩:=hg;exact hc.mono (by rintro e w'' ⟨rfl,hb⟩;exact⟨_,rfl,hR _ hb⟩)
theorem L6.get{G:Nat→Sem Next→ar→aj→Prop}{st:Nat→En}:∀ {l:List (Nat × aj)} {p:Nat × aj},L6 ops base G S st l→p∈l→∀w,S w→lL st (st p.1).1=true→G p.1 (bY (BX ops base st (opAt ops p.1).after.toList) (opAt ops p.1)) w p.2
 |q::l,p,h,hp=>by
  rcases bR.1 hp with rfl|hp
  ·exact h.1
  ·exact L6.get h.2 hp
theorem nE.get:∀ {l:List (Nat × Array aj)} {m:Nat × Array aj},nE S l→m∈l→∀w,S w→∃ty fr,w.heap[m.1]?=some (.cells m.2 ty fr)
 |q::l,m,h,hp=>by
  rcases bR.1 hp with rfl|hp
  ·exact h.1
  ·exact nE.get h.2 hp
theorem E0:∀(l:List cy) (i:Nat) (st:Nat→En) (k:Nat),k<i→E3 P ops base C i l st k=st k
 |[],_,_,_,_=>rfl
 |o::l,i,st,k,h=>by
  unfold E3;rw[E0 l (i+1) _ k (by omega)]
  have:Nat.beq k i=false:=by
   cases hb:Nat.beq k i with
   |false=>rfl
   |true=>have:=gU hb;omega
  rw[this];rfl
theorem LJ:∀(l:List cy) (i:Nat) (st:Nat→En) (j:Nat) (o:cy),l[j]?=some o→∃Oo,E3 P ops base C i l st (i+j)=uM P ops base C Oo (i+j) o∧∀k,k<i+j→Oo k=E3 P ops base C i l st k
 |[],_,_,_,_,h=>by simp at h
 |x::l,i,st,j,o,h=>by
  unfold E3;cases j with
  |zero=>
   simp at h;subst h;refine⟨st,?_,fun k hk=>?_⟩
   ·simp only[Nat.add_zero];rw[E0 l (i+1) _ i (by omega)];have:Nat.beq i i=true:=Nat.beq_refl i;rw[this];rfl
   ·rw[E0 l (i+1) _ k (by omega)]
    have:Nat.beq k i=false:=by
     cases hb:Nat.beq k i with
     |false=>rfl
     |true=>have:=gU hb;omega
    rw[this];rfl
  |succ j=>
   have:=LJ l (i+1) (fun k=>bif Nat.beq k i then uM P ops base C st i x else st k) j o (by simpa using h);rwa [show i+1+j=i+(j+1) by omega] at this
theorem QY{st Oo:Nat→En}{l:List Edge}(h:∀e∈l,fe .any e=true→st e.on=Oo e.on):BX ops base st l=BX ops base Oo l:=by
 funext x
 cases x<;>try rfl
 rename_i t;unfold BX;cases hs:wK ops l t with
 |none=>simp only[hs]
 |some j=>
  obtain⟨e,he,h1,h2,-⟩:=xk hs;simp only[hs];rw[←h1,h e he h2]
theorem JX{st Oo:Nat→En}{i:Nat}{o:cy}(h:∀e∈o.after.toList,fe .any e=true→st e.on=Oo e.on)(hg:∀j b,o.guard=some (j,b)→st j=Oo j):uM P ops base C st i o=uM P ops base C Oo i o:=by
 have h1:=QY (ops:=ops) (base:=base) h
 have h2:O7 C st o=O7 C Oo o:=by
  unfold O7;cases hgd:o.guard with
  |none=>rfl
  |some jb=>obtain⟨j,b⟩:=jb;simp only[hg j b hgd]
 unfold uM xi Ea;rw[h1,h2]
theorem BS{o:cy}{i j:Nat}{b:Bool}(cN:jf ops n base=true)(ho:ops[i]?=some o)(hg:o.guard=some (j,b)):∃e∈o.after.toList,fe .any e=true∧e.on=j:=by
 have hi:i<ops.size:=(ak.1 ho).1;unfold jf at cN;rw[aD,aU] at cN;have h2:=cN.1 i (bt.2 hi);rw[ho] at h2;simp only[aD,hg] at h2;obtain⟨e,he,h3⟩:=List.any_eq_true.1 h2.2;rw[aD,decide_eq_true_eq] at h3;exact⟨e,he,h3⟩
theorem Rf(cN:jf ops n base=true){i:Nat}{o:cy}(ho:ops[i]?=some o):nC P ops base C i=uM P ops base C (nC P ops base C) i o:=by
 obtain⟨Oo,h1,h2⟩:=LJ (P:=P) (ops:=ops) (base:=base) (C:=C) ops.toList 0 (fun _=>([],af,[])) i o (by simpa using ho);rw[cJ] at h1 h2;unfold nC;rw[h1];refine JX (fun e he hb=>h2 _ (Gd.qd cN ho he hb)) fun j b hg=>?_;obtain⟨e,he,hb,rfl⟩:=BS cN ho hg;exact h2 _ (Gd.qd cN ho he hb)
theorem Vj{st:Nat→En}{i:Nat}{o:cy}(Qz:∀c a b,o.op≠.pick c a b)(Az:lQ C.hs i=none):xi P ops base C st i o=match Ea P ops base C st i o with|some (.value v,bl)=>(v,bl)|_=>(af,[]):=by
 unfold xi;rw[Az];cases ho:o.op<;>first|exact absurd ho (Qz _ _ _)|rfl
theorem YJ{st:Nat→En}{i:Nat}{o:cy}{ch:List (Nat × Bool)}(Qz:∀c a b,o.op≠.pick c a b):okC P ops base C st i o ch=((match ud o.op with | some l=>l.all (uW ops base st o.after.toList ch) | none=>false)&&(match lQ C.hs i with | some _=>true | none=>match Ea P ops base C st i o with | some (.value _,bl)=>(qm C i).isSome||bl.isEmpty | _=>false)):=by
 unfold okC;cases ho:o.op<;>first|exact absurd ho (Qz _ _ _)|rfl
theorem DL{st:Nat→En}{i:Nat}{u:aj}{ds:List aj}{w w':ar}(h:wO ops st i u ds w):wO ops st i u ds w':=by
 unfold wO at h ⊢;cases hd:dV ops i with
 |none=>trivial
 |some d=>rw[hd] at h;exact h
theorem r5{st:Nat→En}{i:Nat}(hi:i<ops.size):fJ (oX ops st) i=wO ops st i:=by
 unfold fJ oX;simp[List.getD,hi]
theorem PG{st:Nat→En}{a b:List (Nat × Bool)}(h:subs a b=true)(hc:lL st b=true):lL st a=true:=by
 unfold subs at h;unfold lL at *;rw[aU] at *;intro p hp;obtain⟨q,hq,h1⟩:=List.any_eq_true.1 (h p hp);rw[aD] at h1;have h2:=hc q hq;rw[gU h1.1,eq_of_beq h1.2];exact h2
theorem Lv{st:Nat→En}:∀ {l:List cy} {i j:Nat} {o:cy},Ug P ops base C st i l=true→l[j]?=some o→
  (∀k b,o.guard=some (k,b)→(dV ops k).isSome=true∧∀b',lQ C.lits k=some b'→M7 (st k).2.1 b'=true)∧∀ch,O7 C st o=some ch→okC P ops base C st (i+j) o ch=true
 |[],_,_,_,_,h=>by simp at h
 |x::l,i,j,o,hc,h=>by
  unfold Ug at hc;rw[aD,aD] at hc;cases j with
  |zero=>
   simp at h;subst h;refine⟨fun k b hg=>?_,fun ch hg=>?_⟩
   ·have:=hc.1.1;rw[hg,aD] at this;refine⟨this.1,fun b' hk=>?_⟩;have h2:=this.2;simp only[hk] at h2;exact h2
   ·have:=hc.1.2;rw[hg] at this;exact this
  |succ j=>
   have:=Lv hc.2 (j:=j) (by simpa using h);rwa [show i+1+j=i+(j+1) by omega] at this
theorem S2{st:Nat→En}:∀ {l:List cy} {i j:Nat},ldL st i l=ldR C st i l→j<l.length→∀b∈(st (i+j)).2.2,b=((qm C (i+j)).map (·.1)).getD 0
 |[],_,_,_,h=>by simp at h
 |x::l,i,j,he,h=>by
  unfold ldL ldR at he;rw[Aa] at he;cases j with
  |zero=>
   intro b hb;rw[Nat.add_zero] at hb ⊢;have h1:=he.1;rw[h1] at hb;obtain⟨_,_,rfl⟩:=cY.1 hb;rfl
  |succ j=>
   have:=S2 he.2 (j:=j) (by simpa using h);rwa [show i+1+j=i+(j+1) by omega] at this
theorem YC{st:Nat→En}{ev:bH→aj}{w:ar}{o:cy}{i:Nat}{ch:List (Nat × Bool)}(cN:jf ops n base=true)(ho:ops[i]?=some o)(hc:∀v,ev (.const v)=v)(hg:∀g,ev (.global g)=.pointer (some ⟨g,0,none⟩))(hf:∀f,ev (.func f)=.func (.func f) #[] #[])
  (hb:gH ev base) (hd:∀e∈o.after.toList,fe .any e=true→fJ (oX ops st) e.on (iP (dV ops e.on) ev) (fU ops ev (fL ops e.on)) w) (lK:lL st ch=true):∀ {x:bH},uW ops base st o.after.toList ch x=true→ev x=BX ops base st o.after.toList x
 |.const v,_=>hc v
 |.global g,_=>hg g
 |.func f,_=>hf f
 |.tmp t,h=>by
  unfold uW at h;unfold BX;simp only[] at h ⊢;cases hs:wK ops o.after.toList t with
  |none=>
   rw[hs] at h;simp only[] at h ⊢;cases hk:lQ base t with
   |none=>rw[hk] at h;cases h
   |some v=>
    have:=zg hk;clear hd cN hk h
    induction base with
    |nil=>cases this
    |cons p l ih=>
     rcases bR.1 this with rfl|h2
     ·exact hb.1
     ·exact ih hb.2 h2
  |some j=>
   rw[hs] at h;simp only[] at h ⊢;obtain⟨e,he,rfl,h2,h3⟩:=xk hs;have h4:=hd e he h2;have hlt:=Gd.qd cN ho he h2;have hi:i<ops.size:=(ak.1 ho).1;rw[r5 (by omega)] at h4;unfold wO at h4;rw[h3] at h4;simp only[iP] at h4;rw[h4,PG h lK];rfl
theorem Lj{Vs:List Pred}{ev:bH→aj}{w:ar}:∀ {l:List Edge},Fg ops Vs ev w l→∀e∈l,fe .any e=true→fJ Vs e.on (iP (dV ops e.on) ev) (fU ops ev (fL ops e.on)) w
 |e::l,h,e',he,hb=>by
  rcases bR.1 he with rfl|he
  ·exact h.1 hb
  ·exact Lj h.2 e' he hb
theorem Uk{Y:lM}{G:Nat→Sem Next→ar→aj→Prop}{T:ar→ar→Prop}(U5:∀w w',S w→T w w'→S w')(QJ:∀w,T w w){i:Nat}{o:cy}(ho:ops[i]?=some o)
  (hp:lQ C.hs i=none→∀ev w R v,(bY ev o).run P w=.ok (.value v) w→R v w→Y o ev w R) (hG:∀ev w v R,S w→G i (bY ev o) w v→(∀w',T w w'→R v w')→Y o ev w R)
  (cN:jf ops n base=true) (hck:Ug P ops base C (nC P ops base C) 0 ops.toList=true) (QA:ldL (nC P ops base C) 0 ops.toList=ldR C (nC P ops base C) 0 ops.toList) (hm:nE S C.mem)
  (hh:L6 ops base G S (nC P ops base C) C.hs):Gd.Mm Y ops (oX ops (nC P ops base C)) S base i o:=by
 intro ev w hS hc hg hf hb hd;have hi:i<ops.size:=(ak.1 ho).1;have hat:opAt ops i=o:=by unfold opAt;simp[List.getD,ho]
 have hstep:=Rf (P:=P) (C:=C) cN ho;obtain⟨qq,hk2⟩:=Lv hck (j:=i) (by simpa using ho);rw[cJ] at hk2;have QA:=S2 QA (j:=i) (by simpa using hi);rw[cJ] at QA;generalize hst:nC P ops base C=st at *;have hdm:=Lj hd
 have post:∀ {v:aj} {w':ar},(∀d,o.dst=some d→v=Mj (lL st (st i).1) (st i).2.1)→T w w'→Post ops ev (oX ops st) S i o w v w':=fun {v w'} hv ht=>by
  refine⟨?_,.inr ⟨U5 _ _ hS ht,fun k u ds hk hu=>?_⟩⟩
  ·rw[r5 hi];unfold wO dV;rw[ho];simp only[gg];cases ux:o.dst with
   |none=>trivial
   |some d=>exact hv d ux
  ·by_cases hks:k<ops.size
   ·rw[r5 hks] at hu ⊢;exact DL hu
   ·unfold fJ oX;simp[List.getD,hks]
 have go:∀ch,O7 C st o=some ch→lL st ch=true→Y o ev w (Post ops ev (oX ops st) S i o w):=fun ch hgd lK=>by
  have uw:=hk2 ch hgd
  have UY:st i=(ch,xi P ops base C st i o):=by
   rw[hstep];unfold uM;rw[hgd]
  have hval:∀d,o.dst=some d→(xi P ops base C st i o).1=Mj (lL st (st i).1) (st i).2.1:=fun d _=>by
   rw[UY];show(xi P ops base C st i o).1=Mj (lL st ch) (xi P ops base C st i o).1;rw[lK];rfl
  have hop:∀ {ch':List (Nat × Bool)} {x:bH},lL st ch'=true→uW ops base st o.after.toList ch' x=true→ev x=BX ops base st o.after.toList x:=fun h1 h2=>YC cN ho hc hg hf hb hdm h1 h2
  have rest:(∀c a b,o.op≠.pick c a b)→Y o ev w (Post ops ev (oX ops st) S i o w):=fun Qz=>by
   have h5:(match ud o.op with | some l=>l.all (uW ops base st o.after.toList ch) | none=>false)=true∧(match lQ C.hs i with | some _=>true | none=>match Ea P ops base C st i o with | some (.value _,bl)=>(qm C i).isSome||bl.isEmpty | _=>false)=true:=by
    rw[YJ Qz,aD] at uw;exact uw
   cases hl:ud o.op with
   |none=>rw[hl] at h5;cases h5.1
   |some l=>
    rw[hl] at h5;have hex:bY ev o=bY (BX ops base st o.after.toList) o:=execOp_congr hl fun x hx=>hop lK (aU.1 h5.1 x hx);cases Az:lQ C.hs i with
    |some v=>
     have h6:=hh.get (zg Az) w hS (by rw[UY];exact lK);simp only[hat] at h6;rw[←hex] at h6;have hv:(xi P ops base C st i o).1=v:=by unfold xi;rw[Az]
     rw[hv] at hval;exact hG ev w v _ hS h6 fun w' ht=>post hval ht
    |none=>
     rw[Az] at h5;cases hlk:Ea P ops base C st i o with
     |none=>rw[hlk] at h5;cases h5.2
     |some nb=>
      obtain⟨nx,bl⟩:=nb;rw[hlk] at h5;cases nx<;>try (cases h5.2;done)
      rename_i v;have hv:xi P ops base C st i o=(v,bl):=by rw[Vj Qz Az,hlk]
      rw[hv] at hval UY
      have hbl:∀b∈bl,∃ty fr,w.heap[b]?=some (.cells (Ub C i) ty fr):=fun b QH=>by
       have h7:=QA b (by rw[UY];exact QH);have h8:=h5.2;simp only[] at h8;unfold Ub;cases hmm:qm C i with
       |none=>
        rw[hmm] at h8;cases bl with
        |nil=>cases QH
        |cons _ _=>cases h8
       |some m=>
        rw[hmm] at h7;have h7:b=m.1:=h7;subst h7;unfold qm at hmm;exact hm.get (List.mem_of_getElem? hmm) w hS
      have hrun:=m5 (w:=w) hlk hbl;rw[←hex] at hrun;exact hp Az ev w _ v hrun (post hval (QJ w))
  by_cases RA:∃c a b,o.op=.pick c a b
  case neg=>exact rest fun c a b h=>RA ⟨c,a,b,h⟩
  obtain⟨c,a,b,Ax⟩:=RA;unfold okC at uw;rw[Ax] at uw;simp only[aD] at uw;obtain⟨⟨hnone,Zc⟩,rB⟩:=uw;have Az:lQ C.hs i=none:=by simpa using hnone
  have Nh:=hop lK Zc;cases I3:SX ops C o.after.toList c with
  |some t=>
   rw[I3] at rB
   have hv:(xi P ops base C st i o).1=if t then BX ops base st o.after.toList a else BX ops base st o.after.toList b:=by
    unfold xi;rw[Az,Ax];simp only[I3];cases t<;>rfl
   cases t with
   |true=>
    rw[aD] at rB;have hrun:=qQ (P:=P) (w:=w) Ax (Nh.trans (n4.1 rB.1));refine hp Az ev w _ _ hrun (post (fun d hd=>?_) (QJ w));rw[←hval d hd,hv];exact hop lK rB.2
   |false=>
    rw[aD] at rB;have hrun:=qQ (P:=P) (w:=w) Ax (Nh.trans (n4.1 rB.1));refine hp Az ev w _ _ hrun (post (fun d hd=>?_) (QJ w));rw[←hval d hd,hv];exact hop lK rB.2
  |none=>
   rw[I3] at rB;simp only[aD] at rB;obtain⟨⟨⟨⟨h1,h2⟩,h3⟩,h4⟩,h5⟩:=rB
   have hv:(xi P ops base C st i o).1=bools (BX ops base st o.after.toList c) (BX ops base st o.after.toList a) (BX ops base st o.after.toList b):=by
    unfold xi;rw[Az,Ax];simp only[I3]
   have ib:∀ {v:aj},isBool v=true→∃x,v=.bool x:=fun {v} h=>by cases v<;>first|exact⟨_,rfl⟩|cases h
   obtain⟨t,ht⟩:=ib h1;obtain⟨x,hx⟩:=ib h2;obtain⟨y,hy⟩:=ib h3
   have hw:∀q,t=q→lL st (Oe ops o.after.toList c q ch)=true:=fun q hq=>by
    unfold Oe;cases c<;>simp only[]<;>try exact lK
    rename_i tc;cases hs:wK ops o.after.toList tc with
    |none=>exact lK
    |some j=>
     have:(st j).2.1=.bool t:=by
      have:=ht;unfold BX at this;simp only[hs] at this;exact this
     unfold lL at lK ⊢;rw[dN,lK,this,hq];cases q<;>rfl
   have hrun:=qQ (P:=P) (w:=w) Ax (Nh.trans ht);refine hp Az ev w _ _ hrun (post (fun d hd=>?_) (QJ w));rw[←hval d hd,hv,ht,hx,hy];cases t with
   |true=>exact(hop (hw true rfl) h4).trans hx
   |false=>exact(hop (hw false rfl) h5).trans hy
 cases hgd:o.guard with
 |none=>
  exact go [] (by unfold O7;rw[hgd]) rfl
 |some jb=>
  obtain⟨j,b⟩:=jb;simp only[];obtain⟨e,he,heb,rfl⟩:=BS cN ho hgd;have Ek:=hdm e he heb;have hlt:=Gd.qd cN ho he heb;rw[r5 (by omega)] at Ek;obtain⟨hsome,qq⟩:=qq _ _ hgd;obtain⟨d0,hdd⟩:=Option.isSome_iff_exists.1 hsome;unfold wO at Ek;rw[hdd] at Ek;simp only[] at Ek;generalize hvv:iP (some d0) ev=val at *;rw[hdd,hvv];cases hk:lQ C.lits e.on with
  |some b'=>
   have af2:=n4.1 (qq _ hk);rw[af2] at Ek
   by_cases zX:b'=b
   ·subst zX;have wh:O7 C st o=some (st e.on).1:=by unfold O7;rw[hgd];simp only[hk];simp
    have UY:(st i).1=(st e.on).1:=by rw[hstep];unfold uM;rw[wh]
    refine⟨fun hv=>go _ wh ?_,fun hv=>post (fun d _=>?_) (QJ w)⟩
    ·rw[hv] at Ek;cases hcc:lL st (st e.on).1 with
     |true=>rfl
     |false=>rw[hcc] at Ek;simp[Mj,af] at Ek
    ·rw[UY];cases hcc:lL st (st e.on).1 with
     |false=>rfl
     |true=>rw[hcc] at Ek;exact absurd Ek hv
   ·have wh:O7 C st o=none:=by
     unfold O7;rw[hgd];simp only[hk];have:(b'==b)=false:=beq_false_of_ne zX;rw[this];rfl
    have UY:st i=([],af,[]):=by rw[hstep];unfold uM;rw[wh]
    refine⟨fun hv=>?_,fun hv=>post (fun d _=>by rw[UY];rfl) (QJ w)⟩;exfalso;rw[hv] at Ek;cases hcc:lL st (st e.on).1 with
    |true=>rw[hcc] at Ek;simp[Mj] at Ek;exact zX Ek.symm
    |false=>rw[hcc] at Ek;simp[Mj,af] at Ek
  |none=>
   have wh:O7 C st o=some ((e.on,b)::(st e.on).1):=by unfold O7;rw[hgd];simp only[hk]
   have UY:(st i).1=(e.on,b)::(st e.on).1:=by rw[hstep];unfold uM;rw[wh]
   have hca:lL st ((e.on,b)::(st e.on).1)=(M7 (st e.on).2.1 b&&lL st (st e.on).1):=by unfold lL;rw[dN]
   refine⟨fun hv=>go _ wh ?_,fun hv=>post (fun d _=>?_) (QJ w)⟩
   ·rw[hca];rw[hv] at Ek;cases hcc:lL st (st e.on).1 with
    |true=>
     rw[hcc] at Ek;have h1:(st e.on).2.1=.bool b:=Ek.symm;rw[h1];cases b<;>rfl
    |false=>rw[hcc] at Ek;simp[Mj,af] at Ek
   ·rw[UY,hca];cases hcc:lL st (st e.on).1 with
    |false=>rw[Bool.and_false];rfl
    |true=>
     cases hib:M7 (st e.on).2.1 b with
     |false=>rfl
     |true=>
      rw[hcc,n4.1 hib] at Ek;exact absurd Ek hv
theorem G6{Y:lM}:∀ {i:Nat} {l:List cy} {Vs:List Pred},(∀j o,l[j]?=some o→Gd.Mm Y ops Vs S base (i+j) o)→Gd.Each Y ops Vs S base i l
 |_,[],_,_=>trivial
 |i,o::l,Vs,h=>⟨by have:=h 0 o (by simp);rwa [Nat.add_zero] at this,G6 fun j o' hj=>by have:=h (j+1) o' (by simpa using hj);rwa [show i+(j+1)=i+1+j by omega] at this⟩
def Kc(P:aI)(ops:Array cy)(n:Nat)(base:List (kr × aj))(C:Cf)(outs:List (kr × aj)):Bool × List (List Nat) × List (Option aj):=
 (jf ops n base&&Ug P ops base C (nC P ops base C) 0 ops.toList,ldL (nC P ops base C) 0 ops.toList,outs.map fun p=>VB (nC P ops base C) p.1 ops.toList 0)
def BH(P:aI)(ops:Array cy)(base:List (kr × aj))(C:Cf)(outs:List (kr × aj)):Bool × List (List Nat) × List (Option aj):=(true,ldR C (nC P ops base C) 0 ops.toList,outs.map fun p=>some p.2)
theorem Hd(U5:∀w w',S w→az w.heap.size w w'→S w')(hr:Kc P ops n base C outs=BH P ops base C outs)(hm:nE S C.mem)(hh:L6 ops base (fun _=>lZ P) S (nC P ops base C) C.hs) :
  Gd.Each (Yields P) ops (oX ops (nC P ops base C)) S base 0 ops.toList:=by
 unfold Kc BH at hr;rw[iB,iB,aD] at hr;obtain⟨⟨cN,hck⟩,QA,-⟩:=hr;refine G6 fun j o hj=>?_;rw[cJ];exact Uk (T:=fun w w'=>az w.heap.size w w') U5 (fun w=>aw _ _) (by simpa using hj) (fun _ ev w R v hrun hR=>.value hrun hR) (fun ev w v R _ hg hR=>hg.yields hR) cN hck QA hm hh
theorem wN{st:Nat→En}:jl S (oX ops st):=by
 unfold oX
 have:∀l:List Nat,jl S (l.map (wO ops st)):=fun l=>by
  induction l with
  |nil=>trivial
  |cons i l ih=>
   exact⟨fun u ds w w' _ h _=>DL h,ih⟩
 exact this _
theorem Oz{st:Nat→En}{t:kr}{v:aj}:∀ {l:List cy} {i:Nat},VB st t l i=some v→∃j o,l[j]?=some o∧o.dst=some t∧(st (i+j)).1=[]∧(st (i+j)).2.1=v
 |o::l,i,h=>by
  unfold VB at h;cases hb:eqT o.dst t with
  |true=>
   rw[hb] at h;simp only[cond_true] at h;cases hs:(st i).1 with
   |nil=>
    rw[hs] at h;refine⟨0,o,rfl,?_,hs,by simpa using h⟩;cases hd:o.dst with
    |none=>rw[hd] at hb;cases hb
    |some d=>rw[hd] at hb;rw[gU hb]
   |cons _ _=>rw[hs] at h;cases h
  |false=>
   rw[hb] at h;obtain⟨j,o',h1,h2,h3,h4⟩:=Oz h;exact⟨j+1,o',by simpa using h1,h2,by rwa [show i+(j+1)=i+1+j by omega],by rwa [show i+(j+1)=i+1+j by omega]⟩
theorem EZ{a0 a:je}{w:ar}(hF:jg n a0 base)(hr:Kc P ops n base C outs=BH P ops base C outs)(h:ja ops (oX ops (nC P ops base C)) S a0 (aV ops.size true) a w):jg n a (outs++base):=by
 unfold Kc BH at hr;rw[iB,iB,aD] at hr;obtain⟨⟨cN,-⟩,-,hout⟩:=hr
 have Ts:jg n a base:=⟨h.size.trans hF.size,h.defers.trans hF.defers,hF.base.congr fun p hp=>h.keep _ fun o' Zg hd=>by
  obtain⟨k,hk,rfl⟩:=jo Zg;have qH:k<ops.size:=by simpa using hk
  unfold jf at cN;rw[aD,aU] at cN;have h3:=cN.1 k (bt.2 qH);rw[aM qH] at h3;simp only[qL] at hd;simp only[aD,hd] at h3;have:=aU.1 h3.1.2.1.2 p hp
  simp at this⟩
 refine⟨Ts.size,Ts.defers,?_⟩
 induction outs with
 |nil=>exact Ts.base
 |cons p l ih=>
  rw[List.map_cons,List.map_cons,Aa] at hout;refine⟨?_,ih hout.2⟩;obtain⟨j,o,h1,h2,h3,h4⟩:=Oz hout.1;rw[cJ] at h3 h4
  have hj:j<ops.size:=by
   have:=(List.getElem?_eq_some_iff.1 h1).1;simpa using this
  have hv:=h.vals j (by simp[ek,hj]);have Mf:dV ops j=some p.1:=by unfold dV;rw[show ops[j]?=some o by simpa using h1];exact h2
  rw[r5 hj] at hv;unfold wO at hv;rw[Mf] at hv;simp only[iP] at hv;rw[hv,h3,h4];rfl
theorem Ox(hr:Kc P ops n base C outs=BH P ops base C outs):jf ops n base=true:=by
 unfold Kc BH at hr;rw[iB,aD] at hr;exact hr.1.1
def uH(K:List (kr × aj)→Prop):List (kr × aj)→List (kr × aj)→Prop
 |[],l=>K l
 |p::r,l=>uH K r (p::l)
theorem uH.get{K:List (kr × aj)→Prop}:∀ {r l:List (kr × aj)},uH K r l→K (r.reverse++l)
 |[],l,h=>h
 |p::r,l,h=>by have:=uH.get (r:=r) h;simpa using this
theorem jg.rev{n:Nat}{a:je}{r l:List (kr × aj)}(h:jg n a (r++l)):jg n a (r.reverse++l):=by
 refine⟨h.size,h.defers,?_⟩;have h1:=h.base;clear h
 have iff:∀(ev:bH→aj) (l:List (kr × aj)),gH ev l↔∀p∈l,ev (.tmp p.1)=p.2:=fun ev l=>by
  induction l with
  |nil=>simp[gH]
  |cons p l ih=>simp[gH,ih]
 rw[iff] at *;intro p hp;refine h1 p ?_;simp at hp ⊢;exact hp
variable{Q:Exit→je→ar→Prop}
theorem He(hmx:P.follows .mixedOrders=true)(C:Cf)(outs:List (kr × aj)){id:Nat}{y:Code}{a0:je}{W:ar}(hF:jg n a0 base)(hm:nE (fun w=>az W.heap.size W w) C.mem)(hh:L6 ops base (fun _=>lZ P) (fun w=>az W.heap.size W w) (nC P ops base C) C.hs)(hy:uH (fun l=>∀a w,az W.heap.size W w→jg n a l→y.wp P Q a w) outs base)(hr:Kc P ops n base C outs=BH P ops base C outs:=by kernel_rfl):(Code.seq (.region id ops true) y).wp P Q a0 W:=
 T7 hmx _ base (Ox hr) hF.size hF.base wN (Hd (fun _ _ h hb=>h.trans (hb.mono h.size)) hr hm hh) fun a w h=>hy.get a w h.s (EZ hF hr h).rev
theorem aau(hmx:P.follows .mixedOrders=true)(C:Cf)(outs:List (kr × aj)){id:Nat}{a0:je}{W:ar}(hF:jg n a0 base)(hm:nE (fun w=>az W.heap.size W w) C.mem)(hh:L6 ops base (fun _=>lZ P) (fun w=>az W.heap.size W w) (nC P ops base C) C.hs)(hy:uH (fun l=>∀a w,az W.heap.size W w→jg n a l→Q .normal a w) outs base)(hr:Kc P ops n base C outs=BH P ops base C outs:=by kernel_rfl):(Code.region id ops true).wp P Q a0 W:=
 adI hmx _ base (Ox hr) hF.size hF.base wN (Hd (fun _ _ h hb=>h.trans (hb.mono h.size)) hr hm hh) fun a w h=>hy.get a w h.s (EZ hF hr h).rev
variable{s:Sem Next}{w:ar}{v:aj}
theorem gc{f:FuncId}{args:Array aj}(h:bm P f args w fun e w'=>e=.returned v∧az w.heap.size w w')(he:look P #[] s=some (.enter f args,[]):=by kernel_rfl):lZ P s w v:=by
 unfold lZ;rw[m5 he (by simp)];exact⟨rfl,h⟩
theorem ge{u:aj}(h:u=v)(he:look P #[] s=some (.value u,[]):=by kernel_rfl):lZ P s w v:=by
 unfold lZ;rw[m5 he (by simp)];exact⟨h,aw _ _⟩
theorem gs(s':Sem aj)(h:s'.run P w=.ok v w)(he:s=(do pure (.value (←s'))):=by kernel_rfl):lZ P s w v:=by
 unfold lZ;rw[he,Sem.run_bind,h];exact⟨rfl,aw _ _⟩
theorem gr(h:s.run P w=.ok (.value v) w):lZ P s w v:=by
 unfold lZ;rw[h];exact⟨rfl,aw _ _⟩
def SV(P:aI)(v:aj):Sem Next→Option (Addr × Option (Next × List Nat))
 |.load _ a k=>some (a,look P #[] (k v))
 |.program k=>SV P v (k P)
 |_=>none
theorem gl{a:Addr}(h:w.cell? a=some v)(he:SV P v s=some (a,some (.value v,[])):=by kernel_rfl):lZ P s w v:=by
 refine gr ?_
 induction s with
 |load m b k _=>
  unfold SV at he;simp only[Option.some.injEq,iB] at he;obtain⟨rfl,he⟩:=he
  conv=>lhs;unfold Sem.run
  rw[h];exact m5 he (by simp)
 |program k ih=>exact ih P he
 |_=>cases he
end
end Go.Lag
namespace Go.Proofs.YtffladgmkiimjaaGreatDoor
open Go Go.RowKit Go.Lag Go.ChangeShapes Go.WideShapes
theorem ag7:Tryz.prog.cellTypes Tryz.prog.depth 28=some [3,3,3,3,3,3,3,3,3,3,3,3,24,25,26]:=by kernel_rfl
theorem ag9:Tryz.prog.cellsOf 28=15:=by kernel_rfl
theorem ag8:Tryz.prog.cellsOf 79=3:=by kernel_rfl
def SliceAt(W:ar)(v:aj):Prop:=v=.slice none 0 0∨∃g off n c,v=.slice (some ⟨g,off,none⟩) n c∧n≤c∧g<W.heap.size
theorem RX{W:ar}{base:Nat}{t e:aZ}{v:aj}(ht:Tryz.prog.underlying t=some (.slice e))(h:Cell.okWide aq W .any base t v):SliceAt W v:=by
 unfold Cell.okWide Cell.ok at h;rw[ht] at h;cases v<;>simp only at h<;>try exact h.elim
 rename_i p n c;cases p with
 |none=>
  cases n<;>cases c<;>simp only at h<;>first|exact h.elim|exact .inl rfl
 |some a=>
  obtain⟨h1,h2,-,h3,row,cells,h4,-⟩:=h;obtain⟨b,o,s⟩:=a;cases h3;refine .inr ⟨b,o,n,c,rfl,h1,?_⟩;unfold World.shape? at h4
  by_cases hb:b<W.heap.size
  ·exact hb
  ·rw[fg (show W.heap.size≤b from Nat.le_of_not_lt hb)] at h4;simp at h4
theorem S8{W:ar}{base:Nat}{t:aZ}{k:IntKind}{v:aj}(ht:Tryz.prog.underlying t=some (.int k))(h:Cell.okWide aq W .any base t v):∃x,v=.int k x∧k.has x:=by
 unfold Cell.okWide Cell.ok at h;rw[ht] at h;cases v<;>simp only at h<;>try exact h.elim
 obtain⟨rfl,h⟩:=h;exact⟨_,rfl,h⟩
theorem W8{W:ar}{base:Nat}{v:aj}(h:Value.okWide aq W .any base 28 v):∃(b:BB) (m s k:aj),v=.agg (b.cells m s k)∧SliceAt W m∧SliceAt W s∧SliceAt W k:=by
 unfold Value.okWide at h;rw[cG] at h;obtain⟨cs,rfl,hc,ts,hts,-,hall⟩:=h;rw[ag7] at hts;cases hts;rw[ag9] at hc
 have hi:∀i (h:i<12),∃x,cs[i]?=some (.int .i64 x):=by
  intro i h;have hl:i<cs.size:=by omega
  obtain⟨u,hu,cN⟩:=hall i _ (aM hl)
  have h3:u=3:=by
   rw[Nat.mod_eq_of_lt (by simp;omega)] at hu
   match i,h,hu with
   |0,_,hu|1,_,hu|2,_,hu|3,_,hu|4,_,hu|5,_,hu|6,_,hu|7,_,hu|8,_,hu|9,_,hu|10,_,hu|11,_,hu=>simpa using hu.symm
  subst h3;obtain⟨x,hx,-⟩:=S8 ig cN;exact⟨x,(aM hl).trans (congrArg some hx)⟩
 have hs:∀i t (h:i<15),[3,3,3,3,3,3,3,3,3,3,3,3,24,25,26][i]?=some t→∀e,Tryz.prog.underlying t=some (.slice e)→∃x,cs[i]?=some x∧SliceAt W x:=by
  intro i t h ht e he;have hl:i<cs.size:=by omega
  obtain⟨u,hu,cN⟩:=hall i _ (aM hl);rw[Nat.mod_eq_of_lt (by simpa using h),ht] at hu;cases hu;exact⟨_,aM hl,RX he cN⟩
 obtain⟨x0,e0⟩:=hi 0 (by omega);obtain⟨x1,e1⟩:=hi 1 (by omega);obtain⟨x2,e2⟩:=hi 2 (by omega);obtain⟨x3,e3⟩:=hi 3 (by omega);obtain⟨x4,e4⟩:=hi 4 (by omega);obtain⟨x5,e5⟩:=hi 5 (by omega);obtain⟨x6,e6⟩:=hi 6 (by omega);obtain⟨x7,e7⟩:=hi 7 (by omega);obtain⟨x8,e8⟩:=hi 8 (by omega);obtain⟨x9,e9⟩:=hi 9 (by omega);obtain⟨nX,Nx⟩:=hi 10 (by omega);obtain⟨nW,e11⟩:=hi 11 (by omega);obtain⟨m,Yd,hm⟩:=hs 12 24 (by omega) rfl _ Tryz.underlying24;obtain⟨s,Yc,hs'⟩:=hs 13 25 (by omega) rfl _ Tryz.underlying25;obtain⟨k,Fs,hk⟩:=hs 14 26 (by omega) rfl _ Tryz.underlying26;refine⟨⟨x0,x1,x2,x3,x4,x5,x6,x7,x8,x9,nX,nW⟩,m,s,k,?_,hm,hs',hk⟩
 congr 1
 apply Array.ext';apply List.ext_getElem?;intro i
 by_cases h:i<15
 ·rw[Array.getElem?_toList,Array.getElem?_toList]
  match i,h with
  |0,_=>exact e0
  |1,_=>exact e1
  |2,_=>exact e2
  |3,_=>exact e3
  |4,_=>exact e4
  |5,_=>exact e5
  |6,_=>exact e6
  |7,_=>exact e7
  |8,_=>exact e8
  |9,_=>exact e9
  |10,_=>exact Nx
  |11,_=>exact e11
  |12,_=>exact Yd
  |13,_=>exact Yc
  |14,_=>exact Fs
 ·rw[Array.getElem?_toList,Array.getElem?_toList,fg (by omega),fg (by simp;omega)]
theorem aas{W:ar}{base:Nat}{a:Addr}{cs:List aj}(h:W.cells? base a 3=some cs):∃x y z,cs=[x,y,z]∧W.cell? (a.add 0)=some x∧W.cell? (a.add 1)=some y∧W.cell? (a.add 2)=some z:=by
 unfold World.cells? at h;split at h
 ·simp only[show aT 3=[0,1,2] from rfl,List.mapM_cons,List.mapM_nil] at h;cases h0:W.cell? (a.add 0)<;>rw[h0] at h<;>simp at h;cases h1:W.cell? (a.add 1)<;>rw[h1] at h<;>simp at h;cases h2:W.cell? (a.add 2)<;>rw[h2] at h<;>simp at h;exact⟨_,_,_,h.symm,rfl,rfl,rfl⟩
 ·cases h
theorem LW(g off k:Nat):(⟨g,off,none⟩:Addr).add k=⟨g,off+k,none⟩:=by
 unfold Addr.add;split
 ·rename_i h;rw[h];rfl
 ·rfl
section
variable{H:Type}{enc:aZ × aj→H}{W:ar}{sp:Nat→Bool}{hd:Bool}
theorem NN{fuel:Nat}{b:BB}{m s k:aj}{x:DataW H × List MemPlace}(h:DataW.trod enc aq W 0 sp hd fuel 28 (b.cells m s k).toList=some x) :
  (∃n y,DataW.trod enc aq W 0 sp hd n 24 [m]=some y)∧(∃n y,DataW.trod enc aq W 0 sp hd n 25 [s]=some y)∧(∃n y,DataW.trod enc aq W 0 sp hd n 26 [k]=some y):=by
 obtain⟨xs,n,-,-,-,hlen,hf⟩:=DataW.trod_struct cG h;have h10:=hf 10 _ rfl;have h11:=hf 11 _ rfl;have WH:=hf 12 _ rfl;have hl:xs.length=13:=hlen;have Pg:Tryz.prog.cellsOf 24=1:=by kernel_rfl
 have c25:Tryz.prog.cellsOf 25=1:=by kernel_rfl
 have c26:Tryz.prog.cellsOf 26=1:=by kernel_rfl
 rw[List.getElem?_eq_getElem (by omega)] at h10 h11 WH;simp only[Pg,c25,c26] at h10 h11 WH;exact⟨⟨n,_,h10⟩,⟨n,_,h11⟩,⟨n,_,WH⟩⟩
theorem SN{fuel:Nat}{g off n c:Nat}{x:DataW H × List MemPlace}(FM:n≤c)(h:DataW.trod enc aq W 0 (fun _=>true) hd fuel 24 [.slice (some ⟨g,off,none⟩) n c]=some x) :
  ∀i,i<n→∃mn:Mn,W.cell? ⟨g,off+i*3,none⟩=some (.string mn.name)∧W.cell? ⟨g,off+i*3+1,none⟩=some (.int .i64 mn.lo)∧W.cell? ⟨g,off+i*3+2,none⟩=some (.int .i64 mn.hi):=by
 intro i hi;rcases Go.Deep.open_slice Tryz.underlying24 h with⟨h0,-⟩|⟨a,len,cap,mm,nn,D,Pl,h0,-,-,-,hm,-,hel⟩
 ·cases h0
 ·cases h0;obtain⟨cs',hc,ht⟩:=hel i (by rw[hm];simp;omega);rw[ag8] at hc;obtain⟨x,y,z,rfl,e0,e1,e2⟩:=aas hc;rw[LW,LW] at e0 e1 e2;obtain⟨y0,y1,n1,-,-,t0,t1⟩:=trod_struct2 Tryz.underlying79 ht;have c9:Tryz.prog.cellsOf 9=1:=by kernel_rfl
  have c23:Tryz.prog.cellsOf 23=2:=by kernel_rfl
  have c3:Tryz.prog.cellsOf 3=1:=by kernel_rfl
  simp only[c9,c23] at t0 t1;obtain⟨z0,z1,n2,-,-,u0,u1⟩:=trod_struct2 Tryz.underlying23 t1;simp only[c3] at u0 u1;obtain⟨s,hs,-⟩:=DataW.trod_string Tryz.underlying9 t0;obtain⟨lo,hlo,-⟩:=DataW.trod_int ig u0;obtain⟨hi',hhi,-⟩:=DataW.trod_int ig u1;simp at hs hlo hhi;subst hs;subst hlo;subst hhi;exact⟨⟨s,lo,hi'⟩,e0,e1,e2⟩
end
theorem P1{W:ar}{g off n c:Nat}(FM:n≤c)(hg:g<W.heap.size)(hn:n≤20)(h:∀i,i<n→∃mn:Mn,W.cell? ⟨g,off+i*3,none⟩=some (.string mn.name)∧W.cell? ⟨g,off+i*3+1,none⟩=some (.int .i64 mn.lo)∧W.cell? ⟨g,off+i*3+2,none⟩=some (.int .i64 mn.hi)) :
  ∃ml:List Mn,ml.length=n∧Reads W (.slice (some ⟨g,off,none⟩) n c) n (dS ml):=by
 obtain⟨f,hf⟩:∃f:Nat→Mn,∀i,i<n→W.cell? ⟨g,off+i*3,none⟩=some (.string (f i).name)∧W.cell? ⟨g,off+i*3+1,none⟩=some (.int .i64 (f i).lo)∧W.cell? ⟨g,off+i*3+2,none⟩=some (.int .i64 (f i).hi):=
  ⟨fun i=>if hi:i<n then(h i hi).choose else⟨⟨#[]⟩,0,0⟩,fun i hi=>by simp only[dif_pos hi];exact(h i hi).choose_spec⟩
 refine⟨(aT n).map f,by simp,.inr ⟨g,off,c,rfl,⟨by omega,FM⟩,hg,fun j u hj=>?_⟩⟩;have Wl:j<(dS ((aT n).map f)).length:=(List.getElem?_eq_some_iff.1 hj).1;rw[rW] at Wl;simp at Wl;have hk:j / 3<n:=by omega
 have e:j=3*(j / 3)+j % 3:=by omega
 rw[e,pP _ _ _ (by simpa using hk) (by omega)] at hj;obtain⟨h0,h1,h2⟩:=hf (j / 3) hk;simp only[List.getElem_map,List.getElem_range] at hj;have h3:j % 3<3:=Nat.mod_lt _ (by decide);rw[show off+j=off+(j / 3)*3+j % 3 by omega]
 match j % 3,h3,hj with
 |0,_,hj=>simp at hj;subst hj;exact h0
 |1,_,hj=>simp at hj;subst hj;exact h1
 |2,_,hj=>simp at hj;subst hj;exact h2
end Go.Proofs.YtffladgmkiimjaaGreatDoor
namespace Go.Proofs.YtffladgmkiimjaaGreatDoor
open Go.RowKit Go.Lag
theorem SU{w:ar}{B C g off L cap j:Nat}{n lo hi:Int}{b:BB}{men sent marks:aj}(h:w.heap[B]?=some (au (b.cells men sent marks) 119 (0,0)))(hC:w.cell? ⟨C,0,none⟩=some (ae (some ⟨g,off,none⟩) L cap))(QL:C<w.heap.size)(hg:g<w.heap.size)(hn:w.cell? ⟨g,off+j,none⟩=some (ah ag n)){w':ar}(hb:az (w.heap.size+1) (w.alloc (au #[ah ag ((j:Int)+1),ah ag lo,ah ag hi] 81)) w'):(w'.cell? ⟨B,0,none⟩=some (ah ag b.room)∧w'.cell? ⟨B,1,none⟩=some (ah ag b.depth)∧w'.cell? ⟨B,2,none⟩=some (ah ag b.least)∧w'.cell? ⟨B,3,none⟩=some (ah ag b.minutes)∧w'.cell? ⟨B,4,none⟩=some (ah ag b.bM)∧w'.cell? ⟨B,5,none⟩=some (ah ag b.fD)∧w'.cell? ⟨B,6,none⟩=some (ah ag b.dc)∧w'.cell? ⟨B,7,none⟩=some (ah ag b.fC)∧w'.cell? ⟨B,8,none⟩=some (ah ag b.ll)∧w'.cell? ⟨B,9,none⟩=some (ah ag b.lm)∧w'.cell? ⟨B,10,none⟩=some (ah ag b.pl)∧w'.cell? ⟨B,11,none⟩=some (ah ag b.pm)∧w'.cell? ⟨B,12,none⟩=some (men)∧w'.cell? ⟨B,13,none⟩=some (sent)∧w'.cell? ⟨B,14,none⟩=some (marks)∧w'.cell? ⟨C,0,none⟩=some (ae (some ⟨g,off,none⟩) L cap)∧w'.cell? ⟨g,off+j,none⟩=some (ah ag n)∧w'.cell? ⟨w.heap.size,0,none⟩=some (ah ag ((j:Int)+1))∧w'.cell? ⟨w.heap.size,1,none⟩=some (ah ag lo)∧w'.cell? ⟨w.heap.size,2,none⟩=some (ah ag hi))∧az (w.heap.size+1) (w.alloc (au #[ah ag ((j:Int)+1),ah ag lo,ah ag hi] 81)) w':=by
 have hBl:B<w.heap.size:=(ak.1 h).1;have h':w'.heap[B]?=some (au (b.cells men sent marks) 119 (0,0)):=by rw[hb.block B (by omega),aS _ _ _ hBl];exact h
 have hnew:w'.heap[w.heap.size]?=some (au #[ah ag ((j:Int)+1),ah ag lo,ah ag hi] 81 (0,0)):=by rw[hb.block w.heap.size (by omega)];exact ay w _
 obtain⟨x0,x1,x2,x3,x4,x5,x6,x7,x8,x9,nX,nW,oU,oh,oP⟩:=bN h';refine⟨⟨x0,x1,x2,x3,x4,x5,x6,x7,x8,x9,nX,nW,oU,oh,oP,?_,?_,?_,?_,?_⟩,hb⟩
 ·exact(hb.cell (p:=⟨C,0,none⟩) (by show C<_;omega)).trans ((eb _ _ _ QL).trans hC)
 ·exact(hb.cell (p:=⟨g,off+j,none⟩) (by show g<_;omega)).trans ((eb _ _ _ hg).trans hn)
 ·simp[dH,hnew]
 ·simp[dH,hnew]
 ·simp[dH,hnew]
theorem D9{w:ar}{B C g off L cap j:Nat}{n lo hi:Int}{b:BB}{men sent marks:aj}(h:w.heap[B]?=some (au (b.cells men sent marks) 119 (0,0)))(hC:w.cell? ⟨C,0,none⟩=some (ae (some ⟨g,off,none⟩) L cap))(QL:C<w.heap.size)(hg:g<w.heap.size)(hn:w.cell? ⟨g,off+j,none⟩=some (ah ag n)){w1 w':ar}(hb:az (w.heap.size+1) (w.alloc (au #[ah ag ((j:Int)+1),ah ag lo,ah ag hi] 81)) w1)(hb2:az w1.heap.size w1 w'):(w'.cell? ⟨B,0,none⟩=some (ah ag b.room)∧w'.cell? ⟨B,1,none⟩=some (ah ag b.depth)∧w'.cell? ⟨B,2,none⟩=some (ah ag b.least)∧w'.cell? ⟨B,3,none⟩=some (ah ag b.minutes)∧w'.cell? ⟨B,4,none⟩=some (ah ag b.bM)∧w'.cell? ⟨B,5,none⟩=some (ah ag b.fD)∧w'.cell? ⟨B,6,none⟩=some (ah ag b.dc)∧w'.cell? ⟨B,7,none⟩=some (ah ag b.fC)∧w'.cell? ⟨B,8,none⟩=some (ah ag b.ll)∧w'.cell? ⟨B,9,none⟩=some (ah ag b.lm)∧w'.cell? ⟨B,10,none⟩=some (ah ag b.pl)∧w'.cell? ⟨B,11,none⟩=some (ah ag b.pm)∧w'.cell? ⟨B,12,none⟩=some (men)∧w'.cell? ⟨B,13,none⟩=some (sent)∧w'.cell? ⟨B,14,none⟩=some (marks)∧w'.cell? ⟨C,0,none⟩=some (ae (some ⟨g,off,none⟩) L cap)∧w'.cell? ⟨g,off+j,none⟩=some (ah ag n)∧w'.cell? ⟨w.heap.size,0,none⟩=some (ah ag ((j:Int)+1))∧w'.cell? ⟨w.heap.size,1,none⟩=some (ah ag lo)∧w'.cell? ⟨w.heap.size,2,none⟩=some (ah ag hi))∧az (w.heap.size+1) (w.alloc (au #[ah ag ((j:Int)+1),ah ag lo,ah ag hi] 81)) w':=
 SU h hC QL hg hn (hb.trans (hb2.mono (by have:=hb.size;simpa using this)))
theorem II(b:BB)(hb:b.Ok)(men sent marks:aj)(lo hi n:Int)(XQ:0≤n∧n≤999)(B C g off L cap j:Nat)(w:ar)(h:w.heap[B]?=some (au (b.cells men sent marks) 119 (0,0)))(hC:w.cell? ⟨C,0,none⟩=some (ae (some ⟨g,off,none⟩) L cap))(QL:C<w.heap.size)(hg:g<w.heap.size)(hn:w.cell? ⟨g,off+j,none⟩=some (ah ag n))(hj:j<L)(hL:L≤1000) :
  bm aq 176 #[aO #[ah ag ((j:Int)+1),ah ag lo,ah ag hi],bp (some ⟨B,0,none⟩),bp (some ⟨C,0,none⟩)] w fun e w'=>e=aC (.bool (!aQ (b.Li n) lo hi))∧az w.heap.size w w':=by
 have HK:=ai h;have HC:=ai hC;have HN:=ai hn;have hjj:IntKind.i64.wrap ((j:Int)+1-1)=(j:Int):=by rw[show(j:Int)+1-1=(j:Int) by omega];exact eY _ (by omega) (by omega)
 have hj1:(j:Int)<(L:Int):=by omega
 have Tt:(j:Int)≤(L:Int):=by omega
 have hj0:(0:Int)≤(j:Int):=by omega
 have hjw:IntKind.i64.wrap (j:Int)=(j:Int):=eY _ (by omega) (by omega);clear h hC hn
 go_enter Tryz.func176,Tryz.ntmps176
 go_wp2
 go_region_held3 (fun w'=>(w'.cell? ⟨B,0,none⟩=some (ah ag b.room)∧w'.cell? ⟨B,1,none⟩=some (ah ag b.depth)∧w'.cell? ⟨B,2,none⟩=some (ah ag b.least)∧w'.cell? ⟨B,3,none⟩=some (ah ag b.minutes)∧w'.cell? ⟨B,4,none⟩=some (ah ag b.bM)∧w'.cell? ⟨B,5,none⟩=some (ah ag b.fD)∧w'.cell? ⟨B,6,none⟩=some (ah ag b.dc)∧w'.cell? ⟨B,7,none⟩=some (ah ag b.fC)∧w'.cell? ⟨B,8,none⟩=some (ah ag b.ll)∧w'.cell? ⟨B,9,none⟩=some (ah ag b.lm)∧w'.cell? ⟨B,10,none⟩=some (ah ag b.pl)∧w'.cell? ⟨B,11,none⟩=some (ah ag b.pm)∧w'.cell? ⟨B,12,none⟩=some (men)∧w'.cell? ⟨B,13,none⟩=some (sent)∧w'.cell? ⟨B,14,none⟩=some (marks)∧w'.cell? ⟨C,0,none⟩=some (ae (some ⟨g,off,none⟩) L cap)∧w'.cell? ⟨g,off+j,none⟩=some (ah ag n)∧w'.cell? ⟨w.heap.size,0,none⟩=some (ah ag ((j:Int)+1))∧w'.cell? ⟨w.heap.size,1,none⟩=some (ah ag lo)∧w'.cell? ⟨w.heap.size,2,none⟩=some (ah ag hi))∧az (w.heap.size+1) (w.alloc (au #[ah ag ((j:Int)+1),ah ag lo,ah ag hi] 81)) w')
  (first|exact SU HK.out HC.out QL hg HN.out (aw _ _).drew|exact SU HK.out HC.out QL hg HN.out (aw _ _)|exact D9 HK.out HC.out QL hg HN.out (And.right (by assumption)) (by assumption)|exact D9 HK.out HC.out QL hg HN.out (And.right (by assumption)) (aw _ _))
  (first|(go_at_call 139;refine(Jg b hb men sent marks n XQ _).mono ?_;rintro e w1 ⟨rfl,hb1⟩)|(go_at_call 138;refine(qo _ _ _ _).mono ?_;rintro e w1 ⟨rfl,rfl⟩))
 rename _∧_=>hS;have hBw:=hS.2;clear hS;go_wp2
 go_ret
 exact⟨rfl,((aw _ _).alloc (ax _) _).trans (hBw.mono (by omega))⟩
def Am(b:BB)(used:Int)(p:Nat)(ms:List Mk):Bool:=ms.all fun m=>aQ (b.Li (b.wW used p m.minute.toNat)) m.lo m.hi
def jG(b:BB)(used:Int)(p:Nat):List Mk→Nat→Int
 |[],_=>-1
 |m::r,k=>if aQ (b.Li (b.wW used p m.minute.toNat)) m.lo m.hi then jG b used p r (k+1) else k
theorem FI(b:BB)(used:Int)(p:Nat)(xs:List Mk)(k:Nat)(hk:k<xs.length):jG b used p (xs.drop k) k=if aQ (b.Li (b.wW used p xs[k].minute.toNat)) xs[k].lo xs[k].hi then jG b used p (xs.drop (k+1)) (k+1) else(k:Int):=by
 rw[List.drop_eq_getElem_cons hk];rfl
theorem IJ(b:BB)(used:Int)(p:Nat)(xs:List Mk):jG b used p (xs.drop xs.length) xs.length = -1:=by simp[jG]
theorem IK(b:BB)(used:Int)(p:Nat):∀(xs:List Mk) (k:Nat),decide (0≤jG b used p xs k) = !Am b used p xs:=by
 intro xs
 induction xs with
 |nil=>intro k;simp[jG,Am]
 |cons n r ih=>
  intro k;simp only[jG,Am,dN];split
  ·rename_i h;rw[h,Bool.true_and];exact ih (k+1)
  ·rename_i h;simp at h;simp[h]
theorem FK(b:BB)(hb:b.Ok)(men sent marks:aj)(ms:List Mk)(hm:lH b ms)(used:Int)(hu:0≤used)(p:Nat)(v:aj)(B C g off L cap:Nat)(w:ar)(hv:Reads w v ms.length (eu ms))
  (m8:w.heap[B]?=some (au (b.cells men sent marks) 119 (0,0))) (hC:w.cell? ⟨C,0,none⟩=some (ae (some ⟨g,off,none⟩) L cap)) (QL:C<w.heap.size) (hg:g<w.heap.size) (hL:L=b.minutes.toNat) (hc:∀j u,((b.lN used p b.minutes.toNat).map (aG ag))[j]?=some u→w.cell? ⟨g,off+j,none⟩=some u) :
  bm aq 182 #[v,.func (.func 176) #[] #[bp (some ⟨B,0,none⟩),bp (some ⟨C,0,none⟩)]] w fun e w'=>e=aC (ah ag (jG b used p ms 0))∧az w.heap.size w w':=by
 have HK:=ai m8;have HC:=ai hC;have HP:=ai hc;have HM:=ai hm;have Ay:=hb.minutes;have XS:=hm.len;clear m8 hC hc hm;rcases hv with⟨rfl,hn,hx0⟩|⟨gm,om,cm,rfl,hn,Wo,hcm⟩
 ·obtain rfl:ms=[]:=List.eq_nil_of_length_eq_zero hn;clear hx0 hn
  go_enter Tryz.func182,Tryz.ntmps182
  go_wp2
  go_loopw [8] (fun i wr=>i=ah ag 0∧az w.heap.size w wr) (fun _ _=>0)
  case atStart=>exact⟨rfl,aw _ _⟩
  case round=>
   obtain⟨rfl,dX⟩:=hrel;go_wp2
   go_ret
   exact⟨rfl,dX⟩
 ·have Pt:=ai hcm;clear hcm;generalize hM:ms.length=M at *;have HL:=ai hM;clear hM
  go_enter Tryz.func182,Tryz.ntmps182
  go_wp2
  go_loopw [5,8] (fun _ i wr=>∃k:Nat,k≤M∧i=ah ag k∧jG b used p ms 0=jG b used p (ms.drop k) k∧az w.heap.size w wr) (fun _ i _=>M-(intOf i).toNat)
  case atStart=>exact⟨0,by omega,rfl,rfl,aw _ _⟩
  case round=>
   obtain⟨k,hk,rfl,kI,dX⟩:=hrel;have hB1:=dX.size
   by_cases hlt:k<M
   ·have ki:k<ms.length:=by rw[HL.out];exact hlt
    obtain⟨y0,y1,y2⟩:=vN (w:=wr) (fun j u hj=>(dX.cell (p:=⟨gm,om+j,none⟩) Wo).trans (Pt.out j u hj)) k ki;have hx:=HM.out.mem ms[k] (List.getElem_mem ki);have hst:=FI b used p ms k ki;rw[hst] at kI;clear hst;generalize ms[k]=x at *;obtain⟨mi,lo,hi⟩:=x;obtain⟨j,rfl⟩:∃j:Nat,mi=(j:Int)+1:=⟨(mi-1).toNat,by have:=hx.1;simp at this;omega⟩
    have hjm:j<b.minutes.toNat:=by have:=hx.2.1;simp at this;omega
    have TE:=b.NU hb hu p (j+1);have hcell:=HP.out j (ah ag (b.wW used p (j+1))) (by simp[BB.lN,hjm]);have hT:=II b hb men sent marks lo hi (b.wW used p (j+1)) (by omega) B C g off L cap j wr ((dX.block B (ak.1 HK.out).1).trans HK.out) ((dX.cell (p:=⟨C,0,none⟩) QL).trans HC.out) (by omega) (by omega) ((dX.cell (p:=⟨g,off+j,none⟩) hg).trans hcell) (by omega) (by omega);rw[show(Mk.minute ⟨(j:Int)+1,lo,hi⟩).toNat=j+1 by show((j:Int)+1).toNat=j+1;omega] at kI;simp only[] at y0 y1 y2 kI;clear hx TE hcell hjm;cases hd:aQ (b.Li (b.wW used p (j+1))) lo hi
    ·rw[hd] at hT;simp only[hd,Bool.false_eq_true,if_false] at kI;have HB:=ai kI;have HT:=ai hT;clear kI hT hd
     go_wp2_with (go_at_call 176;refine HT.out.mono ?_;rintro e w2 ⟨rfl,hb2⟩)
     go_ret
     exact⟨gR HB.out.symm,dX.trans (hb2.mono hB1)⟩
    ·rw[hd] at hT;simp only[hd,if_true] at kI;have HB:=ai kI;have HT:=ai hT;clear kI hT hd
     go_wp2_with (go_at_call 176;refine HT.out.mono ?_;rintro e w2 ⟨rfl,hb2⟩)
     go_roundw
     case rel=>exact⟨k+1,by omega,by go_num,HB.out,dX.trans (hb2.mono hB1)⟩
     case measure=>simp[intOf];omega
   ·obtain rfl:k=M:=by omega
    have e1:jG b used p ms 0 = -1:=by rw[kI,←HL.out];exact IJ b used p ms
    have HE:=ai e1;clear e1 kI;go_wp2
    go_ret
    exact⟨gR HE.out.symm,dX⟩
theorem AL(b:BB)(hb:b.Ok)(men sent marks:aj)(ms:List Mk)(hm:lH b ms)(used:Int)(hu:0≤used)(p:Nat)(v:aj)(B C g off L cap:Nat)(w:ar)(hv:Reads w v ms.length (eu ms))
  (m8:w.heap[B]?=some (au (b.cells men sent marks) 119 (0,0))) (hC:w.cell? ⟨C,0,none⟩=some (ae (some ⟨g,off,none⟩) L cap)) (QL:C<w.heap.size) (hg:g<w.heap.size) (hL:L=b.minutes.toNat) (hc:∀j u,((b.lN used p b.minutes.toNat).map (aG ag))[j]?=some u→w.cell? ⟨g,off+j,none⟩=some u) :
  bm aq 175 #[v,.func (.func 176) #[] #[bp (some ⟨B,0,none⟩),bp (some ⟨C,0,none⟩)]] w fun e w'=>e=aC (.bool (!Am b used p ms))∧az w.heap.size w w':=by
 have hI:=FK b hb men sent marks ms hm used hu p v B C g off L cap w hv m8 hC QL hg hL hc;have hA:=IK b used p ms 0;generalize jG b used p ms 0=q at *;have HI:=ai hI;have HA:=ai hA;clear hI hv m8 hC hc hA
 go_enter Tryz.func175,Tryz.ntmps175
 go_wp2_with (go_at_call 182;refine HI.out.mono ?_;rintro e w2 ⟨rfl,hb2⟩)
 go_ret
 exact⟨qh HA.out,hb2⟩
theorem DM(b:BB)(hb:b.Ok)(men sent marks:aj)(a:dT)(ha:a.Ok)(p:Nat)(hp:p<512)(w:ar) :
  bm aq 114 #[aO (b.cells men sent marks),aO a.cells,ah ag p] w fun e w'=>∃g cap,∃cur:Array aj,e=aC (ae (some ⟨g,0,none⟩) b.minutes.toNat cap)∧w.heap.size≤g∧g<w'.heap.size∧b.minutes.toNat≤cap∧
   w'.heap[g]?=some (au cur 3 (0,0))∧(∀(j:Nat) (u:aj),((b.lN (b.bM+a.used) p b.minutes.toNat).map (aG ag))[j]?=some u→cur[j]?=some u)∧az w.heap.size w w':=by
 refine(DN b hb men sent marks a ha p hp w).mono ?_;rintro e w1 ⟨v,rfl,hown,hb1⟩;have hm:=hb.minutes;rcases hown.2 with⟨h0,h1⟩|⟨g,cap,cur,rfl,h2,h3,h4,h5,h6,h7⟩
 ·have:=(h1:b.minutes.toNat=0)
  omega
 ·refine⟨g,cap,cur,rfl,h2,(ak.1 h3).1,h4,h3,fun j u hj=>?_,hb1⟩;rw[←h7,List.getElem?_take] at hj;split at hj
  ·simpa using hj
  ·cases hj
theorem aH{W:ar}{B:Nat}{cs:Array aj}{t:aZ}(h:W.heap[B]?=some (au cs t (0,0)))(i:Nat)(u:aj)(hi:cs[i]?=some u):W.cell? ⟨B,i,none⟩=some u:=by
 simp[dH,h,hi]
theorem cM{W:ar}{B:Nat}{cs:Array aj}{t:aZ}(h:W.heap[B]?=some (au cs t (0,0)))(i:Nat):W.frozen? ⟨B,i,none⟩=false:=by
 simp[World.frozen?,h]
theorem Bo{W:ar}{k:Nat}{z v:aj}{t:aZ}(h:W.heap[k]?=some (au #[z] t (0,0))):(W.setCell ⟨k,0,none⟩ v).heap[k]?=some (au #[v] t (0,0)):=by
 obtain⟨hk,h⟩:=ak.1 h;simp[World.setCell,hk,h,Array.getElem_modify]
structure Two(w:ar)(A:Array aj)(tA:aZ)(B:Array aj)(tB:aZ)(w':ar):Prop where
 one:w'.heap[w.heap.size]?=some (au A tA (0,0))
 two:w'.heap[w.heap.size+1]?=some (au B tB (0,0))
 below:az w.heap.size w w'
 size:w.heap.size+2≤w'.heap.size
theorem Two.mk'(w:ar)(A:Array aj)(tA:aZ)(B:Array aj)(tB:aZ):Two w A tA B tB ((w.alloc (au A tA)).alloc (au B tB)).drew:=
 ⟨(aS _ _ _ (by simp)).trans (ay w _),by have:=ay (w.alloc (au A tA)) (au B tB);rwa [World.size_alloc] at this,
  (((aw _ w).alloc (ax _) _).alloc (by simp) _).drew,by show _≤((w.alloc _).alloc _).heap.size;simp⟩
theorem Two.next{w:ar}{A:Array aj}{tA:aZ}{B:Array aj}{tB:aZ}{w1 w2:ar}(h:Two w A tA B tB w1)(hb:az w1.heap.size w1 w2):Two w A tA B tB w2:=by
 have hs:=h.size;exact⟨(hb.block _ (by omega)).trans h.one,(hb.block _ (by omega)).trans h.two,h.below.trans (hb.mono (by omega)),Nat.le_trans hs hb.size⟩
theorem Two.store{w:ar}{A:Array aj}{tA:aZ}{B:Array aj}{tB:aZ}{w1:ar}(h:Two w A tA B tB w1){k i:Nat}(hk:w.heap.size+2≤k)(u:aj):Two w A tA B tB (w1.setCell ⟨k,i,none⟩ u):=
 ⟨(bj _ _ _ _ (by show _≠k;omega)).trans h.one,(bj _ _ _ _ (by show _≠k;omega)).trans h.two,h.below.setCell (by show _≤k;omega) u,by simpa using h.size⟩
theorem MX(b:BB)(hb:b.Ok)(men sent marks:aj)(ss:List Int)(hs:fj b ss)(ms:List Mk)(hm:lH b ms)(a:dT)(ha:a.Ok)(w:ar)(XD:Reads w sent ss.length (ss.map (aG ag)))(hvm:Reads w marks ms.length (eu ms)) :
  bm aq 143 #[aO (b.cells men sent marks),aO a.cells] w fun e w'=>e=aC (.bool (Am b (b.bM+a.used) (bE ss) ms))∧az w.heap.size w w':=by
 have Ay:=hb.minutes;have o6:∀s∈ss,1≤s∧s≤8:=fun s h=>by have:=hs.mem s h;omega
 have Qy:bE ss<512:=mU ss o6
 go_enter Tryz.func143,Tryz.ntmps143
 go_wp2
 refine bQ (by kernel_rfl) [
 pV (aO (b.cells men sent marks)),
  pV (aO a.cells),
  pV (pv w.heap.size 0),
  pV (pv w.heap.size 13),
  pV (sent),
  pV (ah ag (bE ss)),
  fun v ds w9=>∃g cap,∃cur:Array aj,v=ae (some ⟨g,0,none⟩) b.minutes.toNat cap∧w.heap.size+2≤g∧b.minutes.toNat≤cap∧w9.heap[g]?=some (au cur 3 (0,0))∧∀(j:Nat) (u:aj),((b.lN (b.bM+a.used) (bE ss) b.minutes.toNat).map (aG ag))[j]?=some u→cur[j]?=some u,
  fun v ds w9=>∃k z,v=pv k 0∧w.heap.size+2≤k∧w9.heap[k]?=some (au #[z] 25 (0,0)),
  fun v ds w9=>∃k z,ds[0]?=some (pv k 0)∧ds[1]?=some z∧w9.heap[k]?=some (au #[z] 25 (0,0))]
  (Two w (b.cells men sent marks) 119 a.cells 134) [(2,pv w.heap.size 0),(3,pv (w.heap.size+1) 0)] (by kernel_rfl) ?rst (fun w1 w2 h hb=>h.next hb) (Two.mk' _ _ _ _ _) ⟨rfl,rfl,trivial⟩ ?reach ?rfin
 case rst=>
  refine⟨sV,sV,sV,sV,sV,sV,?_,?_,?_,trivial⟩
  ·rintro v ds w1 w2 hS ⟨g,cap,cur,h1,h2,h3,h4,h5⟩ hb;exact⟨g,cap,cur,h1,h2,h3,(hb.block g (ak.1 h4).1).trans h4,h5⟩
  ·rintro v ds w1 w2 hS ⟨k,z,h1,h2,h3⟩ hb;exact⟨k,z,h1,h2,(hb.block k (ak.1 h3).1).trans h3⟩
  ·rintro v ds w1 w2 hS ⟨k,z,h1,h2,h3⟩ hb;exact⟨k,z,h1,h2,(hb.block k (ak.1 h3).1).trans h3⟩
 case reach=>
  refine⟨?_,?_,?_,?_,?_,?_,?_,?_,?_,trivial⟩<;>rintro ev w1 hS hc hg hf ⟨b2,b3,-⟩ hd
  ·clear hd;have x0:=aH hS.one 0 _ rfl;have x1:=aH hS.one 1 _ rfl;have x2:=aH hS.one 2 _ rfl;have x3:=aH hS.one 3 _ rfl;have x4:=aH hS.one 4 _ rfl;have x5:=aH hS.one 5 _ rfl;have x6:=aH hS.one 6 _ rfl;have x7:=aH hS.one 7 _ rfl;have x8:=aH hS.one 8 _ rfl;have x9:=aH hS.one 9 _ rfl;have nX:=aH hS.one 10 _ rfl;have nW:=aH hS.one 11 _ rfl;have oU:=aH hS.one 12 _ rfl;have oh:=aH hS.one 13 _ rfl;have oP:=aH hS.one 14 _ rfl;exact tV
  ·clear hd;have y0:=aH hS.two 0 _ rfl;have y1:=aH hS.two 1 _ rfl;have y2:=aH hS.two 2 _ rfl;have y3:=aH hS.two 3 _ rfl;exact tV
  ·clear hd;exact tV
  ·have d2:ev (.tmp 8)=_:=hd.1 rfl;clear hd;exact tV
  ·have d3:ev (.tmp 9)=_:=hd.1 rfl;clear hd;have oh:=aH hS.one 13 _ rfl;exact tV
  ·have d4:ev (.tmp 10)=_:=hd.1 rfl;clear hd;refine yq (args:=#[sent]) (kW ss o6 sent _ (XD.below hS.below)) ?_ fun _=>rfl;go_simp
  ·have d0:ev (.tmp 6)=_:=hd.1 rfl;have d1:ev (.tmp 7)=_:=hd.2.1 rfl;have d5:ev (.tmp 11)=_:=hd.2.2.1 rfl;clear hd;refine Lag.Yields.call (f:=114) (args:=#[aO (b.cells men sent marks),aO a.cells,ah ag (bE ss)]) ?_ (DM b hb men sent marks a ha (bE ss) Qy _) ?_
   ·go_simp
   ·rintro e w2 ⟨g,cap,cur,rfl,h1,h2,h3,h4,h5,h6⟩;exact⟨_,rfl,⟨g,cap,cur,rfl,Nat.le_trans hS.size h1,h3,h4,h5⟩,.inl h6⟩
  ·clear hd;refine Lag.Yields.value (v:=pv w1.heap.size 0) (w':=w1.alloc (au #[ae none 0 0] 25)) ?_ ⟨⟨_,_,rfl,hS.size,ay _ _⟩,.inl ((aw _ _).alloc (ax _) _)⟩;go_simp
  ·obtain⟨k,z,e5,hk,hkb⟩:=hd.1 rfl;replace e5:ev (.tmp 5)=_:=e5;obtain⟨g,cap,cur,Yd,hg,hgc,hgb,qs⟩:=hd.2.1 rfl;clear hd;replace Yd:ev (.tmp 12)=_:=Yd;have CY:g≠k:=by rintro rfl;rw[hgb] at hkb;cases hkb
   have c1:=aH hkb 0 _ rfl;have c2:=cM hkb 0;refine Lag.Yields.skip (w':=w1.setCell ⟨k,0,none⟩ (ae (some ⟨g,0,none⟩) b.minutes.toNat cap)) ?_ ⟨⟨k,_,congrArg some e5,congrArg some Yd,Bo hkb⟩,.inr ⟨hS.store hk _,?_⟩⟩
   ·go_simp
   ·intro j u ds hj hp
    match j,hp with
    |0,hp=>exact hp
    |1,hp=>exact hp
    |2,hp=>exact hp
    |3,hp=>exact hp
    |4,hp=>exact hp
    |5,hp=>exact hp
    |6,⟨g',cap',cur',h1,h2,h3,h4,h5⟩=>exact⟨g',cap',cur',h1,h2,h3,(bj _ _ _ _ (by rintro rfl;rw[h4] at hkb;cases hkb)).trans h4,h5⟩
    |7,⟨k',z',h1,h2,h3⟩=>
     by_cases sS:k'=k
     ·subst sS;exact⟨k',_,h1,h2,Bo h3⟩
     ·exact⟨k',z',h1,h2,(bj _ _ _ _ sS).trans h3⟩
    |8,_=>exact(hj rfl).elim
    |j+9,_=>trivial
 case rfin=>
  intro a2 w2 hR;have hS:=hR.s;have e6:∃g cap,∃cur:Array aj,(a2.tmps.getD 12 af)=ae (some ⟨g,0,none⟩) b.minutes.toNat cap∧w.heap.size+2≤g∧b.minutes.toNat≤cap∧w2.heap[g]?=some (au cur 3 (0,0))∧∀(j:Nat) (u:aj),((b.lN (b.bM+a.used) (bE ss) b.minutes.toNat).map (aG ag))[j]?=some u→cur[j]?=some u:=hR.val 6 (by decide);have e7:∃k z,(a2.tmps.getD 5 af)=pv k 0∧w.heap.size+2≤k∧w2.heap[k]?=some (au #[z] 25 (0,0)):=hR.val 7 (by decide);have e8:∃k z,([a2.tmps.getD 5 af,a2.tmps.getD 12 af,a2.tmps.getD 12 af,a2.tmps.getD 6 af,a2.tmps.getD 7 af,a2.tmps.getD 8 af,a2.tmps.getD 9 af,a2.tmps.getD 10 af,a2.tmps.getD 11 af,a2.tmps.getD 12 af,a2.tmps.getD 5 af]:List aj)[0]?=some (pv k 0)∧([a2.tmps.getD 5 af,a2.tmps.getD 12 af,a2.tmps.getD 12 af,a2.tmps.getD 6 af,a2.tmps.getD 7 af,a2.tmps.getD 8 af,a2.tmps.getD 9 af,a2.tmps.getD 10 af,a2.tmps.getD 11 af,a2.tmps.getD 12 af,a2.tmps.getD 5 af]:List aj)[1]?=some z∧w2.heap[k]?=some (au #[z] 25 (0,0)):=hR.val 8 (by decide);have k0:a2.tmps.getD 0 af=aO (b.cells men sent marks):=hR.kept (by kernel_rfl);have k1:a2.tmps.getD 1 af=aO a.cells:=hR.kept (by kernel_rfl);have k2:a2.tmps.getD 2 af=pv w.heap.size 0:=hR.kept (by kernel_rfl);have k3:a2.tmps.getD 3 af=pv (w.heap.size+1) 0:=hR.kept (by kernel_rfl);have k4:a2.tmps.getD 4 af=.bool false:=hR.kept (by kernel_rfl);have ha_:a2=⟨#[a2.tmps.getD 0 af,a2.tmps.getD 1 af,a2.tmps.getD 2 af,a2.tmps.getD 3 af,a2.tmps.getD 4 af,a2.tmps.getD 5 af,a2.tmps.getD 6 af,a2.tmps.getD 7 af,a2.tmps.getD 8 af,a2.tmps.getD 9 af,a2.tmps.getD 10 af,a2.tmps.getD 11 af,a2.tmps.getD 12 af,a2.tmps.getD 13 af,a2.tmps.getD 14 af,a2.tmps.getD 15 af,a2.tmps.getD 16 af,a2.tmps.getD 17 af,a2.tmps.getD 18 af],[]⟩:=hR.act;clear hR;obtain⟨k,z,h5,hk,hkb⟩:=e7;obtain⟨g,cap,cur,WH,hg,hgc,hgb,qs⟩:=e6;obtain⟨k',z',h5',adp,hkb'⟩:=e8;have q1:k'=k:=by have:=h5.symm.trans (bg h5');simpa using this.symm
  have q2:z'=ae (some ⟨g,0,none⟩) b.minutes.toNat cap:=(bg adp).symm.trans WH;subst q1;subst q2;have acH:=aH hS.one 14 _ rfl;have aiz:=hS.one;have hk2:=aH hkb' 0 _ rfl
  have hcon:=AL b hb men sent marks ms hm (b.bM+a.used) (by have:=hb.bM;have:=ha.leak;have:=ha.m0;have:=ha.m1;have:=ha.m2;simp only[dT.used];omega) (bE ss) marks w.heap.size k' g 0 b.minutes.toNat cap w2 (hvm.below hS.below) hS.one (aH hkb' 0 _ rfl) (ak.1 hkb').1 (ak.1 hgb).1 rfl
   (fun j u hj=>aH hgb _ _ (by rw[cJ];exact qs j u hj))
  have rD:=hS.below;rw[k0,k1,k2,k3,k4,h5] at ha_;clear qs hS XD hvm h5' adp WH h5 k0 k1 k2 k3 k4 hgb hkb hkb';generalize a2.tmps.getD 6 af=t6,a2.tmps.getD 7 af=t7,a2.tmps.getD 8 af=t8,a2.tmps.getD 9 af=t9,a2.tmps.getD 10 af=t10,a2.tmps.getD 11 af=t11,a2.tmps.getD 12 af=t12,a2.tmps.getD 13 af=t13,a2.tmps.getD 14 af=t14,a2.tmps.getD 15 af=t15,a2.tmps.getD 16 af=t16,a2.tmps.getD 17 af=t17,a2.tmps.getD 18 af=t18 at ha_;subst ha_;have HC:=ai hcon;clear hcon
  go_wp2_with (first|(go_at_call 175;refine HC.out.mono ?_;clear HC;rintro e w3 ⟨rfl,hb3⟩))
  go_ret
  exact⟨by simp,rD.trans (hb3.mono rD.size)⟩
end Go.Proofs.YtffladgmkiimjaaGreatDoor
