/- A DRAWN REGION, EACH OPERATION BY ITSELF: what each operation gives is told once, from what the operations that it comes after gave; the order drawn n .. -/
import Derived.RegionTactic
import Derived.OrdersIn
import Derived.Below
import Derived.Laws.Tables
import Derived.Test.YtffladgmkiimjaaGreatDoorW00
import Derived.RangeFuncNested
import Derived.RangeFuncBound
import Derived.RangeFuncCalls
import Derived.RangeFuncLeaves
import Derived.Shelf.RegionOpen
import Derived.OwnWalkIn
import Derived.TacticsInMore
import Derived.LoopNIn
import Derived.LoopIn
import Derived.Maps.OwnIn
import Derived.Maps.AppendAt
import Derived.RangeFuncBox
set_option linter.unusedVariables false
set_option linter.unusedSimpArgs false
set_option maxHeartbeats 100000000
set_option maxRecDepth 1000000
open Array renaming getElem_modify → A0,getElem_toList → AZ,getElem?_eq_getElem → aR,replicate → aU,getD_eq_getD_getElem? → aW,getElem?_eq_some_iff → aj,getElem?_setIfInBounds → bD,getD → fg,getElem?_replicate → jC,replicate_zero → ki,replicate_succ → kj
open Bool renaming and_eq_true → aS
open Go renaming callsIn_wide → AQ,Program → aN,undef → af,Value → ak,World → ar,TypeId → bg,Calls → bp,Operand → cB,Oper → cU,execOp → dX,Act → ko,yielded → o7,bytes → rR
open Go.Builtin renaming zeroCells → gl
open Go.Ending renaming returned → aG
open Go.IntKind renaming i64 → ag
open Go.Lib renaming hid → ai
open Go.Obj renaming cells → au
open Go.Proofs.Tryz renaming prog → aq,underlying122 → jf
open Go.Region renaming wanted → dQ,ready → gV,binds → nK
open Go.Result renaming andThen_ok → AU
open Go.RowKit renaming Below → aC
open Go.RowKit.Below renaming heap_alloc → aX,refl → aw,heap_setCell → bu
open Go.Value renaming pointer → a8,bool → aA,int → aM,agg → aQ,slice → ae,int → ah,oneCell' → cy,ownBlock → ju
open Go.World renaming alloc_heap_new → ax,cell? → dU,putObj_heap_other → dt,cell?_alloc_lt → eF,size_alloc → ey,setCell → jA
open List renaming eq_nil_of_length_eq_zero → aZ,mem_append → bJ,all_eq_true → bL,mem_range → bN,range → bf,take_of_length_le → dg,mem_of_mem_take → fZ,append_toArray → iG,cons_append → iM,length_cons → jB,size_toArray → jI,push_toArray → jJ,nil_append → kx,mem_filter → kz,getElem_of_mem → lz,length_nil → oC,length_append → qb
open Nat renaming reduceSub → Cq,reduceAdd → Cr,le_refl → ay,lt_of_lt_of_le → bE,le_trans → bq,zero_add → eo
open Option renaming map_some → ej,bind_some → iK
open Option.some renaming inj → bt
open Or renaming inl → bI
namespace Go.Lag
open Go Go.RowKit
abbrev pv(b i:Nat):Value:=.pointer (some ⟨b,i,none⟩)
def Yields(P:aN)(o:cU)(ev:cB→ak)(w:ar)(R:ak→ar→Prop):Prop:=
 match (dX ev o).run P w with
 |.ok (.value v) w'=>R v w'
 |.ok .skip w'=>R af w'
 |.ok (.enter f args) w'=>bp P f args w' fun e w''=>∃v,e=.returned v∧R v w''
 |_=>False
theorem Yields.value{P:aN}{o:cU}{ev:cB→ak}{w w':ar}{R:ak→ar→Prop}{v:ak}(he:(dX ev o).run P w=.ok (.value v) w')(h:R v w'):Yields P o ev w R:=by
 unfold Yields;rw[he];exact h
theorem Yields.skip{P:aN}{o:cU}{ev:cB→ak}{w w':ar}{R:ak→ar→Prop}(he:(dX ev o).run P w=.ok .skip w')(h:R af w'):Yields P o ev w R:=by
 unfold Yields;rw[he];exact h
theorem Yields.call{P:aN}{o:cU}{ev:cB→ak}{w:ar}{R:ak→ar→Prop}{f:FuncId}{args:Array ak}{R':Ending→ar→Prop}(he:(dX ev o).run P w=.ok (.enter f args) w)
  (h:bp P f args w R') (hr : ∀e w',R' e w'→∃v,e=.returned v∧R v w'):Yields P o ev w R:=by
 unfold Yields;rw[he];exact h.mono hr
theorem Yields.wp{P:aN}{o:cU}{a:ko}{w:ar}{R:ak→ar→Prop}{K:ko→ar→Prop}{Q:Exit→ko→ar→Prop}(h:Yields P o a.eval w R)
  (hk : ∀v w',R v w'→K (a.put o.dst v) w'):o.wp P a w K Q:=by
 unfold Oper.wp;unfold Yields at h;generalize (dX a.eval o).run P w=r at *;cases r with
 |halt x w'=>exact h.elim
 |ok n w'=>
  cases n<;>simp only[] at h
  ·exact hk _ _ h
  ·exact hk _ _ h
  all_goals first|exact h.elim|skip
  ·exact h.mono (by rintro e w'' ⟨v,rfl,hv⟩;exact hk _ _ hv)
abbrev Pred:=ak→List ak→ar→Prop
def gH(ops:Array cU)(j:Nat):Option Tmp:=(ops[j]?).bind (·.dst)
def kq(d:Option Tmp)(ev:cB→ak):Value:=
 match d with
 |some d=>ev (.tmp d)
 |none=>af
def gY(Vs:List Pred)(i:Nat):Pred:=Vs.getD i fun _ _ _=>True
def gQ(ops:Array cU)(ev:cB→ak)(l:List Edge):List Value:=(l.filter (nK .any)).map fun e=>kq (gH ops e.on) ev
def gS(ops:Array cU)(i:Nat):List Edge:=match ops[i]? with|some o=>o.after.toList|none=>[]
def iF(ev:cB→ak):List (Tmp × ak)→Prop
 |[]=>True
 |(t,v) :: l=>ev (.tmp t)=v∧iF ev l
def Cn(ops:Array cU)(Vs:List Pred)(ev:cB→ak)(w:ar):List Edge→Prop
 |[]=>True
 |e :: l=>(nK .any e=true→gY Vs e.on (kq (gH ops e.on) ev) (gQ ops ev (gS ops e.on)) w)∧Cn ops Vs ev w l
def Post(ops:Array cU)(ev:cB→ak)(Vs:List Pred)(S:ar→Prop)(i:Nat)(o:cU)(w:ar)(v:ak)(w':ar):Prop:=
 gY Vs i (match o.dst with|some _=>v|none=>af) (gQ ops ev o.after.toList) w'∧(aC w.heap.size w w'∨(S w'∧∀k u ds,k≠i→gY Vs k u ds w→gY Vs k u ds w'))
abbrev qM:=cU→(cB→ak)→ar→(ak→ar→Prop)→Prop
def NL(Y:qM)(ops:Array cU)(Vs:List Pred)(S:ar→Prop)(base:List (Tmp × ak))(i:Nat)(o:cU):Prop:=
 ∀(ev:cB→ak) (w:ar),S w→(∀v,ev (.const v)=v)→(∀g,ev (.global g)=.pointer (some ⟨g,0,none⟩))→(∀f,ev (.func f)=.func (.func f) #[] #[])→iF ev base→Cn ops Vs ev w o.after.toList→
  match o.guard with
  |none=>Y o ev w (Post ops ev Vs S i o w)
  |some (j,b)=>(∃r,kq (gH ops j) ev=.bool r)∧∀r,kq (gH ops j) ev=.bool r→if r=b then Y o ev w (Post ops ev Vs S i o w) else Post ops ev Vs S i o w af w
def Each(Y:qM)(ops:Array cU)(Vs:List Pred)(S:ar→Prop)(base:List (Tmp × ak)):Nat→List cU→Prop
 |_,[]=>True
 |i,o :: l=>NL Y ops Vs S base i o∧Each Y ops Vs S base (i+1) l
def jz(S:ar→Prop):List Pred→Prop
 |[]=>True
 |V :: l=>(∀u ds w w',S w→V u ds w→aC w.heap.size w w'→V u ds w')∧jz S l
def kN(ops:Array cU)(n:Nat)(base:List (Tmp × ak)):Bool:=
 ((bf ops.size).all fun i=>
  match ops[i]? with
  |none=>false
  |some o=>(o.after.toList.all fun e=>!Region.binds .any e||decide (e.on<i)) &&
   (match o.dst with|some d=>decide (d<n)&&(base.all fun p=>decide (p.1≠d))&&((bf i).all fun j=>decide (gH ops j≠some d))|none=>true) &&
   (match o.guard with|some (j,_)=>(o.after.toList.any fun e=>nK .any e&&decide (e.on=j))|none=>true)) &&
 (base.all fun p=>decide (p.1<n))
section
variable{P:aN}{ops:Array cU}{Q:Exit→ko→ar→Prop}{Vs:List Pred}{S:ar→Prop}{base:List (Tmp × ak)}{n:Nat}
theorem Each.get{Y:qM}{i:Nat}{l:List cU}(h:Each Y ops Vs S base i l){j:Nat}{o:cU}(hj:l[j]?=some o):NL Y ops Vs S base (i+j) o:=by
 induction l generalizing i j with
 |nil=>simp at hj
 |cons x l ih=>
  cases j with
  |zero=>simp at hj;subst hj;exact h.1
  |succ j=>have:=ih h.2 (j:=j) (by simpa using hj);rwa [Nat.add_assoc,Nat.add_comm 1 j] at this
theorem jz.get(h:jz S Vs)(i:Nat){u:ak}{ds:List ak}{w w':ar}(hS:S w)(hb:aC w.heap.size w w')(hv:gY Vs i u ds w):gY Vs i u ds w':=by
 induction Vs generalizing i with
 |nil=>trivial
 |cons V l ih=>
  cases i with
  |zero=>exact h.1 u ds w w' hS hv hb
  |succ i=>exact ih h.2 i hv
theorem iF.congr{ev VC:cB→ak}{l:List (Tmp × ak)}(h:iF ev l)(he : ∀p∈l,VC (.tmp p.1)=ev (.tmp p.1)):iF VC l:=by
 induction l with
 |nil=>trivial
 |cons p l ih=>exact⟨(he p (by simp)).trans h.1,ih h.2 fun q hq=>he q (by simp[hq])⟩
theorem Cn.of{ev:cB→ak}{w:ar}{l:List Edge}(h : ∀e∈l,nK .any e=true→gY Vs e.on (kq (gH ops e.on) ev) (gQ ops ev (gS ops e.on)) w):Cn ops Vs ev w l:=by
 induction l with
 |nil=>trivial
 |cons e l ih=>exact⟨h e (by simp),ih fun e' he=>h e' (by simp[he])⟩
theorem nh(a:ko)(d:Option Tmp)(v:ak):(a.put d v).tmps.size=a.tmps.size:=by cases d<;>simp[Act.put]
theorem put_defers(a:ko)(d:Option Tmp)(v:ak):(a.put d v).defers=a.defers:=by cases d<;>rfl
theorem uX(a:ko)(d:Option Tmp)(v:ak)(t:Tmp)(h:d≠some t):(a.put d v).eval (.tmp t)=a.eval (.tmp t):=by
 cases d with
 |none=>rfl
 |some d=>
  have:d≠t:=fun e=>h (by rw[e]);simp[Act.put,Act.eval,aW,bD,this]
theorem put_eq(a:ko)(d:Tmp)(v:ak)(h:d<a.tmps.size):(a.put (some d) v).eval (.tmp d)=v:=by
 simp[Act.put,Act.eval,aW,bD,h]
structure iU(ops:Array cU)(Vs:List Pred)(S:ar→Prop)(a0:ko)(L:Array Bool)(a:ko)(w:ar):Prop where
 uo:L.size=ops.size
 size:a.tmps.size=a0.tmps.size
 defers:a.defers=a0.defers
 s:S w
 keep : ∀t,(∀o∈ops.toList,o.dst≠some t)→a.eval (.tmp t)=a0.eval (.tmp t)
 closed : ∀i e,L.getD i false=true→e∈gS ops i→nK .any e=true→L.getD e.on false=true
 vals : ∀i,L.getD i false=true→gY Vs i (kq (gH ops i) a.eval) (gQ ops a.eval (gS ops i)) w
theorem KO{i:Nat}{e:Edge}(cZ:kN ops n base=true)(he:e∈gS ops i)(hb:nK .any e=true):e.on<ops.size:=by
 unfold gS at he
 by_cases hi:i<ops.size
 ·have wh:ops[i]?=some ops[i]:=aR hi;rw[wh] at he;unfold kN at cZ;rw[aS,bL] at cZ;have h2:=cZ.1 i (bN.2 hi);rw[wh] at h2;simp only[aS] at h2;have h3:=bL.1 h2.1.1 e he;simp only[hb,Bool.not_true,Bool.false_or,decide_eq_true_eq] at h3;omega
 ·simp[Array.getElem?_eq_none (Nat.le_of_not_lt hi)] at he
theorem pS{ev VC:cB→ak}{l:List Edge}(h : ∀e∈l,nK .any e=true→kq (gH ops e.on) VC=kq (gH ops e.on) ev):gQ ops VC l=gQ ops ev l:=by
 unfold gQ;apply List.map_congr_left;intro e he;rw[kz] at he;exact h e he.1 he.2
theorem ready_nil{L:Array Bool}(cZ:kN ops n base=true)(hL:L.size=ops.size)(h:gV .any ops L=[]) : ∀i,i<ops.size→L.getD i false=true:=by
 intro i
 induction i using Nat.strongRecOn with
 |ind i ih=>
  intro hi;refine Classical.byContradiction fun hc=>?_
  have hm:i∈gV .any ops L:=by
   unfold gV;rw[kz];have wh:ops[i]?=some ops[i]:=aR hi;refine⟨bN.2 hi,?_⟩;have tU:i<L.size:=by omega
   have h1:L.getD i true=false:=by
    simp[fg,tU] at hc ⊢;exact hc
   rw[h1,wh];simp only[Bool.not_false,Bool.true_and,ej,Option.getD_some];rw[Array.all_eq_true];intro k hk;unfold kN at cZ;rw[aS,bL] at cZ;have h2:=cZ.1 i (bN.2 hi);rw[wh] at h2;simp only[aS] at h2;have h3:=bL.1 h2.1.1 (ops[i].after[k]) (by simp);simp only[Bool.or_eq_true,Bool.not_eq_true',decide_eq_true_eq] at h3 ⊢;rcases h3 with h3|h3
   ·exact .inl h3
   ·exact .inr (ih _ h3 (by omega))
  rw[h] at hm;cases hm
def anyOf(step:Nat→(ko→ar→Prop)→ko→ar→Prop)(ops:Array cU)(Q:Exit→ko→ar→Prop):Nat→Array Bool→ko→ar→Prop
 |0,L,a,w=>gV .any ops L=[]∧Q .normal a w
 |fuel+1,L,a,w=>(gV .any ops L=[]→Q .normal a w)∧∀i∈gV .any ops L,step i (anyOf step ops Q fuel (L.setIfInBounds i true)) a w
theorem CY : ∀fuel L,wpAny P .any ops Q fuel L=anyOf (wpOp P ops Q) ops Q fuel L
 |0,L=>rfl
 |fuel+1,L=>by
  funext a w
  simp only[wpAny,anyOf];simp only[CY fuel]
theorem qq{a0:ko}{w:ar}(hS:S w):iU ops Vs S a0 (aU ops.size false) a0 w:=⟨by simp,rfl,rfl,hS,fun _ _=>rfl,fun i e hi _ _=>by
  simp[aW,jC] at hi;split at hi<;>simp at hi,fun i hi=>by
  simp[aW,jC] at hi
  split at hi<;>simp at hi⟩
theorem oQ:(aU ops.size false).toList.countP (!·)≤ops.size:=by simpa using List.countP_le_length (p:=(!·)) (l:=List.replicate ops.size false)
end
namespace Gd
open Go Go.RowKit
def NL(Y:qM)(ops:Array cU)(Vs:List Pred)(S:ar→Prop)(base:List (Tmp × ak))(i:Nat)(o:cU):Prop:=
 ∀(ev:cB→ak) (w:ar),S w→(∀v,ev (.const v)=v)→(∀g,ev (.global g)=.pointer (some ⟨g,0,none⟩))→(∀f,ev (.func f)=.func (.func f) #[] #[])→iF ev base→Cn ops Vs ev w o.after.toList→
  match o.guard with
  |none=>Y o ev w (Post ops ev Vs S i o w)
  |some (j,b)=>(kq (gH ops j) ev=.bool b→Y o ev w (Post ops ev Vs S i o w))∧(kq (gH ops j) ev≠.bool b→Post ops ev Vs S i o w af w)
def Each(Y:qM)(ops:Array cU)(Vs:List Pred)(S:ar→Prop)(base:List (Tmp × ak)):Nat→List cU→Prop
 |_,[]=>True
 |i,o :: l=>NL Y ops Vs S base i o∧Each Y ops Vs S base (i+1) l
section
variable{P:aN}{ops:Array cU}{Q:Exit→ko→ar→Prop}{Vs:List Pred}{S:ar→Prop}{base:List (Tmp × ak)}{n:Nat}
theorem Each.get{Y:qM}{i:Nat}{l:List cU}(h:Each Y ops Vs S base i l){j:Nat}{o:cU}(hj:l[j]?=some o):NL Y ops Vs S base (i+j) o:=by
 induction l generalizing i j with
 |nil=>simp at hj
 |cons x l ih=>
  cases j with
  |zero=>simp at hj;subst hj;exact h.1
  |succ j=>have:=ih h.2 (j:=j) (by simpa using hj);rwa [Nat.add_assoc,Nat.add_comm 1 j] at this
theorem tk{Y:qM}{step:Nat→(ko→ar→Prop)→ko→ar→Prop}
  (hs1 : ∀i o K a w R,ops[i]?=some o→dQ o (o7 ops a.tmps)=true→Y o a.eval w R→(∀v w',R v w'→K (a.put o.dst v) w')→step i K a w)
  (hs2 : ∀i o K a w,ops[i]?=some o→¬dQ o (o7 ops a.tmps)=true→K (a.put o.dst af) w→step i K a w)
  (cZ:kN ops n base=true) (ya:jz S Vs) (I4 : ∀w w',S w→aC w.heap.size w w'→S w') (a0:ko) (hn:a0.tmps.size=n) (hbase:iF a0.eval base) (lo:Nat) (hE : ∀j o,lo≤j→ops[j]?=some o→NL Y ops Vs S base j o)
  (hQ : ∀a w,iU ops Vs S a0 (aU ops.size true) a w→Q .normal a w) :
  ∀fuel (L:Array Bool) (a:ko) (w:ar),L.toList.countP (!·)≤fuel→(∀k,k<lo→L.getD k false=true)→iU ops Vs S a0 L a w→anyOf step ops Q fuel L a w:=by
 have fin : ∀(L:Array Bool) (a:ko) (w:ar),gV .any ops L=[]→iU ops Vs S a0 L a w→Q .normal a w:=fun L a w hr h=>
  hQ a w ⟨by simp,h.size,h.defers,h.s,h.keep,fun i e hi he hb=>by
   have hlt:e.on<ops.size:=KO cZ he hb;simp[fg,hlt],fun i hi=>by
   by_cases hlt:i<ops.size
   ·exact h.vals i (ready_nil cZ h.uo hr i hlt)
   ·simp[fg,hlt] at hi⟩
 intro fuel
 induction fuel with
 |zero=>
  intro L a w hc hlo h
  have hr:gV .any ops L=[]:=by
   apply List.eq_nil_iff_forall_not_mem.2;intro i hi;unfold gV at hi;rw[kz,bN] at hi;obtain⟨hi,h2⟩:=hi;have tU:i<L.size:=by have:=h.uo;omega
   simp[fg,tU] at h2;have h0:=List.countP_eq_zero.1 (Nat.le_zero.1 hc) L[i] (by simp);simp[h2.1] at h0
  exact⟨hr,fin L a w hr h⟩
 |succ fuel ih=>
  intro L a w hc hlo h;refine⟨fun hr=>fin L a w hr h,fun i hi=>?_⟩;have hi':=hi;unfold gV at hi';rw[kz,bN] at hi';obtain⟨hlt,h2⟩:=hi';have tU:i<L.size:=by have:=h.uo;omega
  have wh:ops[i]?=some ops[i]:=aR hlt;generalize ops[i]=o at wh;rw[wh] at h2;simp only[aS,Bool.not_eq_true',ej,Option.getD_some,Array.all_eq_true] at h2;obtain⟨RJ,Rz⟩:=h2
  have W6:o∈ops.toList:=by
   have:=Array.mem_of_getElem? wh;simpa using this
  have rE:=cZ;unfold kN at rE;rw[aS,bL,bL] at rE;have Ca:=rE.1 i (bN.2 hlt);rw[wh] at Ca;simp only[aS] at Ca;obtain⟨⟨XA,wu⟩,Xd⟩:=Ca
  have RM:Cn ops Vs a.eval w o.after.toList:=Cn.of fun e he hb=>by
   obtain⟨k,hk,rfl⟩:=lz he;have:=Rz k (by simpa using hk);simp only[AZ] at hb ⊢;rw[hb] at this;simp only[Bool.not_true,Bool.false_or] at this;exact h.vals _ this
  have hBs:iF a.eval base:=hbase.congr fun p hp=>h.keep _ fun o' ho' hd=>by
   obtain⟨k,hk,rfl⟩:=lz ho';have xC:k<ops.size:=by simpa using hk
   have h3:=rE.1 k (bN.2 xC);rw[aR xC] at h3;simp only[AZ] at hd;simp only[aS,hd] at h3;have:=bL.1 h3.1.2.1.2 p hp;simp at this
  have hil:lo≤i:=by
   refine Nat.le_of_not_lt fun hc2=>?_;have:=hlo i hc2;simp[fg,tU] at RJ this;rw[RJ] at this;cases this
  have hO:=hE i o hil wh a.eval w h.s (fun _=>rfl) (fun _=>rfl) (fun _=>rfl) hBs RM;have hao:gS ops i=o.after.toList:=by unfold gS;rw[wh]
  have J1 : ∀e∈o.after.toList,nK .any e=true→L.getD e.on false=true:=fun e he hb=>by
   obtain⟨k,hk,rfl⟩:=lz he;have:=Rz k (by simpa using hk);simp only[AZ] at hb ⊢;rw[hb] at this;simpa using this
  have hne : ∀k,L.getD k false=true→k≠i∧k<ops.size:=fun k hk=>by
   refine⟨fun e=>?_,?_⟩
   ·subst e;simp[fg,tU] at RJ hk;rw[RJ] at hk;cases hk
   ·rcases Nat.lt_or_ge k ops.size with h5|h5
    ·exact h5
    ·have : ¬k<L.size:=by have:=h.uo;omega
     simp[fg,this] at hk
  have next : ∀v w',Post ops a.eval Vs S i o w v w'→anyOf step ops Q fuel (L.setIfInBounds i true) (a.put o.dst v) w':=fun v w' hp=>by
   have hval : ∀k,L.getD k false=true→kq (gH ops k) (a.put o.dst v).eval=kq (gH ops k) a.eval:=fun k xC=>by
    obtain⟨zJ,yN⟩:=hne k xC;cases K0:gH ops k with
    |none=>rfl
    |some d=>
     refine uX _ _ _ _ fun Vk=>?_;rcases Nat.lt_trichotomy k i with h5|h5|h5
     ·rw[Vk] at wu;simp only[aS,decide_eq_true_eq] at wu;have:=bL.1 wu.2 k (bN.2 h5);simp[K0] at this
     ·exact zJ h5
     ·have h6:=rE.1 k (bN.2 yN);rw[aR yN] at h6
      have h7:(ops[k]).dst=some d:=by
       unfold gH at K0;rw[aR yN] at K0;simpa using K0
      simp only[aS,h7] at h6;have:=bL.1 h6.1.2.2 i (bN.2 h5);unfold gH at this;rw[wh] at this;simp[Vk] at this
   have uB : ∀k,L.getD k false=true→(L.setIfInBounds i true).getD k false=true:=fun k hk=>by
    have:=(hne k hk).1;simpa [aW,bD,Ne.symm this] using hk
   have hback : ∀k,k≠i→(L.setIfInBounds i true).getD k false=true→L.getD k false=true:=fun k zJ hk=>by
    simpa [aW,bD,Ne.symm zJ] using hk
   refine ih _ _ _ ?_ (fun k hk=>uB k (hlo k hk)) ⟨by simp[h.uo],by rw[nh,h.size],by rw[put_defers,h.defers],?_,fun t ht=>?_,fun k e hk he hb=>?_,fun k hk=>?_⟩
   ·have hLv:L[i]=false:=by simpa [fg,tU] using RJ
    have h4:(L.setIfInBounds i true).toList.countP (!·)=L.toList.countP (!·) - 1:=by
     rw[Array.toList_setIfInBounds,List.countP_set (by simpa using tU)];simp[hLv]
    omega
   ·exact hp.2.elim (fun hb=>I4 _ _ h.s hb) fun hs=>hs.1
   ·rw[uX _ _ _ _ (ht o W6)];exact h.keep t ht
   ·by_cases zJ:k=i
    ·subst zJ;rw[hao] at he;exact uB _ (J1 e he hb)
    ·exact uB _ (h.closed k e (hback k zJ hk) he hb)
   ·by_cases zJ:k=i
    ·subst zJ
     have hdd:gQ ops (a.put o.dst v).eval (gS ops k)=gQ ops a.eval o.after.toList:=by
      rw[hao];exact pS fun e he hb=>hval _ (J1 e he hb)
     rw[hdd];have:=hp.1;unfold gH kq;rw[wh];simp only[iK];cases hd:o.dst with
     |none=>rw[hd] at this;exact this
     |some d=>
      rw[hd] at this wu;simp only[aS,decide_eq_true_eq] at wu;have h9:=put_eq a d v (by rw[h.size,hn];exact wu.1.1);simp only[] at this ⊢;rw[h9];exact this
    ·have xC:=hback k zJ hk;have WI:=h.vals k xC;have hdd:gQ ops (a.put o.dst v).eval (gS ops k)=gQ ops a.eval (gS ops k):=pS fun e he hb=>hval _ (h.closed k e xC he hb);rw[hval k xC,hdd];exact hp.2.elim (fun hb=>ya.get k h.s hb WI) fun hs=>hs.2 k _ _ zJ WI
  cases hg:o.guard with
  |none=>
   rw[hg] at hO;exact hs1 i o _ a w _ wh (by simp[dQ,hg]) hO next
  |some jb=>
   obtain⟨j,b⟩:=jb;rw[hg] at hO;obtain⟨hO1,Td⟩:=hO
   by_cases hr:kq (gH ops j) a.eval=.bool b
   ·have hy:o7 ops a.tmps j=some b:=by
     unfold o7;unfold kq at hr;unfold gH at hr;cases hd:(ops[j]?).bind (·.dst) with
     |none=>rw[hd] at hr;simp[af] at hr
     |some d=>
      rw[hd] at hr;simp only[iK]
      have h8:a.tmps[d]?=some (.bool b):=by
       unfold Act.eval at hr;simp only[] at hr
       by_cases Cb:d<a.tmps.size
       ·simp[fg,Cb] at hr;rw[aR Cb,hr]
       ·simp[fg,Cb,af] at hr
      rw[h8]
    exact hs1 i o _ a w _ wh (by simp[dQ,hg,hy]) (hO1 hr) next
   ·have hy:o7 ops a.tmps j≠some b:=by
     intro hy;refine hr ?_;unfold o7 at hy;unfold kq gH;cases hd:(ops[j]?).bind (·.dst) with
     |none=>rw[hd] at hy;simp at hy
     |some d=>
      rw[hd] at hy;simp only[iK] at hy;simp only[];unfold Act.eval;simp only[];cases h8:a.tmps[d]? with
      |none=>rw[h8] at hy;simp at hy
      |some v=>
       rw[h8] at hy
       have hv:v=.bool b:=by
        revert hy;cases v<;>simp
       simp[aW,h8,hv]
    exact hs2 i o _ a w wh (by simpa [dQ,hg] using hy) (next _ _ (Td hr))
theorem cj{id:Nat}{a0:ko}{w:ar}(hm:P.follows .mixedOrders=true)(Vs:List Pred)(S:ar→Prop)(base:List (Tmp × ak))(cZ:kN ops a0.tmps.size base=true)(ya:jz S Vs)(I4 : ∀w w',S w→aC w.heap.size w w'→S w')
  (hS:S w.drew) (hbase:iF a0.eval base) (hE:Each (Yields P) ops Vs S base 0 ops.toList) (hQ : ∀a w,iU ops Vs S a0 (aU ops.size true) a w→Q .normal a w):(Code.region id ops true).wp P Q a0 w:=
 wp_region_any hm (by
  rw[CY]
  exact tk (Y:=Yields P) (fun i o K a w R ho hw hy hk=>wpOp_step ho fun K' hK=>by rw[if_pos hw];exact hy.wp fun v w' hv=>hK _ _ (hk v w' hv))
   (fun i o K a w ho hw hk=>wpOp_step ho fun K' hK=>by rw[if_neg hw];exact hK _ _ hk) cZ ya I4 a0 rfl hbase 0 (fun j o _ h=>by have:=hE.get (j:=j) (o:=o) (by simpa using h);rwa [eo] at this) hQ ops.size _ a0 _ oQ (fun k hk=>by omega) (qq hS))
end
end Gd
section
variable{P:aN}{ops:Array cU}{Q:Exit→ko→ar→Prop}{Vs:List Pred}{S:ar→Prop}{base:List (Tmp × ak)}{n:Nat}
theorem NL.gd{Y:qM}{i:Nat}{o:cU}(h:NL Y ops Vs S base i o):Gd.NL Y ops Vs S base i o:=by
 intro ev w hS hc hg hf hb hd;have h1:=h ev w hS hc hg hf hb hd;cases hgd:o.guard with
 |none=>rw[hgd] at h1;exact h1
 |some jb=>
  obtain⟨j,b⟩:=jb;rw[hgd] at h1;obtain⟨⟨r,hr⟩,h2⟩:=h1;exact⟨fun e=>by have:=h2 b e;rwa [if_pos rfl] at this,fun e=>by have:=h2 r hr;rwa [if_neg (fun h=>e (hr.trans (congrArg _ h)))] at this⟩
theorem Each.gd{Y:qM} : ∀ {i:Nat} {l:List cU},Each Y ops Vs S base i l→Gd.Each Y ops Vs S base i l
 |_,[],_=>trivial
 |_,_ :: _,h=>⟨h.1.gd,Each.gd h.2⟩
theorem cj{id:Nat}{a0:ko}{w:ar}(hm:P.follows .mixedOrders=true)(Vs:List Pred)(S:ar→Prop)(base:List (Tmp × ak))(cZ:kN ops a0.tmps.size base=true)(ya:jz S Vs)(I4 : ∀w w',S w→aC w.heap.size w w'→S w')
  (hS:S w.drew) (hbase:iF a0.eval base) (hE:Each (Yields P) ops Vs S base 0 ops.toList) (hQ : ∀a w,iU ops Vs S a0 (aU ops.size true) a w→Q .normal a w):(Code.region id ops true).wp P Q a0 w:=
 Gd.cj hm Vs S base cZ ya I4 hS hbase hE.gd hQ
def YieldsIn(P:aN)(o:cU)(ev:cB→ak)(w:ar)(R:ak→ar→Prop):Prop:=
 match (dX ev o).run P w with
 |.ok (.value v) w'=>R v w'
 |.ok .skip w'=>R af w'
 |.ok (.enter f args) w'=>bp P f args w' fun e w''=>∃v,e=.returned v∧R v w''
 |.ok (.round l f tmps assign body) w'=>∀m,RoundIn Fence.wide m P l f tmps assign body w' fun e w''=>∃v,e=.returned v∧R v w''
 |_=>False
theorem YieldsIn.wpIn{P:aN}{m:Nat}{o:cU}{a:ko}{w:ar}{R:ak→ar→Prop}{K:ko→ar→Prop}{Q:Exit→ko→ar→Prop}(h:YieldsIn P o a.eval w R)
  (hk : ∀v w',R v w'→K (a.put o.dst v) w'):o.wpIn Fence.wide m P a w K Q:=by
 refine⟨fun _ _=>trivial,?_⟩;have e:o.semAt Fence.wide.round a.eval=dX a.eval o:=rfl;rw[e];unfold YieldsIn at h;generalize (dX a.eval o).run P w=r at *;cases r with
 |halt x w'=>exact h.elim
 |ok n w'=>
  cases n<;>simp only[] at h<;>first|exact h.elim|skip
  ·exact hk _ _ h
  ·exact hk _ _ h
  ·refine⟨fun h=>(by cases h),?_⟩;rw[AQ];exact h.mono (by rintro e w'' ⟨v,rfl,hv⟩;exact hk _ _ hv)
  ·refine⟨fun h=>(by cases h),?_⟩;exact(h _).mono (by rintro e w'' ⟨v,rfl,hv⟩;exact hk _ _ hv)
def keeps(ops:Array cU)(t:Tmp):Bool:=ops.toList.all fun o=>decide (o.dst≠some t)
theorem iU.kept{a0 a:ko}{L:Array Bool}{w:ar}(h:iU ops Vs S a0 L a w){t:Tmp}(hk:keeps ops t=true):a.tmps.getD t af=a0.tmps.getD t undef:=
 h.keep t fun o ho=>by
  have:=bL.1 hk o ho;simpa using this
theorem iU.kp{a0 a:ko}{L:Array Bool}{w:ar}(h:iU ops Vs S a0 L a w)(t:Tmp)(hk:keeps ops t=true):a.tmps.getD t af=a0.tmps.getD t undef:=h.kept hk
theorem iU.val{a0 a:ko}{w:ar}(h:iU ops Vs S a0 (aU ops.size true) a w)(i:Nat)(hi:i<ops.size):gY Vs i (kq (gH ops i) a.eval) (gQ ops a.eval (gS ops i)) w:=h.vals i (by simp[fg,hi])
theorem iU.act{a0 a:ko}{L:Array Bool}{w:ar}(h:iU ops Vs S a0 L a w):a=⟨((bf a0.tmps.size).map fun t=>a.tmps.getD t af).toArray,a0.defers⟩:=by
 have h1:=h.size;have h2:=h.defers;obtain⟨tm,df⟩:=a;simp only[] at h1 h2;subst h2;rw[←h1]
 congr 1
 apply Array.ext
 ·simp
 ·intro i h1 h2;simp[fg,h1]
theorem iU.lits{a0 a:ko}{L:Array Bool}{w:ar}(h:iU ops Vs S a0 L a w)(n:Nat)(hn:a0.tmps.size=n):a=⟨((bf n).map fun t=>a.tmps.getD t af).toArray,a0.defers⟩:=hn▸h.act
end
theorem kO(l:List ak)(i:Nat)(d:ak):l.toArray.getD i d=l.getD i d:=by simp[aW,List.getD]
theorem M8{P:aN}{o:cU}{ev:cB→ak}{w:ar}{c a b:cB}{t:Bool}(ho:o.op=.pick c a b)(hc:ev c=.bool t):(dX ev o).run P w=.ok (.value (if t then ev a else ev b)) w:=by
 unfold dX;simp only[ho,hc,asBool,Sem.run_bind,Sem.run_pure,AU]
theorem Yields.Zj{P:aN}{o:cU}{ev:cB→ak}{w:ar}{R:ak→ar→Prop}{c b:cB}{A B:Bool}(ho:o.op=.pick c (.const (.bool true)) b)(hc : ∀v,ev (.const v)=v)(hA:ev c=.bool A)(hB:A=false→ev b=.bool B)(h:R (.bool (A||B)) w):Yields P o ev w R:=by
 refine .value (M8 ho hA) ?_;cases A
 ·rw[hB rfl];exact h
 ·rw[hc];exact h
theorem Yields.Zk{P:aN}{o:cU}{ev:cB→ak}{w:ar}{R:ak→ar→Prop}{c b:cB}{A B:Bool}(ho:o.op=.pick c b (.const (.bool false)))(hc : ∀v,ev (.const v)=v)(hA:ev c=.bool A)(hB:A=true→ev b=.bool B)(h:R (.bool (A&&B)) w):Yields P o ev w R:=by
 refine .value (M8 ho hA) ?_;cases A
 ·rw[hc];exact h
 ·rw[hB rfl];exact h
abbrev pV(x:ak):Pred:=fun v _ _=>v=x
abbrev pC(c:Bool)(x:ak):Pred:=fun v _ _=>c=true→v=x
theorem sV{S:ar→Prop}{x:ak} : ∀(u:ak) (ds:List ak) (w w':ar),S w→pV x u ds w→aC w.heap.size w w'→pV x u ds w':=fun _ _ _ _ _ h _=>h
theorem sC{S:ar→Prop}{c:Bool}{x:ak} : ∀(u:ak) (ds:List ak) (w w':ar),S w→pC c x u ds w→aC w.heap.size w w'→pC c x u ds w':=fun _ _ _ _ _ h _=>h
section
variable{P:aN}{ops:Array cU}{Vs:List Pred}{S:ar→Prop}{o:cU}{ev:cB→ak}{w:ar}{i:Nat}
theorem yv{v:ak}(he:(dX ev o).run P w=.ok (.value v) w)(hp:gY Vs i (match o.dst with|some _=>v|none=>af) (gQ ops ev o.after.toList) w):Yields P o ev w (Post ops ev Vs S i o w):=.value he ⟨hp,.inl (aw _ _)⟩
theorem yO{c b:cB}{A B:Bool}(ho:o.op=.pick c (.const (.bool true)) b)(hc : ∀v,ev (.const v)=v)(hA:ev c=.bool A)(hB:A=false→ev b=.bool B)(hp:gY Vs i (match o.dst with | some _=>.bool (A||B) | none=>af) (gQ ops ev o.after.toList) w):Yields P o ev w (Post ops ev Vs S i o w):=.Zj ho hc hA hB ⟨hp,.inl (aw _ _)⟩
theorem yA{c b:cB}{A B:Bool}(ho:o.op=.pick c b (.const (.bool false)))(hc : ∀v,ev (.const v)=v)(hA:ev c=.bool A)(hB:A=true→ev b=.bool B)(hp:gY Vs i (match o.dst with|some _=>.bool (A&&B)|none=>af) (gQ ops ev o.after.toList) w):Yields P o ev w (Post ops ev Vs S i o w):=.Zk ho hc hA hB ⟨hp,.inl (aw _ _)⟩
theorem yc{f:FuncId}{args:Array ak}{X:ak}(h:bp P f args w fun e w'=>e=.returned X∧aC w.heap.size w w')(he:(dX ev o).run P w=.ok (.enter f args) w)(hp : ∀w',gY Vs i (match o.dst with|some _=>X|none=>af) (gQ ops ev o.after.toList) w'):Yields P o ev w (Post ops ev Vs S i o w):=
 .call he h (by rintro e w2 ⟨rfl,hb⟩;exact⟨_,rfl,hp _,.inl hb⟩)
theorem yq{f:FuncId}{args:Array ak}{X:ak}(h:bp P f args w fun e w'=>e=.returned X∧w=w')(he:(dX ev o).run P w=.ok (.enter f args) w)(hp : ∀w',gY Vs i (match o.dst with|some _=>X|none=>af) (gQ ops ev o.after.toList) w'):Yields P o ev w (Post ops ev Vs S i o w):=
 .call he h (by rintro e w2 ⟨rfl,rfl⟩;exact⟨_,rfl,hp _,.inl (aw _ _)⟩)
end
section
variable{A b x:Bool}{val V0 u X:ak}{Y R Z:Prop}{w:ar}
theorem gC(d:val=V0)(l:V0=.bool b↔A=true)(h:A=true→Y):(val=.bool b→Y)∧(val≠.bool b→(A=true→u=X)∧(aC w.heap.size w w∨Z)):=
 ⟨fun e=>h (l.1 (d.symm.trans e)),fun e=>⟨fun hc=>absurd (d.trans (l.2 hc)) e,.inl (aw _ _)⟩⟩
theorem gN(d:val=.bool x)(hne:(x==b)=false):(val=.bool b→Y)∧(val≠.bool b→True∧(aC w.heap.size w w∨Z)):=
 ⟨fun e=>absurd (d.symm.trans e) (by intro h;cases h;simp at hne),fun _=>⟨trivial,.inl (aw _ _)⟩⟩
theorem gL(d:val=.bool b)(h:Y):(val=.bool b→Y)∧(val≠.bool b→R):=⟨fun _=>h,fun e=>absurd d e⟩
end
theorem Yields.lR{P:aN}{o:cU}{ev:cB→ak}{w:ar}{R:ak→ar→Prop}(ty:bg)(x y:cB)(ho:o.op=.store ty x y)(g:Nat)(cells:Array ak)(hx:ev x=.pointer (some ⟨g,0,none⟩))(hy:ev y=.agg cells)
  (t:bg) (old:Array ak) (hg:w.heap[g]?=some (.cells old t (0,0))) (hi:(P.info? ty).map (·.size)=some cells.size) (hold:old.size=cells.size) (h1:cells.all (·.oneCell')=true) (h:R af (w.setRow g cells)):Yields P o ev w R:=by
 refine Yields.skip (w':=w.setRow g cells) ?_ h;unfold dX;simp only[ho,hx,hy,Instr.storeAt,Instr.sureAddr,Sem.run_bind,Sem.run_pure,AU,run_storeVar_row w g t ty old cells hg hi hold h1]
theorem Yields.yH{P:aN}{o:cU}{ev:cB→ak}{w:ar}{R:ak→ar→Prop}(ty:bg)(x:cB)(ho:o.op=.load ty x)(g:Nat)(hx:ev x=.pointer (some ⟨g,0,none⟩))(t:bg)(cs:Array ak)(fr:Nat × Nat)(d:TypeDesc)(hg:w.heap[g]?=some (.cells cs t fr))
  (hu:P.underlying ty=some d) (hd:(match d with|.struct _|.array _ _=>true|_=>false)=true) (hi:(P.info? ty).map (·.size)=some cs.size) (h:R (.agg cs) w):Yields P o ev w R:=by
 refine Yields.value (v:=.agg cs) (w':=w) ?_ h;unfold dX;simp only[ho,hx,Instr.loadAt,Instr.sureAddr,Sem.run_bind,Sem.run_pure,AU,run_loadVar_row w g t ty cs fr d hg hu hd hi]
theorem k8{P:aN}{ops:Array cU}{Vs:List Pred}{S:ar→Prop}{o:cU}{ev:cB→ak}{w:ar}{i:Nat}(ty:bg){x:cB}(ho:o.op=.load ty x){g:Nat}(hx:ev x=.pointer (some ⟨g,0,none⟩)){t:bg}{cs:Array ak}{fr:Nat × Nat}{d:TypeDesc}(hg:w.heap[g]?=some (.cells cs t fr))
  (hu:P.underlying ty=some d) (hd:(match d with|.struct _|.array _ _=>true|_=>false)=true) (hi:(P.info? ty).map (·.size)=some cs.size) (hp:gY Vs i (match o.dst with|some _=>.agg cs|none=>af) (gQ ops ev o.after.toList) w):Yields P o ev w (Post ops ev Vs S i o w):=
 Yields.yH ty x ho g hx t cs fr d hg hu hd hi ⟨hp,.inl (aw _ _)⟩
end Go.Lag

namespace Go.Proofs.YtffladgmkiimjaaGreatDoor
open Go.RowKit Go.Lag
theorem Q0{w:ar}{B C g off L cap j:Nat}{n lo hi:Int}{b:BB}{men sent marks:ak}(h:w.heap[B]?=some (au (b.cells men sent marks) 119 (0,0)))(hC:w.cell? ⟨C,0,none⟩=some (ae (some ⟨g,off,none⟩) L cap))(O7:C<w.heap.size)(hg:g<w.heap.size)(hn:w.cell? ⟨g,off+j,none⟩=some (ah ag n)){w':ar}(hb:aC (w.heap.size+1) (w.alloc (au #[ah ag ((j:Int)+1),ah ag lo,ah ag hi] 81)) w'):(w'.cell? ⟨B,0,none⟩=some (ah ag b.room)∧w'.cell? ⟨B,1,none⟩=some (ah ag b.depth)∧w'.cell? ⟨B,2,none⟩=some (ah ag b.least)∧w'.cell? ⟨B,3,none⟩=some (ah ag b.minutes)∧w'.cell? ⟨B,4,none⟩=some (ah ag b.cu)∧w'.cell? ⟨B,5,none⟩=some (ah ag b.iB)∧w'.cell? ⟨B,6,none⟩=some (ah ag b.ek)∧w'.cell? ⟨B,7,none⟩=some (ah ag b.ji)∧w'.cell? ⟨B,8,none⟩=some (ah ag b.ll)∧w'.cell? ⟨B,9,none⟩=some (ah ag b.lm)∧w'.cell? ⟨B,10,none⟩=some (ah ag b.pl)∧w'.cell? ⟨B,11,none⟩=some (ah ag b.pm)∧w'.cell? ⟨B,12,none⟩=some (men)∧w'.cell? ⟨B,13,none⟩=some (sent)∧w'.cell? ⟨B,14,none⟩=some (marks)∧w'.cell? ⟨C,0,none⟩=some (ae (some ⟨g,off,none⟩) L cap)∧w'.cell? ⟨g,off+j,none⟩=some (ah ag n)∧w'.cell? ⟨w.heap.size,0,none⟩=some (ah ag ((j:Int)+1))∧w'.cell? ⟨w.heap.size,1,none⟩=some (ah ag lo)∧w'.cell? ⟨w.heap.size,2,none⟩=some (ah ag hi))∧aC (w.heap.size+1) (w.alloc (au #[ah ag ((j:Int)+1),ah ag lo,ah ag hi] 81)) w':=by
 have hBl:B<w.heap.size:=(aj.1 h).1;have h':w'.heap[B]?=some (au (b.cells men sent marks) 119 (0,0)):=by rw[hb.block B (by omega),aX _ _ _ hBl];exact h
 have hnew:w'.heap[w.heap.size]?=some (au #[ah ag ((j:Int)+1),ah ag lo,ah ag hi] 81 (0,0)):=by rw[hb.block w.heap.size (by omega)];exact ax w _
 obtain⟨x0,x1,x2,x3,x4,x5,x6,x7,x8,x9,nG,nE,oh,nM,nQ⟩:=bQ h';refine⟨⟨x0,x1,x2,x3,x4,x5,x6,x7,x8,x9,nG,nE,oh,nM,nQ,?_,?_,?_,?_,?_⟩,hb⟩
 ·exact(hb.cell (p:=⟨C,0,none⟩) (by show C<_;omega)).trans ((eF _ _ _ O7).trans hC)
 ·exact(hb.cell (p:=⟨g,off+j,none⟩) (by show g<_;omega)).trans ((eF _ _ _ hg).trans hn)
 ·simp[dU,hnew]
 ·simp[dU,hnew]
 ·simp[dU,hnew]
theorem DK{w:ar}{B C g off L cap j:Nat}{n lo hi:Int}{b:BB}{men sent marks:ak}(h:w.heap[B]?=some (au (b.cells men sent marks) 119 (0,0)))(hC:w.cell? ⟨C,0,none⟩=some (ae (some ⟨g,off,none⟩) L cap))(O7:C<w.heap.size)(hg:g<w.heap.size)(hn:w.cell? ⟨g,off+j,none⟩=some (ah ag n)){w1 w':ar}(hb:aC (w.heap.size+1) (w.alloc (au #[ah ag ((j:Int)+1),ah ag lo,ah ag hi] 81)) w1)(hb2:aC w1.heap.size w1 w'):(w'.cell? ⟨B,0,none⟩=some (ah ag b.room)∧w'.cell? ⟨B,1,none⟩=some (ah ag b.depth)∧w'.cell? ⟨B,2,none⟩=some (ah ag b.least)∧w'.cell? ⟨B,3,none⟩=some (ah ag b.minutes)∧w'.cell? ⟨B,4,none⟩=some (ah ag b.cu)∧w'.cell? ⟨B,5,none⟩=some (ah ag b.iB)∧w'.cell? ⟨B,6,none⟩=some (ah ag b.ek)∧w'.cell? ⟨B,7,none⟩=some (ah ag b.ji)∧w'.cell? ⟨B,8,none⟩=some (ah ag b.ll)∧w'.cell? ⟨B,9,none⟩=some (ah ag b.lm)∧w'.cell? ⟨B,10,none⟩=some (ah ag b.pl)∧w'.cell? ⟨B,11,none⟩=some (ah ag b.pm)∧w'.cell? ⟨B,12,none⟩=some (men)∧w'.cell? ⟨B,13,none⟩=some (sent)∧w'.cell? ⟨B,14,none⟩=some (marks)∧w'.cell? ⟨C,0,none⟩=some (ae (some ⟨g,off,none⟩) L cap)∧w'.cell? ⟨g,off+j,none⟩=some (ah ag n)∧w'.cell? ⟨w.heap.size,0,none⟩=some (ah ag ((j:Int)+1))∧w'.cell? ⟨w.heap.size,1,none⟩=some (ah ag lo)∧w'.cell? ⟨w.heap.size,2,none⟩=some (ah ag hi))∧aC (w.heap.size+1) (w.alloc (au #[ah ag ((j:Int)+1),ah ag lo,ah ag hi] 81)) w':=
 Q0 h hC O7 hg hn (hb.trans (hb2.mono (by have:=hb.size;simpa using this)))
theorem Hn(b:BB)(hb:b.Ok)(men sent marks:ak)(lo hi n:Int)(Vl:0≤n∧n≤999)(B C g off L cap j:Nat)(w:ar)(h:w.heap[B]?=some (au (b.cells men sent marks) 119 (0,0)))(hC:w.cell? ⟨C,0,none⟩=some (ae (some ⟨g,off,none⟩) L cap))(O7:C<w.heap.size)(hg:g<w.heap.size)(hn:w.cell? ⟨g,off+j,none⟩=some (ah ag n))(hj:j<L)(hL:L≤1000) :
  bp aq 176 #[aQ #[ah ag ((j:Int)+1),ah ag lo,ah ag hi],a8 (some ⟨B,0,none⟩),a8 (some ⟨C,0,none⟩)] w fun e w'=>e=aG (aA (!aL (b.Sd n) lo hi))∧aC w.heap.size w w':=by
 have HK:=ai h;have HC:=ai hC;have HN:=ai hn;have hjj:IntKind.i64.wrap ((j:Int)+1 - 1)=(j:Int):=by rw[show(j:Int)+1 - 1=(j:Int) by omega];exact fT _ (by omega) (by omega)
 have hj1:(j:Int)<(L:Int):=by omega
 have Vp:(j:Int)≤(L:Int):=by omega
 have hj0:(0:Int)≤(j:Int):=by omega
 have hjw:IntKind.i64.wrap (j:Int)=(j:Int):=fT _ (by omega) (by omega);clear h hC hn
 go_enter Tryz.func176,Tryz.ntmps176
 go_wp2
 go_region_held3 (fun w'=>(w'.cell? ⟨B,0,none⟩=some (ah ag b.room)∧w'.cell? ⟨B,1,none⟩=some (ah ag b.depth)∧w'.cell? ⟨B,2,none⟩=some (ah ag b.least)∧w'.cell? ⟨B,3,none⟩=some (ah ag b.minutes)∧w'.cell? ⟨B,4,none⟩=some (ah ag b.cu)∧w'.cell? ⟨B,5,none⟩=some (ah ag b.iB)∧w'.cell? ⟨B,6,none⟩=some (ah ag b.ek)∧w'.cell? ⟨B,7,none⟩=some (ah ag b.ji)∧w'.cell? ⟨B,8,none⟩=some (ah ag b.ll)∧w'.cell? ⟨B,9,none⟩=some (ah ag b.lm)∧w'.cell? ⟨B,10,none⟩=some (ah ag b.pl)∧w'.cell? ⟨B,11,none⟩=some (ah ag b.pm)∧w'.cell? ⟨B,12,none⟩=some (men)∧w'.cell? ⟨B,13,none⟩=some (sent)∧w'.cell? ⟨B,14,none⟩=some (marks)∧w'.cell? ⟨C,0,none⟩=some (ae (some ⟨g,off,none⟩) L cap)∧w'.cell? ⟨g,off+j,none⟩=some (ah ag n)∧w'.cell? ⟨w.heap.size,0,none⟩=some (ah ag ((j:Int)+1))∧w'.cell? ⟨w.heap.size,1,none⟩=some (ah ag lo)∧w'.cell? ⟨w.heap.size,2,none⟩=some (ah ag hi))∧aC (w.heap.size+1) (w.alloc (au #[ah ag ((j:Int)+1),ah ag lo,ah ag hi] 81)) w')
  (first|exact Q0 HK.out HC.out O7 hg HN.out (aw _ _).drew|exact Q0 HK.out HC.out O7 hg HN.out (aw _ _)|exact DK HK.out HC.out O7 hg HN.out (And.right (by assumption)) (by assumption)|exact DK HK.out HC.out O7 hg HN.out (And.right (by assumption)) (aw _ _))
  (first|(go_at_call 139;refine(Ip b hb men sent marks n Vl _).mono ?_;rintro e w1 ⟨rfl,hb1⟩)|(go_at_call 138;refine(qz _ _ _ _).mono ?_;rintro e w1 ⟨rfl,rfl⟩))
 rename _∧_=>hS;have hBw:=hS.2;clear hS;go_wp2
 go_ret
 exact⟨rfl,((aw _ _).alloc (ay _) _).trans (hBw.mono (by omega))⟩
def zY(b:BB)(used:Int)(p:Nat)(ms:List Mk):Bool:=ms.all fun m=>aL (b.Sd (b.BS used p m.minute.toNat)) m.lo m.hi
def jW(b:BB)(used:Int)(p:Nat):List Mk→Nat→Int
 |[],_=>-1
 |m :: r,k=>if aL (b.Sd (b.BS used p m.minute.toNat)) m.lo m.hi then jW b used p r (k+1) else k
theorem E7(b:BB)(used:Int)(p:Nat)(xs:List Mk)(k:Nat)(hk:k<xs.length):jW b used p (xs.drop k) k=if aL (b.Sd (b.BS used p xs[k].minute.toNat)) xs[k].lo xs[k].hi then jW b used p (xs.drop (k+1)) (k+1) else(k:Int):=by
 rw[List.drop_eq_getElem_cons hk];rfl
theorem Ho(b:BB)(used:Int)(p:Nat)(xs:List Mk):jW b used p (xs.drop xs.length) xs.length = -1:=by simp[jW]
theorem Hp(b:BB)(used:Int)(p:Nat) : ∀(xs:List Mk) (k:Nat),decide (0≤jW b used p xs k) = !zY b used p xs:=by
 intro xs
 induction xs with
 |nil=>intro k;simp[jW,zY]
 |cons n r ih=>
  intro k;simp only[jW,zY,List.all_cons];split
  ·rename_i h;rw[h,Bool.true_and];exact ih (k+1)
  ·rename_i h;simp at h;simp[h]
theorem E8(b:BB)(hb:b.Ok)(men sent marks:ak)(ms:List Mk)(hm:lu b ms)(used:Int)(hu:0≤used)(p:Nat)(v:ak)(B C g off L cap:Nat)(w:ar)(hv:Reads w v ms.length (eN ms))
  (jG:w.heap[B]?=some (au (b.cells men sent marks) 119 (0,0))) (hC:w.cell? ⟨C,0,none⟩=some (ae (some ⟨g,off,none⟩) L cap)) (O7:C<w.heap.size) (hg:g<w.heap.size) (hL:L=b.minutes.toNat) (hc : ∀j u,((b.m6 used p b.minutes.toNat).map (aM ag))[j]?=some u→w.cell? ⟨g,off+j,none⟩=some u) :
  bp aq 182 #[v,.func (.func 176) #[] #[a8 (some ⟨B,0,none⟩),a8 (some ⟨C,0,none⟩)]] w fun e w'=>e=aG (ah ag (jW b used p ms 0))∧aC w.heap.size w w':=by
 have HK:=ai jG;have HC:=ai hC;have HP:=ai hc;have HM:=ai hm;have Ac:=hb.minutes;have Vn:=hm.len;clear jG hC hc hm;rcases hv with⟨rfl,hn,hx0⟩|⟨gm,om,cm,rfl,hn,Ug,hcm⟩
 ·obtain rfl:ms=[]:=aZ hn;clear hx0 hn
  go_enter Tryz.func182,Tryz.ntmps182
  go_wp2
  go_loopw [8] (fun i wr=>i=ah ag 0∧aC w.heap.size w wr) (fun _ _=>0)
  case atStart=>exact⟨rfl,aw _ _⟩
  case round=>
   obtain⟨rfl,eA⟩:=hrel;go_wp2
   go_ret
   exact⟨rfl,eA⟩
 ·have NQ:=ai hcm;clear hcm;generalize hM:ms.length=M at *;have HL:=ai hM;clear hM
  go_enter Tryz.func182,Tryz.ntmps182
  go_wp2
  go_loopw [5,8] (fun _ i wr=>∃k:Nat,k≤M∧i=ah ag k∧jW b used p ms 0=jW b used p (ms.drop k) k∧aC w.heap.size w wr) (fun _ i _=>M - (intOf i).toNat)
  case atStart=>exact⟨0,by omega,rfl,rfl,aw _ _⟩
  case round=>
   obtain⟨k,hk,rfl,lx,eA⟩:=hrel;have hB1:=eA.size
   by_cases hlt:k<M
   ·have kH:k<ms.length:=by rw[HL.out];exact hlt
    obtain⟨y0,y1,y2⟩:=vR (w:=wr) (fun j u hj=>(eA.cell (p:=⟨gm,om+j,none⟩) Ug).trans (NQ.out j u hj)) k kH;have hx:=HM.out.mem ms[k] (List.getElem_mem kH);have hst:=E7 b used p ms k kH;rw[hst] at lx;clear hst;generalize ms[k]=x at *;obtain⟨mi,lo,hi⟩:=x;obtain⟨j,rfl⟩ : ∃j:Nat,mi=(j:Int)+1:=⟨(mi - 1).toNat,by have:=hx.1;simp at this;omega⟩
    have hjm:j<b.minutes.toNat:=by have:=hx.2.1;simp at this;omega
    have RH:=b.MI hb hu p (j+1);have hcell:=HP.out j (ah ag (b.BS used p (j+1))) (by simp[BB.m6,hjm]);have hT:=Hn b hb men sent marks lo hi (b.BS used p (j+1)) (by omega) B C g off L cap j wr ((eA.block B (aj.1 HK.out).1).trans HK.out) ((eA.cell (p:=⟨C,0,none⟩) O7).trans HC.out) (by omega) (by omega) ((eA.cell (p:=⟨g,off+j,none⟩) hg).trans hcell) (by omega) (by omega);rw[show(Mk.minute ⟨(j:Int)+1,lo,hi⟩).toNat=j+1 by show((j:Int)+1).toNat=j+1;omega] at lx;simp only[] at y0 y1 y2 lx;clear hx RH hcell hjm;cases hd:aL (b.Sd (b.BS used p (j+1))) lo hi
    ·rw[hd] at hT;simp only[hd,Bool.false_eq_true,if_false] at lx;have HB:=ai lx;have HT:=ai hT;clear lx hT hd
     go_wp2_with (go_at_call 176;refine HT.out.mono ?_;rintro e w2 ⟨rfl,hb2⟩)
     go_ret
     exact⟨il HB.out.symm,eA.trans (hb2.mono hB1)⟩
    ·rw[hd] at hT;simp only[hd,if_true] at lx;have HB:=ai lx;have HT:=ai hT;clear lx hT hd
     go_wp2_with (go_at_call 176;refine HT.out.mono ?_;rintro e w2 ⟨rfl,hb2⟩)
     go_roundw
     case rel=>exact⟨k+1,by omega,by go_num,HB.out,eA.trans (hb2.mono hB1)⟩
     case measure=>simp[intOf];omega
   ·obtain rfl:k=M:=by omega
    have e1:jW b used p ms 0 = -1:=by rw[lx,←HL.out];exact Ho b used p ms
    have HE:=ai e1;clear e1 lx;go_wp2
    go_ret
    exact⟨il HE.out.symm,eA⟩
theorem Aj(b:BB)(hb:b.Ok)(men sent marks:ak)(ms:List Mk)(hm:lu b ms)(used:Int)(hu:0≤used)(p:Nat)(v:ak)(B C g off L cap:Nat)(w:ar)(hv:Reads w v ms.length (eN ms))
  (jG:w.heap[B]?=some (au (b.cells men sent marks) 119 (0,0))) (hC:w.cell? ⟨C,0,none⟩=some (ae (some ⟨g,off,none⟩) L cap)) (O7:C<w.heap.size) (hg:g<w.heap.size) (hL:L=b.minutes.toNat) (hc : ∀j u,((b.m6 used p b.minutes.toNat).map (aM ag))[j]?=some u→w.cell? ⟨g,off+j,none⟩=some u) :
  bp aq 175 #[v,.func (.func 176) #[] #[a8 (some ⟨B,0,none⟩),a8 (some ⟨C,0,none⟩)]] w fun e w'=>e=aG (aA (!zY b used p ms))∧aC w.heap.size w w':=by
 have hI:=E8 b hb men sent marks ms hm used hu p v B C g off L cap w hv jG hC O7 hg hL hc;have hA:=Hp b used p ms 0;generalize jW b used p ms 0=q at *;have HI:=ai hI;have HA:=ai hA;clear hI hv jG hC hc hA
 go_enter Tryz.func175,Tryz.ntmps175
 go_wp2_with (go_at_call 182;refine HI.out.mono ?_;rintro e w2 ⟨rfl,hb2⟩)
 go_ret
 exact⟨qs HA.out,hb2⟩
theorem Ds(b:BB)(hb:b.Ok)(men sent marks:ak)(a:eV)(ha:a.Ok)(p:Nat)(hp:p<512)(w:ar) :
  bp aq 114 #[aQ (b.cells men sent marks),aQ a.cells,ah ag p] w fun e w'=>∃g cap,∃cur:Array ak,e=aG (ae (some ⟨g,0,none⟩) b.minutes.toNat cap)∧w.heap.size≤g∧g<w'.heap.size∧b.minutes.toNat≤cap∧
   w'.heap[g]?=some (au cur 3 (0,0))∧(∀(j:Nat) (u:ak),((b.m6 (b.cu+a.used) p b.minutes.toNat).map (aM ag))[j]?=some u→cur[j]?=some u)∧aC w.heap.size w w':=by
 refine(Dt b hb men sent marks a ha p hp w).mono ?_;rintro e w1 ⟨v,rfl,hown,hb1⟩;have hm:=hb.minutes;rcases hown.2 with⟨h0,h1⟩|⟨g,cap,cur,rfl,h2,h3,h4,h5,h6,h7⟩
 ·have:=(h1:b.minutes.toNat=0)
  omega
 ·refine⟨g,cap,cur,rfl,h2,(aj.1 h3).1,h4,h3,fun j u hj=>?_,hb1⟩;rw[←h7,List.getElem?_take] at hj;split at hj
  ·simpa using hj
  ·cases hj
theorem aH{W:ar}{B:Nat}{cs:Array ak}{t:bg}(h:W.heap[B]?=some (au cs t (0,0)))(i:Nat)(u:ak)(hi:cs[i]?=some u):W.cell? ⟨B,i,none⟩=some u:=by
 simp[dU,h,hi]
theorem cI{W:ar}{B:Nat}{cs:Array ak}{t:bg}(h:W.heap[B]?=some (au cs t (0,0)))(i:Nat):W.frozen? ⟨B,i,none⟩=false:=by
 simp[World.frozen?,h]
theorem A4{W:ar}{k:Nat}{z v:ak}{t:bg}(h:W.heap[k]?=some (au #[z] t (0,0))):(W.setCell ⟨k,0,none⟩ v).heap[k]?=some (au #[v] t (0,0)):=by
 obtain⟨hk,h⟩:=aj.1 h;simp[jA,hk,h,A0]
structure Two(w:ar)(A:Array ak)(tA:bg)(B:Array ak)(tB:bg)(w':ar):Prop where
 one:w'.heap[w.heap.size]?=some (au A tA (0,0))
 two:w'.heap[w.heap.size+1]?=some (au B tB (0,0))
 below:aC w.heap.size w w'
 size:w.heap.size+2≤w'.heap.size
theorem Two.mk'(w:ar)(A:Array ak)(tA:bg)(B:Array ak)(tB:bg):Two w A tA B tB ((w.alloc (au A tA)).alloc (au B tB)).drew:=
 ⟨(aX _ _ _ (by simp)).trans (ax w _),by have:=ax (w.alloc (au A tA)) (au B tB);rwa [ey] at this,
  (((aw _ w).alloc (ay _) _).alloc (by simp) _).drew,by show _≤((w.alloc _).alloc _).heap.size;simp⟩
theorem Two.next{w:ar}{A:Array ak}{tA:bg}{B:Array ak}{tB:bg}{w1 w2:ar}(h:Two w A tA B tB w1)(hb:aC w1.heap.size w1 w2):Two w A tA B tB w2:=by
 have hs:=h.size;exact⟨(hb.block _ (by omega)).trans h.one,(hb.block _ (by omega)).trans h.two,h.below.trans (hb.mono (by omega)),bq hs hb.size⟩
theorem Two.store{w:ar}{A:Array ak}{tA:bg}{B:Array ak}{tB:bg}{w1:ar}(h:Two w A tA B tB w1){k i:Nat}(hk:w.heap.size+2≤k)(u:ak):Two w A tA B tB (w1.setCell ⟨k,i,none⟩ u):=
 ⟨(bu _ _ _ _ (by show _≠k;omega)).trans h.one,(bu _ _ _ _ (by show _≠k;omega)).trans h.two,h.below.setCell (by show _≤k;omega) u,by simpa using h.size⟩
theorem LJ(b:BB)(hb:b.Ok)(men sent marks:ak)(ss:List Int)(hs:fp b ss)(ms:List Mk)(hm:lu b ms)(a:eV)(ha:a.Ok)(w:ar)(Va:Reads w sent ss.length (ss.map (aM ag)))(hvm:Reads w marks ms.length (eN ms)) :
  bp aq 143 #[aQ (b.cells men sent marks),aQ a.cells] w fun e w'=>e=aG (aA (zY b (b.cu+a.used) (bK ss) ms))∧aC w.heap.size w w':=by
 have Ac:=hb.minutes;have pw : ∀s∈ss,1≤s∧s≤8:=fun s h=>by have:=hs.mem s h;omega
 have OV:bK ss<512:=ni ss pw
 go_enter Tryz.func143,Tryz.ntmps143
 go_wp2
 refine cj (by kernel_rfl) [
 pV (aQ (b.cells men sent marks)),
  pV (aQ a.cells),
  pV (pv w.heap.size 0),
  pV (pv w.heap.size 13),
  pV (sent),
  pV (ah ag (bK ss)),
  fun v ds w9=>∃g cap,∃cur:Array ak,v=ae (some ⟨g,0,none⟩) b.minutes.toNat cap∧w.heap.size+2≤g∧b.minutes.toNat≤cap∧w9.heap[g]?=some (au cur 3 (0,0))∧∀(j:Nat) (u:ak),((b.m6 (b.cu+a.used) (bK ss) b.minutes.toNat).map (aM ag))[j]?=some u→cur[j]?=some u,
  fun v ds w9=>∃k z,v=pv k 0∧w.heap.size+2≤k∧w9.heap[k]?=some (au #[z] 25 (0,0)),
  fun v ds w9=>∃k z,ds[0]?=some (pv k 0)∧ds[1]?=some z∧w9.heap[k]?=some (au #[z] 25 (0,0))]
  (Two w (b.cells men sent marks) 119 a.cells 134) [(2,pv w.heap.size 0),(3,pv (w.heap.size+1) 0)] (by kernel_rfl) ?rst (fun w1 w2 h hb=>h.next hb) (Two.mk' _ _ _ _ _) ⟨rfl,rfl,trivial⟩ ?reach ?rfin
 case rst=>
  refine⟨sV,sV,sV,sV,sV,sV,?_,?_,?_,trivial⟩
  ·rintro v ds w1 w2 hS ⟨g,cap,cur,h1,h2,h3,h4,h5⟩ hb;exact⟨g,cap,cur,h1,h2,h3,(hb.block g (aj.1 h4).1).trans h4,h5⟩
  ·rintro v ds w1 w2 hS ⟨k,z,h1,h2,h3⟩ hb;exact⟨k,z,h1,h2,(hb.block k (aj.1 h3).1).trans h3⟩
  ·rintro v ds w1 w2 hS ⟨k,z,h1,h2,h3⟩ hb;exact⟨k,z,h1,h2,(hb.block k (aj.1 h3).1).trans h3⟩
 case reach=>
  refine⟨?_,?_,?_,?_,?_,?_,?_,?_,?_,trivial⟩<;>rintro ev w1 hS hc hg hf ⟨b2,b3,-⟩ hd
  ·clear hd;have x0:=aH hS.one 0 _ rfl;have x1:=aH hS.one 1 _ rfl;have x2:=aH hS.one 2 _ rfl;have x3:=aH hS.one 3 _ rfl;have x4:=aH hS.one 4 _ rfl;have x5:=aH hS.one 5 _ rfl;have x6:=aH hS.one 6 _ rfl;have x7:=aH hS.one 7 _ rfl;have x8:=aH hS.one 8 _ rfl;have x9:=aH hS.one 9 _ rfl;have nG:=aH hS.one 10 _ rfl;have nE:=aH hS.one 11 _ rfl;have oh:=aH hS.one 12 _ rfl;have nM:=aH hS.one 13 _ rfl;have nQ:=aH hS.one 14 _ rfl;refine yv ?_ rfl;go_simp
  ·clear hd;have y0:=aH hS.two 0 _ rfl;have y1:=aH hS.two 1 _ rfl;have y2:=aH hS.two 2 _ rfl;have y3:=aH hS.two 3 _ rfl;refine yv ?_ rfl;go_simp
  ·clear hd;refine yv ?_ rfl;go_simp
  ·have d2:ev (.tmp 8)=_:=hd.1 rfl;clear hd;refine yv ?_ rfl;go_simp
  ·have d3:ev (.tmp 9)=_:=hd.1 rfl;clear hd;have nM:=aH hS.one 13 _ rfl;refine yv ?_ rfl;go_simp
  ·have d4:ev (.tmp 10)=_:=hd.1 rfl;clear hd;refine yq (args:=#[sent]) (lL ss pw sent _ (Va.below hS.below)) ?_ fun _=>rfl;go_simp
  ·have d0:ev (.tmp 6)=_:=hd.1 rfl;have d1:ev (.tmp 7)=_:=hd.2.1 rfl;have d5:ev (.tmp 11)=_:=hd.2.2.1 rfl;clear hd;refine Lag.Yields.call (f:=114) (args:=#[aQ (b.cells men sent marks),aQ a.cells,ah ag (bK ss)]) ?_ (Ds b hb men sent marks a ha (bK ss) OV _) ?_
   ·go_simp
   ·rintro e w2 ⟨g,cap,cur,rfl,h1,h2,h3,h4,h5,h6⟩;exact⟨_,rfl,⟨g,cap,cur,rfl,bq hS.size h1,h3,h4,h5⟩,bI h6⟩
  ·clear hd;refine Lag.Yields.value (v:=pv w1.heap.size 0) (w':=w1.alloc (au #[ae none 0 0] 25)) ?_ ⟨⟨_,_,rfl,hS.size,ax _ _⟩,bI ((aw _ _).alloc (ay _) _)⟩;go_simp
  ·obtain⟨k,z,e5,hk,hkb⟩:=hd.1 rfl;replace e5:ev (.tmp 5)=_:=e5;obtain⟨g,cap,cur,VE,hg,hgc,hgb,qA⟩:=hd.2.1 rfl;clear hd;replace VE:ev (.tmp 12)=_:=VE;have CJ:g≠k:=by rintro rfl;rw[hgb] at hkb;cases hkb
   have c1:=aH hkb 0 _ rfl;have c2:=cI hkb 0;refine Lag.Yields.skip (w':=w1.setCell ⟨k,0,none⟩ (ae (some ⟨g,0,none⟩) b.minutes.toNat cap)) ?_ ⟨⟨k,_,congrArg some e5,congrArg some VE,A4 hkb⟩,.inr ⟨hS.store hk _,?_⟩⟩
   ·go_simp
   ·intro j u ds hj hp
    match j,hp with
    |0,hp=>exact hp
    |1,hp=>exact hp
    |2,hp=>exact hp
    |3,hp=>exact hp
    |4,hp=>exact hp
    |5,hp=>exact hp
    |6,⟨g',cap',cur',h1,h2,h3,h4,h5⟩=>exact⟨g',cap',cur',h1,h2,h3,(bu _ _ _ _ (by rintro rfl;rw[h4] at hkb;cases hkb)).trans h4,h5⟩
    |7,⟨k',z',h1,h2,h3⟩=>
     by_cases tv:k'=k
     ·subst tv;exact⟨k',_,h1,h2,A4 h3⟩
     ·exact⟨k',z',h1,h2,(bu _ _ _ _ tv).trans h3⟩
    |8,_=>exact(hj rfl).elim
    |j+9,_=>trivial
 case rfin=>
  intro a2 w2 hR;have hS:=hR.s;have e6 : ∃g cap,∃cur:Array ak,(a2.tmps.getD 12 af)=ae (some ⟨g,0,none⟩) b.minutes.toNat cap∧w.heap.size+2≤g∧b.minutes.toNat≤cap∧w2.heap[g]?=some (au cur 3 (0,0))∧∀(j:Nat) (u:ak),((b.m6 (b.cu+a.used) (bK ss) b.minutes.toNat).map (aM ag))[j]?=some u→cur[j]?=some u:=hR.val 6 (by decide);have e7 : ∃k z,(a2.tmps.getD 5 af)=pv k 0∧w.heap.size+2≤k∧w2.heap[k]?=some (au #[z] 25 (0,0)):=hR.val 7 (by decide);have e8 : ∃k z,([a2.tmps.getD 5 af,a2.tmps.getD 12 af,a2.tmps.getD 12 af,a2.tmps.getD 6 af,a2.tmps.getD 7 af,a2.tmps.getD 8 af,a2.tmps.getD 9 af,a2.tmps.getD 10 af,a2.tmps.getD 11 af,a2.tmps.getD 12 af,a2.tmps.getD 5 af]:List ak)[0]?=some (pv k 0)∧([a2.tmps.getD 5 af,a2.tmps.getD 12 af,a2.tmps.getD 12 af,a2.tmps.getD 6 af,a2.tmps.getD 7 af,a2.tmps.getD 8 af,a2.tmps.getD 9 af,a2.tmps.getD 10 af,a2.tmps.getD 11 af,a2.tmps.getD 12 af,a2.tmps.getD 5 af]:List ak)[1]?=some z∧w2.heap[k]?=some (au #[z] 25 (0,0)):=hR.val 8 (by decide);have k0:a2.tmps.getD 0 af=aQ (b.cells men sent marks):=hR.kept (by kernel_rfl);have k1:a2.tmps.getD 1 af=aQ a.cells:=hR.kept (by kernel_rfl);have k2:a2.tmps.getD 2 af=pv w.heap.size 0:=hR.kept (by kernel_rfl);have k3:a2.tmps.getD 3 af=pv (w.heap.size+1) 0:=hR.kept (by kernel_rfl);have k4:a2.tmps.getD 4 af=aA false:=hR.kept (by kernel_rfl);have ha_:a2=⟨#[a2.tmps.getD 0 af,a2.tmps.getD 1 af,a2.tmps.getD 2 af,a2.tmps.getD 3 af,a2.tmps.getD 4 af,a2.tmps.getD 5 af,a2.tmps.getD 6 af,a2.tmps.getD 7 af,a2.tmps.getD 8 af,a2.tmps.getD 9 af,a2.tmps.getD 10 af,a2.tmps.getD 11 af,a2.tmps.getD 12 af,a2.tmps.getD 13 af,a2.tmps.getD 14 af,a2.tmps.getD 15 af,a2.tmps.getD 16 af,a2.tmps.getD 17 af,a2.tmps.getD 18 af],[]⟩:=hR.act;clear hR;obtain⟨k,z,h5,hk,hkb⟩:=e7;obtain⟨g,cap,cur,Ur,hg,hgc,hgb,qA⟩:=e6;obtain⟨k',z',h5',aaQ,hkb'⟩:=e8;have q1:k'=k:=by have:=h5.symm.trans (bt h5');simpa using this.symm
  have q2:z'=ae (some ⟨g,0,none⟩) b.minutes.toNat cap:=(bt aaQ).symm.trans Ur;subst q1;subst q2;have Z9:=aH hS.one 14 _ rfl;have afE:=hS.one;have hk2:=aH hkb' 0 _ rfl
  have hcon:=Aj b hb men sent marks ms hm (b.cu+a.used) (by have:=hb.cu;have:=ha.leak;have:=ha.m0;have:=ha.m1;have:=ha.m2;simp only[eV.used];omega) (bK ss) marks w.heap.size k' g 0 b.minutes.toNat cap w2 (hvm.below hS.below) hS.one (aH hkb' 0 _ rfl) (aj.1 hkb').1 (aj.1 hgb).1 rfl
   (fun j u hj=>aH hgb _ _ (by rw[eo];exact qA j u hj))
  have rG:=hS.below;rw[k0,k1,k2,k3,k4,h5] at ha_;clear qA hS Va hvm h5' aaQ Ur h5 k0 k1 k2 k3 k4 hgb hkb hkb';generalize a2.tmps.getD 6 af=t6,a2.tmps.getD 7 af=t7,a2.tmps.getD 8 af=t8,a2.tmps.getD 9 af=t9,a2.tmps.getD 10 af=t10,a2.tmps.getD 11 af=t11,a2.tmps.getD 12 af=t12,a2.tmps.getD 13 af=t13,a2.tmps.getD 14 af=t14,a2.tmps.getD 15 af=t15,a2.tmps.getD 16 af=t16,a2.tmps.getD 17 af=t17,a2.tmps.getD 18 af=t18 at ha_;subst ha_;have HC:=ai hcon;clear hcon
  go_wp2_with (first|(go_at_call 175;refine HC.out.mono ?_;clear HC;rintro e w3 ⟨rfl,hb3⟩))
  go_ret
  exact⟨by simp,rG.trans (hb3.mono rG.size)⟩
end Go.Proofs.YtffladgmkiimjaaGreatDoor
namespace Go.Lag
open Go.RowKit
structure Step(X X':Nat→Prop)(W W':ar):Prop where
 os:W'.os=W.os
 tape:W'.tape=W.tape
 output:W'.output=W.output
 size:W.heap.size≤W'.heap.size
 old : ∀k,k<W.heap.size→X' k→X k
 same : ∀k,k<W.heap.size→¬X k→W'.heap[k]?=W.heap[k]?
theorem Step.refl(X:Nat→Prop)(W:ar):Step X X W W:=⟨rfl,rfl,rfl,ay _,fun _ _ h=>h,fun _ _ _=>rfl⟩
theorem Step.trans{X Y Z:Nat→Prop}{A B C:ar}(h:Step X Y A B)(k:Step Y Z B C):Step X Z A C:=
 ⟨k.os.trans h.os,k.tape.trans h.tape,k.output.trans h.output,bq h.size k.size,
  fun i hi hz=>h.old i hi (k.old i (bE hi h.size) hz),
  fun i hi hx=>(k.same i (bE hi h.size) (fun hy=>hx (h.old i hi hy))).trans (h.same i hi hx)⟩
theorem Step.of_below{X:Nat→Prop}{W W':ar}(h:aC W.heap.size W W'):Step X X W W':=
 ⟨h.os,h.tape,h.output,h.size,fun _ _ h=>h,fun k hk _=>h.block k hk⟩
theorem Step.below{X X':Nat→Prop}{W W':ar}(h:Step X X' W W'){n:Nat}(hn:n≤W.heap.size)(hx : ∀k,k<n→¬X k):aC n W W':=
 ⟨h.os,h.tape,h.output,h.size,fun k hk=>h.same k (bE hk hn) (hx k hk)⟩
def Abides{β:Type}(J:β→(Nat→Prop)→ar→Prop):Prop:=
 ∀s X W W',J s X W→(∀k,X k→W'.heap[k]?=W.heap[k]?)→J s X W'
def BV{β:Type}(J:β→(Nat→Prop)→ar→Prop):Prop:=∀s X W,J s X W→∀k,X k→k<W.heap.size
def Yk{α:Type}(P:aN)(g:Nat)(la:Array ak)(encs:α→Array ak)(all:List α)(w:ar):Prop:=
 ∀(l:Nat) (J Jx:List α→(Nat→Prop)→ar→Prop) (X:Nat→Prop) (W:ar),
  aC w.heap.size w W→(∀k,X k→w.heap.size≤k∧k<W.heap.size)→Abides J→Abides Jx→BV J→BV Jx→
  (∀m pre x X1 W1,J pre X1 W1→(∀k,X1 k→w.heap.size≤k)→pre ++ [x] <+: all→YieldAt Fence.wide m P l (encs x) W1 fun e W'=>∃X2,Step X1 X2 W1 W'∧
   ((e=aG (aA true)∧J (pre ++ [x]) X2 W')∨(e=aG (aA false)∧Jx (pre ++ [x]) X2 W')))→
  J [] X W→
  bp P g (la ++ #[.func (.yield l) #[] #[]]) W fun e W'=>(∃v,e=aG v)∧∃X2,Step X X2 W W'∧(J all X2 W'∨∃pre,Jx pre X2 W')
def Zi{α:Type}(I:List α→(Nat→Prop)→ar→Prop)(Ix:Code→List α→(Nat→Prop)→ar→Prop)(X:Nat→Prop)(xs:List α)(W:ar):Exit→ko→ar→Prop
 |.normal,_,W'=>∃X2,Step X X2 W W'∧I xs X2 W'
 |.ret,_,W'=>∃X2,Step X X2 W W'∧Ix .ret xs X2 W'
 |.exit id,_,W'=>∃X2,Step X X2 W W'∧Ix (.exit id) xs X2 W'
 |.goto t,_,W'=>∃X2,Step X X2 W W'∧Ix (.goto t) xs X2 W'
 |.panic _,_,_=>False
 |.outgrown,_,_=>False
theorem Step.putObj{X X':Nat→Prop}{W W':ar}(h:Step X X' W W'){l:Nat}(o:Obj)(hl:W.heap.size≤l):Step X X' W (W'.putObj l o):=
 ⟨h.os,h.tape,h.output,by simpa using h.size,h.old,fun k hk hx=>(dt (by omega)).trans (h.same k hk hx)⟩
theorem rT{α:Type}{P:aN}{n:Nat}{g:cB}{ps:Array Tmp}{assign body:Code}{Q:Exit→ko→ar→Prop}{a:ko}{w:ar}
  {gf:Nat} {la:Array ak} (hg:a.eval g=.func (.func gf) la #[]) (eg : ∀args w,(callFunc gf args).run P w=.ok (.enter gf args) w)
  {encs:α→Array ak} {all:List α} {w0:ar} (hseq:Yk P gf la encs all w0) (hb0:aC w0.heap.size w0 w) (T6 : ∀x,(encs x).size=ps.size)
  (I:List α→(Nat→Prop)→ar→Prop) (Ix:Code→List α→(Nat→Prop)→ar→Prop) (hI:Abides I) (hIx : ∀c,Abides (Ix c)) (hIb:BV I) (aea : ∀c,BV (Ix c))
  (X:Nat→Prop) (hX : ∀k,X k→w0.heap.size≤k∧k<w.heap.size) (h0:I [] X w)
  (A:List α→α→ko→(Nat→Prop)→ar→Prop) (hA : ∀pre x,Abides (A pre x))
  (Uo : ∀(l m:Nat) (pre:List α) (x:α) (X1:Nat→Prop) (W:ar) (K:ko→ar→Prop),I pre X1 W→(∀k,X1 k→w0.heap.size≤k)→pre ++ [x] <+: all→(∀a' X2 W',Step X1 X2 W W'→A pre x a' X2 W'→K a' W')→
   assign.wpIn (Fence.wide.inRound l) m P (Exit.then K (fun _ _ _=>False)) { tmps:=(ps.zip (encs x)).foldl (fun t (p,v)=>t.setIfInBounds p v) a.tmps,defers:=[] } W)
  (aaz : ∀(l m:Nat) (pre:List α) (x:α) (a':ko) (X1:Nat→Prop) (W:ar),A pre x a' X1 W→(∀k,X1 k→w0.heap.size≤k)→pre ++ [x] <+: all→body.wpIn (Fence.wide.inRound l) m P (Zi I Ix X1 (pre ++ [x]) W) a' W)
  (hdone : ∀(D:Nat) (X2:Nat→Prop) (W:ar),w.heap.size≤D→¬X2 D→Step X X2 w W→I all X2 W→W.heap[D]?=some (.deferred (some []))→Q .normal { a with defers:={ target:=.collected D,args:=#[] } :: a.defers } W)
  (Bt : ∀(D:Nat) (c:Code) (pre:List α) (X2:Nat→Prop) (W:ar),w.heap.size≤D→¬X2 D→Step X X2 w W→Ix c pre X2 W→W.heap[D]?=some (.deferred (some []))→c.wpIn Fence.wide n P Q { a with defers:={ target:=.collected D,args:=#[] } :: a.defers } W) :
  (Code.rangeFunc g ps assign body).wpIn Fence.wide n P Q a w:=by
 refine wpIn_rangeFunc ?_;intro fn hfn;rw[show Fence.wide.round=none from rfl];obtain⟨rec,H6⟩ : ∃rec:LoopState→Option Code→Loop,rec=fun st pe=>{ state:=st,pending:=pe,fn,tmps:=a.tmps,params:=ps,assign,body,defers:=w.heap.size }:=⟨_,rfl⟩
 obtain⟨W1,hW1⟩ : ∃W1,(w.alloc (.deferred (some []))).alloc (.loop (rec .ready none))=W1:=⟨_,rfl⟩
 have XG:W1.heap[w.heap.size+1]?=some (.loop (rec .ready none)):=by
  rw[←hW1];have:=ax (w.alloc (.deferred (some []))) (.loop (rec .ready none));rwa [ey] at this
 have hK1:W1.heap[w.heap.size]?=some (.deferred (some [])):=by
  rw[←hW1];exact(aX _ _ _ (by simp)).trans (ax w _)
 have uC:aC w.heap.size w W1:=by rw[←hW1];exact((aw _ w).alloc (ay _) _).alloc (by simp) _
 have hs1:W1.heap.size=w.heap.size+2:=by rw[←hW1];simp
 have hI1:I [] X W1:=hI _ _ _ _ h0 (fun k hk=>uC.block k (hX k hk).2);have hb1:aC w0.heap.size w0 W1:=hb0.trans (uC.mono hb0.size)
 refine⟨w.heap.size+1,[{ target:=.collected w.heap.size,args:=#[] }],W1,{ target:=.fn (.func gf) #[],args:=la ++ #[.func (.yield (w.heap.size+1)) #[] #[]] },W1,gf,
  la ++ #[.func (.yield (w.heap.size+1)) #[] #[]],W1,?_,?_,?_,?_,(fun h=>by cases h),?_⟩
 ·rw[←hW1,H6];exact run_enterLoop_outer _ _ _ _ _
 ·simp only[resolve,hg];simp[go_sem]
 ·intro f' hf';trivial
 ·simp[invoke,go_sem,eg]
 ·rw[AQ]
  refine(hseq (w.heap.size+1)
   (fun pre Y W=>∃Z:Nat→Prop,Y=(fun k=>Z k∨k=w.heap.size∨k=w.heap.size+1)∧(∀k,Z k→k≠w.heap.size∧k≠w.heap.size+1)∧I pre Z W∧W.heap[w.heap.size+1]?=some (.loop (rec .ready none))∧W.heap[w.heap.size]?=some (.deferred (some [])))
   (fun pre Y W=>∃(Z:Nat→Prop) (c:Code),Y=(fun k=>Z k∨k=w.heap.size∨k=w.heap.size+1)∧(∀k,Z k→k≠w.heap.size∧k≠w.heap.size+1)∧Ix c pre Z W∧W.heap[w.heap.size+1]?=some (.loop (rec .done (some c)))∧W.heap[w.heap.size]?=some (.deferred (some [])))
   (fun k=>X k∨k=w.heap.size∨k=w.heap.size+1) W1 hb1 ?_ ?_ ?_ ?_ ?_ ?_ ?_).mono ?_
  ·rintro k (hk|rfl|rfl)
   ·have:=hX k hk;exact⟨this.1,by omega⟩
   ·have:=hb0.size;exact⟨this,by omega⟩
   ·have:=hb0.size;exact⟨by omega,by omega⟩
  ·rintro pre Y W W' ⟨Z,rfl,hz,hi,hl,hk⟩ hs;exact⟨Z,rfl,hz,hI _ _ _ _ hi (fun k h=>hs k (bI h)),(hs _ (.inr (.inr rfl))).trans hl,(hs _ (.inr (bI rfl))).trans hk⟩
  ·rintro pre Y W W' ⟨Z,c,rfl,hz,hi,hl,hk⟩ hs;exact⟨Z,c,rfl,hz,hIx _ _ _ _ _ hi (fun k h=>hs k (bI h)),(hs _ (.inr (.inr rfl))).trans hl,(hs _ (.inr (bI rfl))).trans hk⟩
  ·rintro pre Y W ⟨Z,rfl,hz,hi,hl,hk⟩ k (xC|rfl|rfl)
   ·exact hIb _ _ _ hi k xC
   ·exact(aj.1 hk).1
   ·exact(aj.1 hl).1
  ·rintro pre Y W ⟨Z,c,rfl,hz,hi,hl,hk⟩ k (xC|rfl|rfl)
   ·exact aea _ _ _ _ hi k xC
   ·exact(aj.1 hk).1
   ·exact(aj.1 hl).1
  ·rintro m pre x Y W ⟨Z,rfl,hz,hi,hl,hk⟩ hge hpre;have Xh : ∀k,Z k→w0.heap.size≤k:=fun k h=>hge k (bI h);have hlt:w.heap.size+1<W.heap.size:=(aj.1 hl).1;have hy:=run_yield (P:=P) (args:=encs x) hl (by rw[H6];exact T6 x);rw[H6] at hy;refine⟨fn,_,assign,body,hy,roundIn_of_wpIn hfn (Uo _ m pre x Z W _ hi Xh hpre ?_)⟩;intro a' Z2 W2 hst ha;have hz1 : ∀k,Z k→k≠w.heap.size∧k≠w.heap.size+1:=hz;have hl1:W2.heap[w.heap.size+1]?=some (.loop (rec .ready none)):=(hst.same _ hlt (fun h=>(hz _ h).2 rfl)).trans hl;have rF:W2.heap[w.heap.size]?=some (.deferred (some [])):=(hst.same _ (by omega) (fun h=>(hz _ h).1 rfl)).trans hk;have hlt2:w.heap.size+1<W2.heap.size:=(aj.1 hl1).1;have hz2 : ∀k,Z2 k→k≠w.heap.size∧k≠w.heap.size+1:=fun k h=>⟨fun e=>(hz k (hst.old k (by omega) h)).1 e,fun e=>(hz k (hst.old k (by omega) h)).2 e⟩
   refine⟨_,run_beginRound hl1 (by rw[H6]),?_⟩;obtain⟨W3,hW3⟩ : ∃W3,W2.putObj (w.heap.size+1) (.loop { rec .ready none with state:=.busy })=W3:=⟨_,rfl⟩
   have hl3:W3.heap[w.heap.size+1]?=some (.loop { rec .ready none with state:=.busy }):=by rw[←hW3];exact World.putObj_heap_same hlt2
   have hk3:W3.heap[w.heap.size]?=some (.deferred (some [])):=by rw[←hW3];exact(dt (by omega)).trans rF
   have hp3 : ∀k,k≠w.heap.size+1→W3.heap[k]?=W2.heap[k]?:=fun k h=>by rw[←hW3];exact dt (by omega)
   have h3s:W3.heap.size=W2.heap.size:=by rw[←hW3];simp
   have h3o:W3.os=W2.os∧W3.tape=W2.tape∧W3.output=W2.output:=by rw[←hW3];exact⟨rfl,rfl,rfl⟩
   have adH : ∀k,Z2 k→w0.heap.size≤k:=fun k h=>by
    by_cases hc:k<W.heap.size
    ·exact Xh k (hst.old k hc h)
    ·have:=hb0.size;omega
   have XB:=hA _ _ _ _ _ W3 ha (fun k h=>hp3 k (hz2 k h).2);simp only[hW3];refine wpIn_mono (aaz _ m pre x a' Z2 W3 XB adH hpre) ?_
   have fin : ∀(jump:Option Code) (Z4:Nat→Prop) (W4:ar),Step Z2 Z4 W3 W4→
     (Instr.endRound (w.heap.size+1) jump).run P W4=.ok (aA jump.isNone) (W4.putObj (w.heap.size+1) (.loop (rec (if jump.isNone then .ready else .done) jump)))∧
     (∀k,Z4 k→k≠w.heap.size∧k≠w.heap.size+1)∧
     (∀k,Z4 k→(W4.putObj (w.heap.size+1) (.loop (rec (if jump.isNone then .ready else .done) jump))).heap[k]?=W4.heap[k]?)∧
     (W4.putObj (w.heap.size+1) (.loop (rec (if jump.isNone then .ready else .done) jump))).heap[w.heap.size+1]?=some (.loop (rec (if jump.isNone then .ready else .done) jump))∧
     (W4.putObj (w.heap.size+1) (.loop (rec (if jump.isNone then .ready else .done) jump))).heap[w.heap.size]?=some (.deferred (some []))∧
     Step (fun k=>Z k∨k=w.heap.size∨k=w.heap.size+1) (fun k=>Z4 k∨k=w.heap.size∨k=w.heap.size+1) W (W4.putObj (w.heap.size+1) (.loop (rec (if jump.isNone then .ready else .done) jump))):=fun jump Z4 W4 h4=>by
    have hl4:W4.heap[w.heap.size+1]?=some (.loop { rec .ready none with state:=.busy }):=(h4.same _ (by omega) (fun h=>(hz2 _ h).2 rfl)).trans hl3;have hk4:W4.heap[w.heap.size]?=some (.deferred (some [])):=(h4.same _ (by omega) (fun h=>(hz2 _ h).1 rfl)).trans hk3;have S6 : ∀k,Z4 k→k≠w.heap.size∧k≠w.heap.size+1:=fun k h=>⟨fun e=>(hz2 k (h4.old k (by omega) h)).1 e,fun e=>(hz2 k (h4.old k (by omega) h)).2 e⟩
    have:=run_endRound (P:=P) jump hl4;have h4s:=h4.size;have pw:=hst.size
    refine⟨by rw[H6] at this ⊢;exact this,S6,fun k h=>dt (fun e=>(S6 k h).2 (by omega)),World.putObj_heap_same (aj.1 hl4).1,(dt (by omega)).trans hk4,
     ⟨h4.os.trans (h3o.1.trans hst.os),h4.tape.trans (h3o.2.1.trans hst.tape),h4.output.trans (h3o.2.2.trans hst.output),by simp;omega,?_,?_⟩⟩
    ·rintro k hk (h|h)
     ·exact bI (hst.old k hk (h4.old k (by omega) h))
     ·exact .inr h
    ·intro k hk hn;have sw : ¬Z k:=fun h=>hn (bI h);have xw:k≠w.heap.size+1:=fun h=>hn (.inr (.inr h));have hn3 : ¬Z2 k:=fun h=>sw (hst.old k hk h);exact(dt (by omega)).trans ((h4.same k (by omega) hn3).trans ((hp3 k xw).trans (hst.same k hk sw)))
   rintro e a4 W4 hp;cases e with
   |normal=>
    obtain⟨Z4,h4,Xc⟩:=hp;obtain⟨hr,S6,DT,OX,hk5,hstep⟩:=fin none Z4 W4 h4;exact⟨_,_,hr,_,hstep,bI ⟨rfl,Z4,rfl,S6,hI _ _ _ _ Xc DT,OX,hk5⟩⟩
   |ret=>
    obtain⟨Z4,h4,Xc⟩:=hp;obtain⟨hr,S6,DT,OX,hk5,hstep⟩:=fin (some .ret) Z4 W4 h4;exact⟨_,_,hr,_,hstep,.inr ⟨rfl,Z4,.ret,rfl,S6,hIx _ _ _ _ _ Xc DT,OX,hk5⟩⟩
   |exit id=>
    obtain⟨Z4,h4,Xc⟩:=hp;obtain⟨hr,S6,DT,OX,hk5,hstep⟩:=fin (some (.exit id)) Z4 W4 h4;exact⟨_,_,hr,_,hstep,.inr ⟨rfl,Z4,.exit id,rfl,S6,hIx _ _ _ _ _ Xc DT,OX,hk5⟩⟩
   |goto t=>
    obtain⟨Z4,h4,Xc⟩:=hp;obtain⟨hr,S6,DT,OX,hk5,hstep⟩:=fin (some (.goto t)) Z4 W4 h4;exact⟨_,_,hr,_,hstep,.inr ⟨rfl,Z4,.goto t,rfl,S6,hIx _ _ _ _ _ Xc DT,OX,hk5⟩⟩
   |panic ch=>exact hp.elim
   |outgrown=>exact hp.elim
  ·exact⟨X,rfl,fun k h=>by have:=(hX k h).2;omega,hI1,XG,hK1⟩
  ·have key : ∀(Z:Nat→Prop) (W2:ar) (o:Obj),Step (fun k=>X k∨k=w.heap.size∨k=w.heap.size+1) (fun k=>Z k∨k=w.heap.size∨k=w.heap.size+1) W1 W2→Step X Z w (W2.putObj (w.heap.size+1) o):=fun Z W2 o h=>
    ⟨h.os.trans uC.os,h.tape.trans uC.tape,h.output.trans uC.output,by have:=h.size;simp;omega,fun k hk hz=>by
     rcases h.old k (by omega) (bI hz) with h|h|h
     ·exact h
     ·omega
     ·omega,fun k hk hn=>(dt (by omega)).trans ((h.same k (by omega) (fun h=>by
     rcases h with h|h|h
     ·exact hn h
     ·omega
     ·omega)).trans (uC.block k hk))⟩
   rintro e W2 ⟨⟨v,rfl⟩,Y,hstep,(⟨Z,rfl,hz,hi,hl,hk⟩|⟨pre,Z,c,rfl,hz,hi,hl,hk⟩)⟩
   ·exact⟨none,_,by have:=run_endLoop (P:=P) hl (by rw[H6];simp);rw[H6] at this;exact this,hdone _ Z _ (ay _) (fun h=>(hz _ h).1 rfl) (key Z W2 _ hstep) (hI _ _ _ _ hi (fun k h=>dt (fun e=>(hz k h).2 (by omega)))) ((dt (by omega)).trans hk)⟩
   ·exact⟨some c,_,by have:=run_endLoop (P:=P) hl (by rw[H6];simp);rw[H6] at this;exact this,Bt _ c pre Z _ (ay _) (fun h=>(hz _ h).1 rfl) (key Z W2 _ hstep) (hIx _ _ _ _ _ hi (fun k h=>dt (fun e=>(hz k h).2 (by omega)))) ((dt (by omega)).trans hk)⟩
end Go.Lag
namespace Go.Proofs.YtffladgmkiimjaaGreatDoor
open Go.RowKit Go.Lag
attribute [local go_sem] Oper.semAt_some
def eV.put(a:eV)(l6:Nat)(n:Int):eV:=
 match l6 with
 |0=>{ a with m0:=n }
 |1=>{ a with m1:=n }
 |_=>{ a with m2:=n }
def gw(lo hi:Int):List Int:=(bf (hi+1 - lo).toNat).map fun(i:Nat)=>lo+i
def leaves(ok:eV→Bool):List Mn→Nat→eV→List eV
 |[],_,a=>if ok a then[a] else[]
 |m :: r,l6,a=>(gw m.lo m.hi).flatMap fun n=>leaves ok r (l6+1) (a.put l6 n)
def jV(b:BB)(ss:List Int)(ms:List Mk)(a:eV):Bool:=zY b (b.cu+a.used) (bK ss) ms
def bn(b:BB)(ml:List Mn)(ss:List Int)(ms:List Mk):List eV:=(gw b.ll b.lm).flatMap fun n=>leaves (jV b ss ms) ml 0 ⟨n,0,0,0⟩
theorem eV.Lt{a:eV}(h:a.Ok)(l6:Nat){n:Int}(h1:0≤n)(h2:n≤99):(a.put l6 n).Ok:=by
 obtain⟨p,q,r,s⟩:=h
 match l6 with
 |0=>exact⟨p,⟨h1,h2⟩,r,s⟩
 |1=>exact⟨p,q,⟨h1,h2⟩,s⟩
 |k+2=>exact⟨p,q,r,⟨h1,h2⟩⟩
theorem eV.TB(a:eV)(l6:Nat)(n z:Int):(a.put l6 z).put l6 n=a.put l6 n:=by
 match l6 with
 |0=>rfl
 |1=>rfl
 |k+2=>rfl
theorem GN{X X':Nat→Prop}{W W':ar}(h:Step X X' W W'){l i:Nat}(u:ak)(hl:W.heap.size≤l):Step X X' W (W'.setCell ⟨l,i,none⟩ u):=
 ⟨h.os,h.tape,h.output,by simpa using h.size,h.old,fun k hk hx=>(bu _ _ _ _ (by show k≠l;omega)).trans (h.same k hk hx)⟩
structure FD(b:BB)(men sent marks:ak)(w0:ar)(bk yk nk l:Nat)(X:Nat→Prop)(W:ar):Prop where
 below:aC w0.heap.size w0 W
 jG:W.heap[bk]?=some (au (b.cells men sent marks) 119 (0,0))
 ZT:W.heap[yk]?=some (au #[.func (.yield l) #[] #[]] 159 (0,0))
 hnk:W.heap[nk]?=some (au #[.func (.func 169) #[] #[pv bk 0,pv yk 0,pv nk 0]] 181 (0,0))
 xb : ¬X bk
 xy : ¬X yk
 xn : ¬X nk
 ge : ∀k,X k→w0.heap.size≤k
theorem FD.step{b:BB}{men sent marks:ak}{w0:ar}{bk yk nk l:Nat}{X X2:Nat→Prop}{W W':ar}(h:FD b men sent marks w0 bk yk nk l X W)(hs:Step X X2 W W'):FD b men sent marks w0 bk yk nk l X2 W':=by
 have l1:=(aj.1 h.jG).1;have l2:=(aj.1 h.ZT).1;have l3:=(aj.1 h.hnk).1;refine⟨h.below.trans (hs.below h.below.size fun k hk hx=>?_),(hs.same _ l1 h.xb).trans h.jG,(hs.same _ l2 h.xy).trans h.ZT,(hs.same _ l3 h.xn).trans h.hnk,fun hx=>h.xb (hs.old _ l1 hx),fun hx=>h.xy (hs.old _ l2 hx),fun hx=>h.xn (hs.old _ l3 hx),fun k hx=>?_⟩
 ·have:=h.ge k hx;omega
 ·by_cases hk:k<W.heap.size
  ·exact h.ge k (hs.old k hk hx)
  ·have:=h.below.size;omega
theorem aV{w:ar}{v:ak}{n:Nat}{xs:List ak}(h:Reads w v n xs) : ∃p cap,v=ae p n cap∧n≤4294967296:=by
 rcases h with⟨rfl,rfl,_⟩|⟨g,off,cap,rfl,h,_⟩
 ·exact⟨_,_,rfl,by omega⟩
 ·exact⟨_,_,rfl,h.1⟩
def SB{α:Type}(P:aN)(l:Nat)(encs:α→Array ak)(n0:Nat)(all:List α)(J Jx:List α→(Nat→Prop)→ar→Prop):Prop:=
 ∀m pre x X1 W1,J pre X1 W1→(∀k,X1 k→n0≤k)→pre ++ [x] <+: all→YieldAt Fence.wide m P l (encs x) W1 fun e W'=>∃X2,Step X1 X2 W1 W'∧
   ((e=aG (aA true)∧J (pre ++ [x]) X2 W')∨(e=aG (aA false)∧Jx (pre ++ [x]) X2 W'))
abbrev Pn(a:eV):Array Value:=#[aQ a.cells]
def NM(J Jx:List eV→(Nat→Prop)→ar→Prop)(X:Nat→Prop)(W:ar)(pre ys:List eV)(e:Ending)(W':ar):Prop:=
 ∃X2,Step X X2 W W'∧((e=aG (aA true)∧J (pre ++ ys) X2 W')∨(e=aG (aA false)∧∃q,Jx q X2 W'))
theorem OC(b:BB)(men sent marks:ak)(ml:List Mn)(ss:List Int)(ms:List Mk)(w0:ar)(hB:cK b men sent marks ml ss ms w0)(bk yk nk l:Nat)(all:List eV)(J Jx:List eV→(Nat→Prop)→ar→Prop)(hJ:Lag.Abides J)(Te:Lag.BV J)
  (hY:SB aq l Pn w0.heap.size all J Jx) (a:eV) (ha:a.Ok) (pre:List eV) (X:Nat→Prop) (W:ar) (hE:FD b men sent marks w0 bk yk nk l X W) (hj:J pre X W) (hp:pre ++ leaves (jV b ss ms) [] ml.length a <+: all) :
  bp aq 169 #[aQ a.cells,ah ag ml.length,pv bk 0,pv yk 0,pv nk 0] W (NM J Jx X W pre (leaves (jV b ss ms) [] ml.length a)):=by
 have hx:=Te _ _ _ hj;have b1:aC W.heap.size W (W.alloc (au a.cells 134)):=(aw _ _).alloc (ay _) _;have Tf:=hE.step (Step.of_below b1);have hB1:=hB.below Tf.below;obtain⟨x0,x1,x2,x3,x4,x5,x6,x7,x8,x9,nG,nE,oh,nM,nQ⟩:=bQ Tf.jG;have y0:=aH Tf.ZT 0 _ rfl;obtain⟨p,cap,rfl,hlen⟩:=aV hB.rm;have hk:(W.alloc (au a.cells 134)).heap[W.heap.size]?=some (au a.cells 134 (0,0)):=ax W _;have z0:=aH hk 0 _ rfl;have z1:=aH hk 1 _ rfl;have z2:=aH hk 2 _ rfl;have z3:=aH hk 3 _ rfl;have hmk:=LJ b hB.ok (ae p ml.length cap) sent marks ss hB.mL ms hB.lh a ha _ hB1.rs hB1.rk;have HM:=ai hmk;have HE:=ai Tf;have HB:=ai hB1;have HY:=ai hY;have HJ:=ai hJ;clear hmk hE hB Tf hB1 hk hY hJ;generalize hL:ml.length=L at *;clear hL;have hlv:leaves (jV b ss ms) [] L a=if jV b ss ms a then[a] else[]:=rfl
 rw[hlv] at hp ⊢;clear hlv
 have HJ2:Hid (∀W',aC (W.alloc (au a.cells 134)).heap.size (W.alloc (au a.cells 134)) W'→J pre X W'∧Step X X W W'):=ai fun W' hb'=>by
  have D6:aC W.heap.size W W':=b1.trans (hb'.mono b1.size);exact⟨HJ.out _ _ _ _ hj fun k hk=>D6.block k (hx k hk),Step.of_below D6⟩
 clear hj hx HJ
 by_cases cZ:jV b ss ms a=true
 ·have HK:=ai (ax W (au a.cells 134));have hmb:zY b (b.cu+a.used) (bK ss) ms=true:=cZ;rw[hmb] at HM;rw[if_pos cZ] at hp ⊢;have HP:=ai hp;clear hp hmb cZ b1;refine AQ (n:=0).1 (callsIn_of_wp Tryz.func169 rfl trivial ?_ rfl);simp only[Tryz.ntmps169,jI,jB,oC,Cr,Cq,kj,ki,jJ,iG,kx,iM]
  gi_wp2_with (first
   |(refine⟨trivial,rfl,?_⟩;gi_at_call 143;rw[AQ];refine HM.out.mono ?_;clear HM;rintro e W1 ⟨rfl,hb1⟩
     have PX:=HE.out.step (Step.of_below hb1);have u0:=aH PX.ZT 0 _ rfl;have rF:=(hb1.block W.heap.size (by simp)).trans HK.out;have v0:=aH rF 0 _ rfl;have v1:=aH rF 1 _ rfl;have v2:=aH rF 2 _ rfl;have v3:=aH rF 3 _ rfl;have YG:=HJ2.out W1 hb1;have HS:=ai YG.2;obtain⟨fn,tmps,assign,body,hy,hR⟩:=HY.out 0 pre a X W1 YG.1 PX.ge HP.out
     clear PX rF YG hb1)
   |(refine⟨rfl,?_⟩;refine hR.mono ?_;clear hR;rintro e W2 ⟨X2,hs2,(⟨rfl,Vp⟩|⟨rfl,Vp⟩)⟩))
  ·go_ret
   exact⟨X2,HS.out.trans hs2,bI ⟨rfl,Vp⟩⟩
  ·go_ret
   exact⟨X2,HS.out.trans hs2,.inr ⟨rfl,_,Vp⟩⟩
 ·have HK:=ai (ax W (au a.cells 134));have hmb:zY b (b.cu+a.used) (bK ss) ms=false:=by simpa [jV] using cZ
  rw[hmb] at HM;rw[if_neg cZ] at hp ⊢;clear hp hmb cZ b1 HY;refine AQ (n:=0).1 (callsIn_of_wp Tryz.func169 rfl trivial ?_ rfl);simp only[Tryz.ntmps169,jI,jB,oC,Cr,Cq,kj,ki,jJ,iG,kx,iM]
  gi_wp2_with (first
   |(refine⟨trivial,rfl,?_⟩;gi_at_call 143;rw[AQ];refine HM.out.mono ?_;clear HM;rintro e W1 ⟨rfl,hb1⟩
     have PX:=HE.out.step (Step.of_below hb1);have u0:=aH PX.ZT 0 _ rfl;have rF:=(hb1.block W.heap.size (by simp)).trans HK.out;have v0:=aH rF 0 _ rfl;have v1:=aH rF 1 _ rfl;have v2:=aH rF 2 _ rfl;have v3:=aH rF 3 _ rfl;have YG:=HJ2.out W1 hb1;have HS:=ai YG
     clear PX rF YG hb1))
  refine⟨fun _ _=>trivial,?_⟩
  gi_wp2
  go_ret
  exact⟨X,HS.out.2,bI ⟨rfl,by rw[List.append_nil];exact HS.out.1⟩⟩
theorem NH{w:ar}{B:Nat}{a:eV}(l6:Nat)(hm:l6<3)(n:Int)(h:w.heap[B]?=some (au a.cells 134 (0,0))):(w.setCell ⟨B,1+l6,none⟩ (ah ag n)).heap[B]?=some (au (a.put l6 n).cells 134 (0,0)):=by
 obtain⟨hk,h⟩:=aj.1 h
 match l6,hm with
 |0,_=>simp[jA,hk,h,A0,eV.put]
 |1,_=>simp[jA,hk,h,A0,eV.put]
 |2,_=>simp[jA,hk,h,A0,eV.put]
theorem Dr{lo hi:Int}{k:Nat}(h:lo+k≤hi):k<(gw lo hi).length∧∀h',(gw lo hi)[k]'h'=lo+k:=by
 constructor
 ·simp[gw];omega
 ·intro h';simp[gw]
theorem Gk{α β:Type}(l:List α)(f:α→List β){k:Nat}(h:k<l.length):(l.take (k+1)).flatMap f=(l.take k).flatMap f ++ f l[k]:=by
 rw[List.take_succ_eq_append_getElem h,List.flatMap_append];simp
theorem OB(b:BB)(men sent marks:ak)(ml:List Mn)(ss:List Int)(ms:List Mk)(w0:ar)(hB:cK b men sent marks ml ss ms w0)(bk yk nk l:Nat)(all:List eV)(J Jx:List eV→(Nat→Prop)→ar→Prop)(hJ:Lag.Abides J)(Te:Lag.BV J)
  (fr:List Mn) (m:Mn) (r:List Mn) (Ru:ml=fr ++ m :: r)
  (ih : ∀(a:eV),a.Ok→∀(pre:List eV) (X:Nat→Prop) (W:ar),FD b men sent marks w0 bk yk nk l X W→J pre X W→pre ++ leaves (jV b ss ms) r (fr.length+1) a <+: all→
   bp aq 169 #[aQ a.cells,ah ag ((fr.length+1:Nat):Int),pv bk 0,pv yk 0,pv nk 0] W (NM J Jx X W pre (leaves (jV b ss ms) r (fr.length+1) a)))
  (a:eV) (ha:a.Ok) (pre:List eV) (X:Nat→Prop) (W:ar) (hE:FD b men sent marks w0 bk yk nk l X W) (hj:J pre X W) (hp:pre ++ leaves (jV b ss ms) (m :: r) fr.length a <+: all) :
  bp aq 169 #[aQ a.cells,ah ag fr.length,pv bk 0,pv yk 0,pv nk 0] W (NM J Jx X W pre (leaves (jV b ss ms) (m :: r) fr.length a)):=by
 have hx:=Te _ _ _ hj;have hlen:fr.length<ml.length:=by rw[Ru];simp
 have Vm:fr.length<3:=by have:=hB.iw.len;omega
 have hmk:ml[fr.length]=m:=by simp[Ru]
 have W6:=hB.iw.mem m (by rw[Ru];simp)
 obtain⟨g,off,cap,rfl,afJ,hg,hcm⟩ : ∃g off cap,men=ae (some ⟨g,off,none⟩) ml.length cap∧(ml.length≤4294967296∧ml.length≤cap)∧g<w0.heap.size∧∀j u,(gu ml)[j]?=some u→w0.cell? ⟨g,off+j,none⟩=some u:=by
  rcases hB.rm with⟨_,h,_⟩|h
  ·omega
  ·exact h
 have hcell:=CG hcm fr.length hlen;rw[hmk] at hcell
 have HC:Hid (∀W',aC w0.heap.size w0 W'→W'.cell? ⟨g,off+fr.length*3+1,none⟩=some (ah ag m.lo)∧W'.cell? ⟨g,off+fr.length*3+2,none⟩=some (ah ag m.hi)):=
  ai fun W' hb=>⟨(hb.cell (p:=⟨g,_,none⟩) hg).trans hcell.2.1,(hb.cell (p:=⟨g,_,none⟩) hg).trans hcell.2.2⟩
 clear hcell hcm;have hl3:=hB.iw.len;have HB:=ai hB;have HI:=ai ih;have HP:=ai hp;have HX:=ai hx;have HJ:=ai hJ;have hlv:leaves (jV b ss ms) (m :: r) fr.length a=(gw m.lo m.hi).flatMap fun n=>leaves (jV b ss ms) r (fr.length+1) (a.put fr.length n):=rfl;have b1:aC W.heap.size W (W.alloc (au a.cells 134)):=(aw _ _).alloc (ay _) _;have Tf:=hE.step (Step.of_below b1);have hj1:J pre X (W.alloc (au a.cells 134)):=hJ _ _ _ _ hj fun k hk=>b1.block k (hx k hk);obtain⟨x0,x1,x2,x3,x4,x5,x6,x7,x8,x9,nG,nE,oh,nM,nQ⟩:=bQ Tf.jG;obtain⟨c1,c2⟩:=HC.out _ Tf.below;have hXa : ¬X W.heap.size:=fun h=>absurd (hx _ h) (by omega);have HE1:=ai Tf;have HE:=ai hE;have HJ1:=ai hj1;have HXa:=ai hXa;clear hB ih hp hx hJ hE Tf hj1 hXa hj;clear hmk Ru;generalize ml.length=L at *;generalize fr.length=l6 at *;generalize jV b ss ms=ok at *;refine AQ (n:=0).1 (callsIn_of_wp Tryz.func169 rfl trivial ?_ rfl);simp only[Tryz.ntmps169,jI,jB,oC,Cr,Cq,kj,ki,jJ,iG,kx,iM];have i1:(l6:Int)<(L:Int):=by omega
 have i2:(0:Int)≤(l6:Int):=by omega
 have i3:((l6:Int)==(L:Int))=false:=by simp;omega
 gi_wp2
 have w1:IntKind.i64.wrap (l6+1)=((l6+1:Nat):Int):=by rw[fT _ (by omega) (by omega)];omega
 gi_loopw [8] (fun v wr=>∃(k:Nat) (X1:Nat→Prop),v=ah ag (m.lo+k)∧m.lo+k≤m.hi+1∧Step X X1 W wr∧¬X1 W.heap.size∧J (pre ++ ((gw m.lo m.hi).take k).flatMap fun n=>leaves ok r (l6+1) (a.put l6 n)) X1 wr∧
   ∃a':eV,(∀n,a'.put l6 n=a.put l6 n)∧wr.heap[W.heap.size]?=some (au a'.cells 134 (0,0))) (fun v _=>(m.hi+1 - intOf v).toNat)
 case atStart=>exact⟨0,X,by simp,by omega,Step.of_below b1,HXa.out,by simpa using HJ1.out,a,fun _=>rfl,ax W _⟩
 case round=>
  obtain⟨k,X1,rfl,hk,hst,wM,hjk,a',ha',hab⟩:=hrel;have RL:=HE.out.step hst;have M0:Step X X1 W (wr.setCell ⟨W.heap.size,1+l6,none⟩ (ah ag (m.lo+k))):=GN hst _ (ay _);have PX:=HE.out.step M0;have Ka:=NH l6 Vm (m.lo+k) hab;have hcc:a'.put l6 (m.lo+k)=a.put l6 (m.lo+k):=ha' _;rw[hcc] at Ka
  have Vp:J (pre ++ ((gw m.lo m.hi).take k).flatMap fun n=>leaves ok r (l6+1) (a.put l6 n)) X1 (wr.setCell ⟨W.heap.size,1+l6,none⟩ (ah ag (m.lo+k))):=
   HJ.out _ _ _ _ hjk fun i hi=>bu _ _ _ _ (by rintro rfl;exact wM hi)
  have hx1:=Te _ _ _ hjk;clear x0 x1 x2 x3 x4 x5 x6 x7 x8 x9 nG nE oh nM nQ c1 c2;obtain⟨x0,x1,x2,x3,x4,x5,x6,x7,x8,x9,nG,nE,oh,nM,nQ⟩:=bQ RL.jG;obtain⟨c1,c2⟩:=HC.out _ RL.below;have v0:=aH hab 0 _ rfl;have v1:=aH hab 1 _ rfl;have v2:=aH hab 2 _ rfl;have v3:=aH hab 3 _ rfl
  have vm : ∃u,wr.cell? ⟨W.heap.size,1+l6,none⟩=some u:=by
   match l6,Vm with
   |0,_=>exact⟨_,v1⟩
   |1,_=>exact⟨_,v2⟩
   |2,_=>exact⟨_,v3⟩
  obtain⟨um,vm⟩:=vm;have vf:=cI hab (1+l6);have z0:=aH Ka 0 _ rfl;have z1:=aH Ka 1 _ rfl;have z2:=aH Ka 2 _ rfl;have z3:=aH Ka 3 _ rfl;have n0:=aH PX.hnk 0 _ rfl;have hap:=eV.Lt ha l6 (n:=m.lo+k) (by omega);have w2:IntKind.i64.wrap (m.lo+(k:Int)+1)=m.lo+((k+1:Nat):Int):=by rw[fT _ (by omega) (by omega)];omega
  by_cases hlt:m.lo+(k:Int)≤m.hi
  ·obtain⟨yN,Vo⟩:=Dr hlt;have OY:=Gk (gw m.lo m.hi) (fun n=>leaves ok r (l6+1) (a.put l6 n)) yN;rw[Vo yN] at OY
   have hih:=HI.out (a.put l6 (m.lo+k)) (hap (by omega)) _ X1 _ PX Vp (by
    rw[List.append_assoc,←OY];have:=HP.out;rw[hlv] at this;refine List.IsPrefix.trans ?_ this;rw[List.prefix_append_right_inj];refine⟨((gw m.lo m.hi).drop (k+1)).flatMap fun n=>leaves ok r (l6+1) (a.put l6 n),?_⟩
    rw[←List.flatMap_append,List.take_append_drop])
   have HPP:Hid (∀n,(a.put l6 (m.lo+k)).put l6 n=a.put l6 n):=ai fun n=>eV.TB _ _ _ _;have HIH:=ai hih;have HS2:=ai M0;have HF:=ai OY;have I5:=ai hlv;have HA:=ai Ka;have HX1:=ai hx1;have HN:=ai PX;have HXX:=ai wM;clear hih M0 OY Vo Vp PX RL hab Ka hst hjk wM ha' hcc hlv hx1 hap;generalize a.put l6 (m.lo+k)=a2 at *
   gi_wp2_with (first
    |(refine⟨trivial,rfl,?_⟩;gi_at_call 169;rw[AQ];refine HIH.out.mono ?_;clear HIH;rintro e W3 ⟨X3,hs3,(⟨rfl,W9⟩|⟨rfl,q,W9⟩)⟩))
   ·go_roundw
    case rel=>
     have aaF:W.heap.size<(wr.setCell ⟨W.heap.size,1+l6,none⟩ (ah ag (m.lo+k))).heap.size:=(aj.1 HA.out).1;refine⟨k+1,X3,by simp,by omega,HS2.out.trans hs3,fun h=>HXX.out (hs3.old _ aaF h),?_,a2,HPP.out,(hs3.same _ aaF HXX.out).trans HA.out⟩;rw[HF.out,←List.append_assoc];exact W9
    case measure=>simp[intOf];omega
   ·go_ret
    exact⟨X3,HS2.out.trans hs3,.inr ⟨rfl,q,W9⟩⟩
  ·have hmh:m.hi=m.lo+k - 1:=by omega
   have hall:(gw m.lo m.hi).take k=gw m.lo m.hi:=dg (by simp[gw];omega);rw[hall] at hjk;have HJK:=ai hjk;have HS:=ai hst;have I5:=ai hlv;clear M0 Vp PX RL hab Ka hst hjk wM ha' hcc hlv hx1 hap hall
   gi_wp2
   go_ret
   rw[I5.out];exact⟨X1,HS.out,bI ⟨rfl,HJK.out⟩⟩
theorem QU(b:BB)(men sent marks:ak)(ml:List Mn)(ss:List Int)(ms:List Mk)(w0:ar)(hB:cK b men sent marks ml ss ms w0)(bk yk nk l:Nat)(all:List eV)(J Jx:List eV→(Nat→Prop)→ar→Prop)(hJ:Lag.Abides J)(Te:Lag.BV J)
  (hY:SB aq l Pn w0.heap.size all J Jx) : ∀(r fr:List Mn),ml=fr ++ r→∀(a:eV),a.Ok→∀(pre:List eV) (X:Nat→Prop) (W:ar),FD b men sent marks w0 bk yk nk l X W→J pre X W→pre ++ leaves (jV b ss ms) r fr.length a <+: all→
   bp aq 169 #[aQ a.cells,ah ag fr.length,pv bk 0,pv yk 0,pv nk 0] W (NM J Jx X W pre (leaves (jV b ss ms) r fr.length a)):=by
 intro r
 induction r with
 |nil=>
  rintro fr rfl a ha pre X W hE hj hp;have e:fr ++ ([]:List Mn)=fr:=List.append_nil _;have:=OC b men sent marks (fr ++ []) ss ms w0 hB bk yk nk l all J Jx hJ Te hY a ha pre X W hE hj (by rw[e];exact hp);rw[e] at this;exact this
 |cons m r ih=>
  intro fr Ru a ha pre X W hE hj hp;refine OB b men sent marks ml ss ms w0 hB bk yk nk l all J Jx hJ Te fr m r Ru (fun a ha pre X W hE hj hp=>?_) a ha pre X W hE hj hp;have:=ih (fr ++ [m]) (by rw[Ru];simp) a ha pre X W hE hj (by simpa using hp);simpa using this
theorem oG(W:ar)(A B C:Array ak)(tA tB tC:bg) :
  (((W.alloc (au A tA)).alloc (au B tB)).alloc (au C tC)).heap[W.heap.size]?=some (au A tA (0,0))∧
  (((W.alloc (au A tA)).alloc (au B tB)).alloc (au C tC)).heap[W.heap.size+1]?=some (au B tB (0,0))∧
  (((W.alloc (au A tA)).alloc (au B tB)).alloc (au C tC)).heap[W.heap.size+2]?=some (au C tC (0,0)):=by
 refine⟨?_,?_,?_⟩
 ·exact(aX _ _ _ (by simp;omega)).trans ((aX _ _ _ (by simp)).trans (ax W _))
 ·refine(aX _ _ _ (by simp)).trans ?_;have:=ax (W.alloc (au A tA)) (au B tB);rwa [ey] at this
 ·have:=ax ((W.alloc (au A tA)).alloc (au B tB)) (au C tC);rwa [ey,ey] at this
theorem Gr(b:BB)(men sent marks:ak)(ml:List Mn)(ss:List Int)(ms:List Mk)(w0:ar)(hB:cK b men sent marks ml ss ms w0):Yk aq 117 #[aQ (b.cells men sent marks)] Pn (bn b ml ss ms) w0:=by
 intro l J Jx X W hb hX hJ hJx Te ad9 hY h0;show bp aq 117 #[aQ (b.cells men sent marks),.func (.yield l) #[] #[]] W _;have cZ:=hB.ok;have PV:=cZ.leak;have Un:=oG W (b.cells men sent marks) #[.func (.yield l) #[] #[]] #[.func (.func 169) #[] #[pv W.heap.size 0,pv (W.heap.size+1) 0,pv (W.heap.size+1+1) 0]] 119 159 181;have hb3 : ∀A B C,aC W.heap.size W (((W.alloc A).alloc B).alloc C):=fun A B C=>(((aw _ W).alloc (ay _) _).alloc (by simp) _).alloc (by simp;omega) _
 have hE0:FD b men sent marks w0 W.heap.size (W.heap.size+1) (W.heap.size+1+1) l X (((W.alloc (au (b.cells men sent marks) 119)).alloc (au #[.func (.yield l) #[] #[]] 159)).alloc (au #[.func (.func 169) #[] #[pv W.heap.size 0,pv (W.heap.size+1) 0,pv (W.heap.size+1+1) 0]] 181)):=
  ⟨hb.trans ((hb3 _ _ _).mono hb.size),Un.1,Un.2.1,Un.2.2,fun h=>by have:=(hX _ h).2;omega,fun h=>by have:=(hX _ h).2;omega,fun h=>by have:=(hX _ h).2;omega,fun k h=>(hX k h).1⟩
 have hS0:=Step.of_below (X:=X) (hb3 (au (b.cells men sent marks) 119) (au #[.func (.yield l) #[] #[]] 159) (au #[.func (.func 169) #[] #[pv W.heap.size 0,pv (W.heap.size+1) 0,pv (W.heap.size+1+1) 0]] 181));have hJ0:=hJ _ _ _ (((W.alloc (au (b.cells men sent marks) 119)).alloc (au #[.func (.yield l) #[] #[]] 159)).alloc (au #[.func (.func 169) #[] #[pv W.heap.size 0,pv (W.heap.size+1) 0,pv (W.heap.size+1+1) 0]] 181)) h0 fun k hk=>(hb3 _ _ _).block k (hX k hk).2
 have hN:=fun(X1:Nat→Prop) (W1:ar) (n:Int) (h1:0≤n) (h2:n≤99) (pre:List eV) (hE:FD b men sent marks w0 W.heap.size (W.heap.size+1) (W.heap.size+1+1) l X1 W1) (hj:J pre X1 W1) (hp:pre ++ leaves (jV b ss ms) ml 0 ⟨n,0,0,0⟩ <+: bn b ml ss ms)=>
  QU b men sent marks ml ss ms w0 hB W.heap.size (W.heap.size+1) (W.heap.size+1+1) l (bn b ml ss ms) J Jx hJ Te hY ml [] rfl ⟨n,0,0,0⟩ ⟨⟨h1,by show n≤400;omega⟩,by simp,by simp,by simp⟩ pre X1 W1 hE hj hp
 have HN:=ai hN;have HE0:=ai hE0;have HS0:=ai hS0;have HJ0:=ai hJ0;clear Un hb3 hE0 hS0 hJ0 hN hY hJ hJx Te ad9 h0 hX hb hB;generalize T8:jV b ss ms=ok at *;have hall:bn b ml ss ms=(gw b.ll b.lm).flatMap fun n=>leaves ok ml 0 ⟨n,0,0,0⟩:=by rw[←T8];rfl
 rw[hall] at HN ⊢;clear hall T8
 go_enter Tryz.func117,Tryz.ntmps117
 go_wp2
 go_loopw [5] (fun v wr=>∃(k:Nat) (X1:Nat→Prop),v=ah ag (b.ll+k)∧b.ll+k≤b.lm+1∧Step X X1 W wr∧FD b men sent marks w0 W.heap.size (W.heap.size+1) (W.heap.size+1+1) l X1 wr∧J (((gw b.ll b.lm).take k).flatMap fun n=>leaves ok ml 0 ⟨n,0,0,0⟩) X1 wr) (fun v _=>(b.lm+1 - intOf v).toNat)
 case atStart=>exact⟨0,X,by simp,by omega,HS0.out,HE0.out,by simpa using HJ0.out⟩
 case round=>
  obtain⟨k,X1,rfl,hk,hst,RL,hjk⟩:=hrel;obtain⟨x0,x1,x2,x3,x4,x5,x6,x7,x8,x9,nG,nE,oh,nM,nQ⟩:=bQ RL.jG;have n0:=aH RL.hnk 0 _ rfl;have w2:IntKind.i64.wrap (b.ll+(k:Int)+1)=b.ll+((k+1:Nat):Int):=by rw[fT _ (by omega) (by omega)];omega
  by_cases hlt:b.ll+(k:Int)≤b.lm
  ·obtain⟨yN,Vo⟩:=Dr hlt;have OY:=Gk (gw b.ll b.lm) (fun n=>leaves ok ml 0 ⟨n,0,0,0⟩) yN;rw[Vo yN] at OY
   have hih:=HN.out X1 wr (b.ll+k) (by omega) (by omega) _ RL hjk (by
    rw[←OY];refine⟨((gw b.ll b.lm).drop (k+1)).flatMap fun n=>leaves ok ml 0 ⟨n,0,0,0⟩,?_⟩
    rw[←List.flatMap_append,List.take_append_drop])
   have HIH:=ai hih;have HS2:=ai hst;have HF:=ai OY;have HEr:=ai RL;clear hih OY Vo RL hst hjk
   go_wp2_with (first
    |(go_at_call 169;refine HIH.out.mono ?_;clear HIH;rintro e W3 ⟨X3,hs3,(⟨rfl,W9⟩|⟨rfl,q,W9⟩)⟩))
   ·go_roundw
    case rel=>
     refine⟨k+1,X3,by simp,by omega,HS2.out.trans hs3,HEr.out.step hs3,?_⟩;rw[HF.out];exact W9
    case measure=>simp[intOf];omega
   ·(try simp only[Exit.inBlock,Exit.then]);refine bodyPost_ret (results_none rfl _ _ _) rfl ?_
    exact⟨⟨_,rfl⟩,X3,HS2.out.trans hs3,.inr ⟨q,W9⟩⟩
  ·have hall:(gw b.ll b.lm).take k=gw b.ll b.lm:=dg (by simp[gw];omega);rw[hall] at hjk;have HJK:=ai hjk;have HS:=ai hst;clear RL hst hjk hall;go_wp2
   go_end0
   exact⟨⟨_,rfl⟩,X1,HS.out,bI HJK.out⟩
end Go.Proofs.YtffladgmkiimjaaGreatDoor
namespace Go.Lag
open Go Go.RowKit
def Whole(A:ak→Prop)(e:bg)(w:ar)(v:ak):Prop:=∀g,v.ownBlock=some g→∃cur,w.heap[g]?=some (.cells cur e (0,0))∧∀u∈cur,A u
theorem E5{A:ak→Prop}{zs:Array ak}(h : ∀u∈zs,A u)(n:Nat) : ∀u∈gl zs n,A u:=by
 intro u hu;unfold gl at hu;rw[Array.mem_map] at hu;obtain⟨i,hi,rfl⟩:=hu;have hlt:i<n*zs.size:=by simpa using hi
 have kG:0<zs.size:=by
  rcases Nat.eq_zero_or_pos zs.size with h0|h0
  ·rw[h0] at hlt;simp at hlt
  ·exact h0
 have hk:=Nat.mod_lt i kG;rw[getElem!_pos zs _ hk];exact h _ (Array.getElem_mem hk)
theorem IK{P:aN}(w:ar)(A:ak→Prop)(base:Nat)(t ty e:bg)(i:TypeInfo)(z:ak)(size rR:Nat)(ht:P.underlying t=some (.slice e))(hi:P.info? e=some i)(hz:i.zero=some z)
  (hsize:i.size=size) (hby:i.bytes=rR) (hzs:z.cells.size=size) (hsz:0<size)
  (v:ak) (n:Nat) (xs:List ak) (hown:w.ownsRow base e size v n xs)
  (a:Addr) (m c:Nat) (news:List ak) (hl:news.length=m*size) (hnews : ∀j u,news[j]?=some u→w.cell? (a.add j)=some u) (h1 : ∀u∈news,u.oneCell'=true)
  (h63:n+m≤maxLen) (hbytes:(n+m)*rR≤140737488355328) (hm:0<m)
  (hAz : ∀u∈z.cells,A u) (hAn : ∀u∈news,A u) (hAv:Whole A e w v) {v':ak} {w':ar}
  (hr:(Builtin.append_ #[t,t] ty #[v,.slice (some a) m c]).run P w=.ok v' w'):Whole A e w' v':=by
 subst hsize;subst hby;have WO:n+m≤9223372036854775807:=by simp only[maxLen] at h63;omega
 have hAx : ∀u∈xs,A u:=by
  intro u hu;rcases hown.2 with⟨rfl,rfl⟩|⟨g,cap,cur,rfl,_,hg,_,_,_,Rk⟩
  ·have hx:xs=[]:=aZ (by simpa using hown.1);rw[hx] at hu;cases hu
  ·obtain⟨cur',EP,hA⟩:=hAv g rfl;rw[hg] at EP;obtain rfl:cur=cur':=by simpa using EP
   rw[←Rk] at hu;exact hA u (by simpa using fZ hu)
 have fin : ∀(l:List ak) (k:Nat),(∀u∈l,A u)→∀u∈l.toArray ++ gl z.cells k,A u:=by
  intro l k hl u hu;rw[Array.mem_append] at hu;rcases hu with h|h
  ·exact hl u (by simpa using h)
  ·exact E5 hAz k u h
 rcases hown.2 with⟨rfl,rfl⟩|⟨g,cap,cur,rfl,hbg,hg,Fa,hcm,hcs,Rk⟩
 ·have hr2:=run_append_nil (P:=P) w t ty e i z ht hi hz a m c news hl hnews hm (by omega) (by have hb:=hbytes;simp only[eo] at hb;omega);rw[hr2] at hr;cases hr;intro g hg;obtain rfl:w.heap.size=g:=by simpa [ju] using hg
  exact⟨_,heap_alloc_new w.drew _,fin _ _ hAn⟩
 ·by_cases hroom:n+m≤cap
  ·have Rx:n*i.size+news.length≤cur.size:=by rw[hl,hcs,←Nat.add_mul];exact Nat.mul_le_mul_right _ hroom
   have hr2:=run_append_room (P:=P) w t ty e i ht hi g n cap cur hg a m c news hl hnews h1 hroom Rx;rw[hr2] at hr;cases hr;intro g' EP;obtain rfl:g=g':=by simpa [ju] using EP
   refine⟨_,setRow_heap w g cur _ e _ hg,?_⟩;obtain⟨cur',hg2,hA⟩:=hAv g rfl;rw[hg] at hg2;obtain rfl:cur=cur':=by simpa using hg2
   intro u hu;simp only[List.mem_toArray,bJ] at hu;rcases hu with(h|h)|h
   ·exact hA u (by simpa using fZ h)
   ·exact hAn u h
   ·exact hA u (by simpa using List.mem_of_mem_drop h)
  ·have holds : ∀j u,xs[j]?=some u→w.cell? ((⟨g,0,none⟩:Addr).add j)=some u:=hown.cells (g:=g) rfl;have hr2:=run_append_grow (P:=P) w t ty e i z ht hi hz ⟨g,0,none⟩ n cap xs hown.1 holds a m c news hl hnews (by omega) (by omega) (growslice_fits (by omega) hbytes);rw[hr2] at hr;cases hr;intro g' EP;obtain rfl:w.heap.size=g':=by simpa [ju] using EP
   refine⟨_,heap_alloc_new w.drew _,?_⟩;rw[show xs.toArray ++ news.toArray=(xs ++ news).toArray by simp];refine fin _ _ fun u hu=>?_;rw[bJ] at hu;exact hu.elim (hAx u) (hAn u)
section
variable{F:Fence}{nF:Nat}{P:aN}(w:ar)
theorem uA{ops:Array cU}{rest:List cU}{o:cU}{a:ko}{Q:Exit→ko→ar→Prop}(hgd:o.guard=none)(s x:cB)(t:bg)
  (ho:o.op=.call { callee:=.builtin .append,args:=#[s,x],argTypes:=#[t,t] })
  (A:ak→Prop) (base:Nat) (e:bg) (i:TypeInfo) (z:ak) (size rR:Nat) (ht:P.underlying t=some (.slice e)) (hi:P.info? e=some i) (hz:i.zero=some z)
  (hsize:i.size=size) (hby:i.bytes=rR) (hzs:z.cells.size=size) (hsz:0<size)
  (v:ak) (n:Nat) (xs:List ak) (hs:a.eval s=v) (hown:w.ownsRow base e size v n xs)
  (ad:Addr) (m c:Nat) (news:List ak) (hx:a.eval x=.slice (some ad) m c) (hl:news.length=m*size) (hnews : ∀j u,news[j]?=some u→w.cell? (ad.add j)=some u) (h1 : ∀u∈news,u.oneCell'=true)
  (h63:n+m≤maxLen) (hbytes:(n+m)*rR≤140737488355328) (hbase:base≤w.heap.size) (hm:0<m) (hAz : ∀u∈z.cells,A u) (hAn : ∀u∈news,A u) (hAv:Whole A e w v)
  (h : ∀v' w',w'.ownsRow base e size v' (n+m) (xs ++ news)→w.grownBy w' v.ownBlock→Whole A e w' v'→(v'.ownBlock=v.ownBlock∨v'.ownBlock=some w.heap.size)→wpListIn F nF P ops Q rest (a.put o.dst v') w') :
  wpListIn F nF P ops Q (o :: rest) a w:=by
 refine wpListIn_plain hgd fun K hK=>?_;obtain⟨v',w',hr,h2,h3,h4,h5⟩:=run_append_own_at (P:=P) w base t o.type e i z size rR ht hi hz hsize hby hzs hsz v n xs hown ad m c news hl hnews h1 h63 hbytes hbase;have h6:=IK w A base t o.type e i z size rR ht hi hz hsize hby hzs hsz v n xs hown ad m c news hl hnews h1 h63 hbytes hm hAz hAn hAv hr;unfold Oper.wpIn;refine⟨by simp[Oper.about,ho,resolve,Target.leads,Sem.run_pure],?_⟩;rw[Oper.semAt_plain F _ _ (by rw[ho];intro c hc';cases hc')];simp[dX,ho,resolve,invoke,builtin,hs,hx,hr,Result.andThen];exact hK _ _ (h v' w' h2 h3 h6 h5)
end
end Go.Lag
namespace Go.Proofs.YtffladgmkiimjaaGreatDoor
open Go.RowKit Go.Lag
attribute [local go_sem] Oper.semAt_some
theorem Nl:(Tryz.prog.info? 134).map (fun i=>(i.zero,i.size,i.bytes))=some (some (.agg #[.int .i64 0,.int .i64 0,.int .i64 0,.int .i64 0]),4,32):=by kernel_rfl
def SG(u:ak):Prop:=∃n,u=.int .i64 n
def ij(W:ar)(base:Nat)(v:ak)(l:List eV):Prop:=W.ownsRow base 134 4 v l.length (rowOf l)∧Whole SG 134 W v
theorem Rc(x:eV) : ∀u∈x.cells.toList,SG u:=by
 intro u hu;simp at hu;rcases hu with rfl|rfl|rfl|rfl<;>exact⟨_,rfl⟩
def Yw(n0 B:Nat)(pre:List eV)(X:Nat→Prop)(W:ar):Prop:=
 ∃v,Boxed W B 120 v∧ij W n0 v pre∧∀k,X k↔(k=B∨some k=v.ownBlock)
theorem ie{W W':ar}{base:Nat}{e:bg}{size:Nat}{v:ak}{k:Nat}{xs:List ak}(h:W.ownsRow base e size v k xs)(hs : ∀g,v.ownBlock=some g→W'.heap[g]?=W.heap[g]?):W'.ownsRow base e size v k xs:=by
 refine⟨h.1,?_⟩;rcases h.2 with hn|⟨g,cap,cur,rfl,hb,DY,rest⟩
 ·exact .inl hn
 ·exact .inr ⟨g,cap,cur,rfl,hb,(hs g rfl).trans DY,rest⟩
theorem ij.at_{W W':ar}{base:Nat}{v:ak}{l:List eV}(h:ij W base v l)(hs : ∀g,v.ownBlock=some g→W'.heap[g]?=W.heap[g]?):ij W' base v l:=
 ⟨ie h.1 hs,fun g hg=>by obtain⟨cur,h1,h2⟩:=h.2 g hg;exact⟨cur,(hs g hg).trans h1,h2⟩⟩
theorem ij.base{W:ar}{base base':Nat}{v:ak}{l:List eV}(h:ij W base v l)(hb:base'≤base):ij W base' v l:=by
 refine⟨⟨h.1.1,?_⟩,h.2⟩;rcases h.1.2 with hn|⟨g,cap,cur,rfl,hb',rest⟩
 ·exact .inl hn
 ·exact .inr ⟨g,cap,cur,rfl,bq hb hb',rest⟩
theorem ij.reads{W:ar}{base:Nat}{v:ak}{l:List eV}(h:ij W base v l)(hl:l.length≤4294967296):Reads W v l.length (rowOf l):=Reads.jP h.1 hl (by rw[h.1.1])
theorem KL(n0 B:Nat):Lag.Abides (Yw n0 B):=by
 rintro pre X W W' ⟨v,h1,h2,h3⟩ hs;exact⟨v,(hs B ((h3 B).2 (.inl rfl))).trans h1,h2.at_ fun g hg=>hs g ((h3 g).2 (.inr hg.symm)),h3⟩
theorem EE(n0 B:Nat):Lag.BV (Yw n0 B):=by
 rintro pre X W ⟨v,h1,h2,h3⟩ k hk;rcases(h3 k).1 hk with rfl|h
 ·exact h1.lt
 ·exact(h2.1.lt k h.symm).2
def abz(n0 B:Nat)(bk:ak)(pre:List eV)(x:eV)(a:ko)(X:Nat→Prop)(W:ar):Prop:=
 ∃k v,a=⟨#[.slice none 0 0,.func (.func 117) #[bk] #[],pv B 0,af,.slice none 0 0,pv k 0,.func (.func 117) #[bk] #[],.agg x.cells,af,af,af,af,af],[]⟩∧
  Boxed W B 120 v∧ij W n0 v pre∧W.heap[k]?=some (.cells x.cells 134 (0,0))∧(∀j,X j↔(j=B∨j=k∨some j=v.ownBlock))
theorem KM(n0 B:Nat)(bk:ak)(pre:List eV)(x:eV):Lag.Abides (abz n0 B bk pre x):=by
 rintro a X W W' ⟨k,v,h0,h1,h2,h3,h4⟩ hs;exact⟨k,v,h0,(hs B ((h4 B).2 (.inl rfl))).trans h1,h2.at_ fun g hg=>hs g ((h4 g).2 (.inr (.inr hg.symm))),(hs k ((h4 k).2 (.inr (.inl rfl)))).trans h3,h4⟩
theorem ua{n D:Nat}(W:ar)(o:Obj)(h:n≤D):aC n W (W.putObj D o):=⟨rfl,rfl,rfl,by simp,fun k hk=>dt (by omega)⟩
theorem Dl(l:List eV)(x:eV):rowOf (l ++ [x])=rowOf l ++ x.cells.toList:=by simp[rowOf]
theorem Fy(bk:ak)(all:List eV)(hall:all.length≤1000)(w0:ar)(hseq:Yk aq 117 #[bk] Pn all w0)(w:ar)(hb:aC w0.heap.size w0 w) :
  bp aq 168 #[.slice none 0 0,.func (.func 117) #[bk] #[]] w fun e w'=>∃v,e=.returned v∧ij w' w.heap.size v all∧aC w.heap.size w w':=by
 obtain⟨i0,hi,hz0,hz1,hz2⟩:=info_parts Nl;have HSQ:=ai hseq;clear hseq;refine AQ (n:=0).1 (callsIn_of_wp_marks Tryz.func168 rfl trivial ?_ rfl);simp only[Tryz.ntmps168,jI,jB,oC,Cr,Cq,kj,ki,jJ,iG,kx,iM]
 gi_wp2
 have hb1:aC w.heap.size w (w.alloc (.cells #[.slice none 0 0] 120)):=(aw _ _).alloc (ay _) _;have hs0:=hb.size
 refine rT (gf:=117) (la:=#[bk]) rfl (enters_of Tryz.func117 (by kernel_rfl) rfl) (encs:=Pn) (all:=all) (w0:=w0) HSQ.out (hb.trans (hb1.mono hs0)) (fun _=>rfl) (Yw w.heap.size w.heap.size) (fun _ _ _ _=>False) (KL _ _) (fun _ _ _ _ _ h _=>h) (EE _ _) (fun _ _ _ _ h=>h.elim)
  (fun k=>k=w.heap.size) (by rintro k rfl;exact⟨hs0,by simp⟩) ⟨_,Boxed.new _ _ _,⟨World.ownsRow_nil _ _ _ _,fun g hg=>by simp[ju] at hg⟩,fun k=>by simp[ju]⟩ (abz w.heap.size w.heap.size bk) (KM _ _ _) ?rassign ?rbody ?rdone ?rstop
 case rassign=>
  intro l m pre x X1 W K hI hge hpre hK;obtain⟨v,h1,h2,h3⟩:=hI;have hX1:=EE _ _ _ _ _ ⟨v,h1,h2,h3⟩;have HK:=ai hK;clear hK
  gi_wp2
  refine HK.out _ (fun j=>X1 j∨j=W.heap.size) _ ⟨rfl,rfl,rfl,by simp,?_,?_⟩ ⟨W.heap.size,v,rfl,h1.alloc _,h2.at_ (fun g hg=>aX _ _ _ (h2.1.lt g hg).2),ax _ _,fun j=>?_⟩
  ·rintro j hj (h|rfl)
   ·exact h
   ·omega
  ·intro j hj _;exact aX _ _ _ hj
  ·show(X1 j∨j=W.heap.size)↔_;rw[h3];constructor
   ·rintro((h|h)|h)
    ·exact .inl h
    ·exact .inr (.inr h)
    ·exact .inr (.inl h)
   ·rintro(h|h|h)
    ·exact .inl (.inl h)
    ·exact .inr h
    ·exact .inl (.inr h)
 case rbody=>
  rintro l m pre x a' X1 W ⟨k,v,rfl,h1,h2,h3,h4⟩ hge hpre;have hlen:pre.length+1≤1000:=by have:=hpre.length_le;simp at this;omega
  have c0:=aH h3 0 _ rfl;have c1:=aH h3 1 _ rfl;have c2:=aH h3 2 _ rfl;have c3:=aH h3 3 _ rfl;have b0:=h1.cell;have hw1:w.heap.size≤W.heap.size:=Nat.le_of_lt h1.lt
  have HQ2:Hid (∀u∈(Value.agg #[.int .i64 0,.int .i64 0,.int .i64 0,.int .i64 0]).cells,SG u):=ai fun u hu=>by
   have h:u∈#[aM .i64 0,.int .i64 0,.int .i64 0,.int .i64 0]:=hu;simp at h;exact⟨0,h⟩
  have HQ3:Hid (Whole SG 134 (W.alloc (.cells x.cells 134)) v):=ai fun g hg=>by
   obtain⟨cur,q1,q2⟩:=h2.2 g hg;exact⟨cur,(aX _ _ _ (h2.1.lt g hg).2).trans q1,q2⟩
  have UU:Hid (∀(j:Nat) (u:ak),x.cells.toList[j]?=some u→(W.alloc (.cells x.cells 134)).cell? ((⟨W.heap.size,0,none⟩:Addr).add j)=some u):=ai fun j u hj=>by
   have:=ax W (.cells x.cells 134);have h5:=aH this j u (by simpa using hj);have e:(⟨W.heap.size,0,none⟩:Addr).add j=⟨W.heap.size,j,none⟩:=by cases j<;>simp[Addr.add]
   rw[e];exact h5
  gi_wp2_with (first
   |(gi_at_builtin;refine uA _ rfl _ _ 120 rfl SG w.heap.size 134 i0 (.agg #[.int .i64 0,.int .i64 0,.int .i64 0,.int .i64 0]) 4 32 Tryz.underlying120 hi hz0 hz1 hz2 rfl (by decide) _ _ _ rfl (h2.1.alloc _) ⟨W.heap.size,0,none⟩ 1 1 x.cells.toList rfl rfl UU.out (by simp[cy]) (by unfold maxLen;omega) (by omega) (by simp;omega) (by decide) HQ2.out (Rc x) HQ3.out ?_
     intro v' w1 hown' hgrow hwh hat;obtain⟨p1,p2,p3,p4,p5⟩:=Boxed.appended h1 (by decide) h2.1 hw1 (ay _) hown' hgrow;obtain⟨g',cap',rfl⟩:=ownsRow_succ hown';have f1:=p1.cell;have f2:=p1.frozen;have HO:=ai (And.intro p2 (And.intro p3 (And.intro hgrow (And.intro hat hwh))));have Z6:=p1.not_row (by decide) hown';have HPN:=ai Z6
     clear p2 p3 p4 p5 hown' hgrow hwh hat Z6))
  obtain⟨p2,p3,hgrow,hat,hwh⟩:=HO.out;refine⟨fun j=>j=w.heap.size∨some j=ju (.slice (some ⟨g',0,none⟩) (pre.length+1) cap'),⟨hgrow.os,hgrow.tape,hgrow.output,by have:=hgrow.size;simp at this ⊢;omega,?_,?_⟩,_,p2,?_,fun j=>Iff.rfl⟩
  ·rintro j hj (rfl|h)
   ·exact(h4 _).2 (.inl rfl)
   ·rcases hat with e|e
    ·rw[e] at h;exact(h4 _).2 (.inr (.inr h))
    ·rw[e] at h;simp at h;omega
  ·intro j hj hx;have hx2:=fun h=>hx ((h4 j).2 h);refine(bu _ _ _ _ (fun e=>hx2 (.inl e))).trans ((hgrow.block j (by simp;omega) (fun e=>hx2 (.inr (.inr e)))).trans (aX _ _ _ hj))
  ·refine⟨by rw[Dl,qb];exact p3,fun g hg=>?_⟩;obtain⟨cur,q1,q2⟩:=hwh g hg;exact⟨cur,(bu _ _ _ _ (fun e=>HPN.out ((congrArg some (show w.heap.size=g from e.symm)).trans hg.symm))).trans q1,q2⟩
 case rdone=>
  rintro D X2 W hD hXD hst ⟨v,h1,h2,h3⟩ hK;have b0:=h1.cell;have uC:aC w.heap.size w W:=hb1.trans (hst.below (by simp) (by rintro k hk rfl;omega));have HB:=ai uC;have HO:=ai h2;have HK:=ai hK;clear uC h2 h3 hst
  have OT:(∃n cap,v=.slice none n cap)∨∃g n cap,v=.slice (some g) n cap:=by
   rcases HO.out.1.2 with⟨rfl,_⟩|⟨g,cap,cur,rfl,_⟩
   ·exact .inl ⟨_,_,rfl⟩
   ·exact .inr ⟨_,_,_,rfl⟩
  rcases OT with⟨n,cap,rfl⟩|⟨g,n,cap,rfl⟩
  all_goals
   gi_wp2
   refine⟨by simp,.inl ⟨_,_,rfl,run_takeDeferred HK.out,?_⟩⟩;exact⟨_,results_tmp rfl _ _ _,_,rfl,HO.out.at_ (fun g hg=>dt (fun e=>by obtain⟨cur,q1,_⟩:=HO.out.2 g hg;have hk:=HK.out;rw[←e,q1] at hk;cases hk)),HB.out.trans (ua _ _ (by simp at hD;omega))⟩
 case rstop=>
  rintro D c pre X2 W _ _ _ h;exact h.elim
theorem Dq(lo hi:Int):(gw lo hi).length=(hi+1 - lo).toNat:=by simp[gw]
theorem Ea{α β:Type}(f:α→List β)(n:Nat) : ∀(l:List α),(∀x∈l,(f x).length≤n)→(l.flatMap f).length≤l.length*n
 |[],_=>by simp
 |x :: l,h=>by
  have h1:=h x (by simp);have h2:=Ea f n l fun y hy=>h y (by simp[hy]);simp only[List.flatMap_cons,qb,jB,Nat.add_mul];omega
theorem DN(ok:eV→Bool) : ∀(r:List Mn) (l6:Nat) (a:eV),(∀m∈r,m.hi - m.lo<3)→(leaves ok r l6 a).length≤3 ^ r.length
 |[],l6,a,_=>by simp only[leaves];split<;>simp
 |m :: r,l6,a,h=>by
  have h1:=Ea (fun n=>leaves ok r (l6+1) (a.put l6 n)) (3 ^ r.length) (gw m.lo m.hi) fun n _=>DN ok r (l6+1) _ fun m' hm=>h m' (by simp[hm]);have h2:=Dq m.lo m.hi;have h3:=h m (by simp);have h4:(gw m.lo m.hi).length≤3:=by omega
  show((gw m.lo m.hi).flatMap _).length≤_;refine bq h1 ?_;rw[jB,Nat.pow_succ,Nat.mul_comm];exact Nat.mul_le_mul_left _ h4
theorem jH{b:BB}{ml:List Mn}(ss:List Int)(ms:List Mk)(hb:b.Ok)(hm:wY ml):(bn b ml ss ms).length≤81:=by
 have h1:=Ea (fun n=>leaves (jV b ss ms) ml 0 ⟨n,0,0,0⟩) 27 (gw b.ll b.lm) fun n _=>by
  have h2:=DN (jV b ss ms) ml 0 ⟨n,0,0,0⟩ fun m h=>(hm.mem m h).2.2.2.2;have h3:3 ^ ml.length≤3 ^ 3:=Nat.pow_le_pow_right (by omega) hm.len;omega
 have h2:=Dq b.ll b.lm;have h3:=hb.leak;unfold bn;omega
theorem oT(b:BB)(men sent marks:ak)(ml:List Mn)(ss:List Int)(ms:List Mk)(w:ar)(hB:cK b men sent marks ml ss ms w) :
  bp aq 116 #[.func (.func 117) #[.agg (b.cells men sent marks)] #[]] w fun e w'=>∃v,e=.returned v∧ij w' w.heap.size v (bn b ml ss ms)∧aC w.heap.size w w':=by
 have hl:=jH ss ms hB.ok hB.iw;have H:=ai (Fy (.agg (b.cells men sent marks)) (bn b ml ss ms) (by omega) w (Gr b men sent marks ml ss ms w hB) w (aw _ _));clear hB;generalize bn b ml ss ms=all at *
 go_enter Tryz.func116,Tryz.ntmps116
 go_wp2_with (go_at_call 168;refine H.out.mono ?_;rintro e w' ⟨v,rfl,ho,hb⟩;have HO:=ai ho;clear ho)
 go_ret
 exact⟨v,rfl,HO.out,hb⟩
theorem yn{fn:Func}{t:Tmp}(h:fn.results = #[.cell t 4]){tmps:Array ak}{w:ar}{B:Nat}{z:Bool}(hp:tmps.getD t af=pv B 0)(hc:w.cell? ⟨B,0,none⟩=some (.bool z)) :
  (results fn tmps).run aq w=.ok (.bool z) w:=by
 rw[aW] at hp;unfold results;rw[h];simp only[List.mapM_toArray,go_sem];go_simp
theorem Jm(b:BB)(men sent marks:ak)(ml:List Mn)(ss:List Int)(ms:List Mk)(w:ar)(hB:cK b men sent marks ml ss ms w) :
  bp aq 119 #[.agg (b.cells men sent marks)] w fun e w'=>e=.returned (.bool (decide (bn b ml ss ms≠[])))∧aC w.heap.size w w':=by
 have HSQ:=ai (Gr b men sent marks ml ss ms w hB);clear hB;generalize bn b ml ss ms=all at *;refine AQ (n:=0).1 (callsIn_of_wp_marks Tryz.func119 rfl trivial ?_ rfl);simp only[Tryz.ntmps119,jI,jB,oC,Cr,Cq,kj,ki,jJ,iG,kx,iM]
 gi_wp2
 have hb1:aC w.heap.size w ((w.alloc (.cells (b.cells men sent marks) 119)).alloc (.cells #[.bool false] 4)):=((aw _ _).alloc (ay _) _).alloc (by simp) _
 have RD:Boxed ((w.alloc (.cells (b.cells men sent marks) 119)).alloc (.cells #[.bool false] 4)) (w.heap.size+1) 4 (.bool false):=by
  have:=Boxed.new (w.alloc (.cells (b.cells men sent marks) 119)) 4 (.bool false);rwa [ey] at this
 refine rT (gf:=117) (la:=#[.agg (b.cells men sent marks)]) rfl (enters_of Tryz.func117 (by kernel_rfl) rfl) (encs:=Pn) (all:=all) (w0:=w) HSQ.out hb1 (fun _=>rfl)
  (fun pre X W=>pre=[]∧Boxed W (w.heap.size+1) 4 (.bool false)∧∀k,X k↔k=w.heap.size+1) (fun c _ X W=>c=.ret∧all≠[]∧Boxed W (w.heap.size+1) 4 (.bool true)∧∀k,X k↔k=w.heap.size+1)
  (fun _ _ _ _ h hs=>⟨h.1,(hs _ ((h.2.2 _).2 rfl)).trans h.2.1,h.2.2⟩) (fun _ _ _ _ _ h hs=>⟨h.1,h.2.1,(hs _ ((h.2.2.2 _).2 rfl)).trans h.2.2.1,h.2.2.2⟩)
  (fun _ _ _ h k hk=>by rw[(h.2.2 k).1 hk];exact h.2.1.lt) (fun _ _ _ _ h k hk=>by rw[(h.2.2.2 k).1 hk];exact h.2.2.1.lt)
  (fun k=>k=w.heap.size+1) (by rintro k rfl;exact⟨by omega,by simp⟩) ⟨rfl,RD,fun _=>Iff.rfl⟩
  (fun pre x a' X W=>a'=⟨#[.agg (b.cells men sent marks),pv w.heap.size 0,pv (w.heap.size+1) 0,.agg (b.cells men sent marks),.func (.func 117) #[.agg (b.cells men sent marks)] #[],.agg x.cells],[]⟩∧Boxed W (w.heap.size+1) 4 (.bool false)∧∀k,X k↔k=w.heap.size+1)
  (fun _ _ _ _ _ _ h hs=>⟨h.1,(hs _ ((h.2.2 _).2 rfl)).trans h.2.1,h.2.2⟩) ?rassign ?rbody ?rdone ?rstop
 case rassign=>
  rintro l m pre x X1 W K ⟨rfl,h1,h2⟩ hge hpre hK;have HK:=ai hK;clear hK
  gi_wp2
  exact HK.out _ X1 _ (Step.refl _ _) ⟨by simp,h1,h2⟩
 case rbody=>
  rintro l m pre x a' X1 W ⟨rfl,h1,h2⟩ hge hpre;have c0:=h1.cell;have c1:=h1.frozen
  have hne:all≠[]:=by
   rintro rfl;have:=hpre.length_le;simp at this
  have HN:=ai hne;clear hne
  gi_wp2
  refine⟨X1,⟨rfl,rfl,rfl,by simp,fun _ _ h=>h,fun k hk hx=>bu _ _ _ _ (by rintro rfl;exact hx ((h2 _).2 rfl))⟩,rfl,HN.out,h1.set _,h2⟩
 case rdone=>
  rintro D X2 W hD hXD hst ⟨rfl,h1,h2⟩ hK;have b0:=h1.cell;have b1:=h1.frozen;have uC:aC w.heap.size w W:=hb1.trans (hst.below (by simp;omega) (by rintro k hk rfl;omega));have HB:=ai uC;have HK:=ai hK;have HH:=ai h1;clear uC h2 hst hK
  gi_wp2
  simp only[ey] at hD;have hlt:=HH.out.lt;refine⟨by simp,.inl ⟨_,_,rfl,run_takeDeferred ((bu _ _ _ _ (by show D≠w.heap.size+1;omega)).trans HK.out),?_⟩⟩;refine⟨_,yn (B:=w.heap.size+1) (z:=false) rfl rfl ((World.cell?_of_block (dt (by show w.heap.size+1≠D;omega))).trans (HH.out.set _).cell),by simp,?_⟩;exact(HB.out.setCell (p:=⟨w.heap.size+1,0,none⟩) (by show _≤w.heap.size+1;omega) _).trans (ua _ _ (by omega))
 case rstop=>
  rintro D c pre X2 W hD hXD hst ⟨rfl,hne,h1,h2⟩ hK;have uC:aC w.heap.size w W:=hb1.trans (hst.below (by simp;omega) (by rintro k hk rfl;omega));have HB:=ai uC;have HK:=ai hK;have HH:=ai h1;have HN:=ai hne;clear uC h2 hst hK hne h1
  gi_wp2
  simp only[ey] at hD;refine⟨by simp,.inl ⟨_,_,rfl,run_takeDeferred HK.out,?_⟩⟩;refine⟨_,yn (B:=w.heap.size+1) (z:=true) rfl rfl ((World.cell?_of_block (dt (by show w.heap.size+1≠D;omega))).trans HH.out.cell),by simp[HN.out],?_⟩;exact HB.out.trans (ua _ _ (by omega))
abbrev iv:Array Value:=#[.int .i64 0,.int .i64 0,.int .i64 0,.int .i64 0,.int .i64 0,.int .i64 0,.int .i64 0,.int .i64 0,.int .i64 0,.int .i64 0,.int .i64 0,.int .i64 0,.slice none 0 0,.slice none 0 0,.slice none 0 0,.slice none 0 0]
theorem bT{w:ar}{B i:Nat}{cs:Array ak}{t:bg}(u:ak)(h:w.heap[B]?=some (.cells cs t (0,0))):(w.setCell ⟨B,i,none⟩ u).heap[B]?=some (.cells (cs.setIfInBounds i u) t (0,0)):=by
 obtain⟨hk,h⟩:=aj.1 h;simp[jA,hk,h,A0]
theorem cM{w:ar}{B:Nat}{cs new:Array ak}{t:bg}(h:w.heap[B]?=some (.cells cs t (0,0))):(w.setRow B new).heap[B]?=some (.cells new t (0,0)):=by
 obtain⟨hk,h⟩:=aj.1 h;simp[World.setRow,hk,h,A0]
theorem setRow_other{w:ar}{B k:Nat}{new:Array ak}(h:k≠B):(w.setRow B new).heap[k]?=w.heap[k]?:=by
 simp[World.setRow,Array.getElem?_modify,Ne.symm h]
theorem setRow_size{w:ar}{B:Nat}{new:Array ak}:(w.setRow B new).heap.size=w.heap.size:=by simp[World.setRow]
theorem dJ{n B:Nat}{a w:ar}{new:Array ak}(h:aC n a w)(hB:n≤B):aC n a (w.setRow B new):=
 ⟨h.os,h.tape,h.output,by rw[setRow_size];exact h.size,fun k hk=>(setRow_other (by omega)).trans (h.block k hk)⟩
theorem results_cell_tmp{fn:Func}{p q:Tmp}{ty:bg}(h:fn.results = #[.cell p ty,.tmp q]){tmps:Array ak}{w:ar}{g:Nat}{cs:Array ak}
  (hp:tmps.getD p af=.pointer (some ⟨g,0,none⟩))
  (hl:(loadVar ty ⟨g,0,none⟩).run aq w=.ok (.agg cs) w) :
  (results fn tmps).run aq w=.ok (.tuple #[.agg cs,tmps.getD q af]) w:=by
 have hp':tmps[p]?.getD af=.pointer (some ⟨g,0,none⟩):=by simpa using hp
 simp[results,h,hp',asAddr,hl]
theorem yy(b:BB)(men sent marks:ak)(ml:List Mn)(ss:List Int)(ms:List Mk)(w:ar)(hL:Laid w)(hB:cK b men sent marks ml ss ms w)(hne:bn b ml ss ms≠[])
  (hown : ∀W,aC w.heap.size w W→bp aq 122 #[.agg (b.cells men sent marks)] W fun e W'=>e=.returned (.int .i64 0)∧aC W.heap.size W W') :
  bp aq 103 #[.agg (b.cells men sent marks),.func (.func 122) #[] #[]] w fun e w'=>∃v,e=.returned (.tuple #[.agg (b.open men sent marks v),.int .i64 0])∧ij w' w.heap.size v (bn b ml ss ms)∧aC w.heap.size w w':=by
 have uz:Hid (∀W,aC w.heap.size w W→bp aq 71 #[.agg (b.cells men sent marks)] W fun e w'=>e=.returned (.int .i64 0)∧aC W.heap.size W w'):=ai fun W hb=>fV b men sent marks ml ss ms W (hL.below hb) (hB.below hb);have SS:Hid (∀W,aC w.heap.size w W→bp aq 116 #[.func (.func 117) #[.agg (b.cells men sent marks)] #[]] W fun e w'=>∃v,e=.returned v∧ij w' W.heap.size v (bn b ml ss ms)∧aC W.heap.size W w'):=ai fun W hb=>oT b men sent marks ml ss ms W (hB.below hb);have KS:=ai hown;obtain⟨pm,cm,rfl,_⟩:=aV hB.rm;obtain⟨pn,cn,rfl,_⟩:=aV hB.rs;obtain⟨pk,ck,rfl,_⟩:=aV hB.rk;have kG:0<(bn b ml ss ms).length:=List.length_pos_iff.2 hne;clear hL hB hne hown;generalize bn b ml ss ms=all at *;generalize ml.length=lm at *;generalize ss.length=ln at *;generalize ms.length=lk at *;have b0:aC w.heap.size w ((w.alloc (.cells (b.cells (.slice pm lm cm) (.slice pn ln cn) (.slice pk lk ck)) 28)).alloc (.cells iv 122)):=((aw _ _).alloc (ay _) _).alloc (by simp) _;have HT:Hid (Two w (b.cells (.slice pm lm cm) (.slice pn ln cn) (.slice pk lk ck)) 28 iv 122 ((w.alloc (.cells (b.cells (.slice pm lm cm) (.slice pn ln cn) (.slice pk lk ck)) 28)).alloc (.cells iv 122))):=ai ⟨(Two.mk' w _ _ _ _).one,(Two.mk' w _ _ _ _).two,b0,by simp⟩;have I6:=ai b0;clear b0
 go_enter Tryz.func103,Tryz.ntmps103
 go_wp2_with (first
  |(refine wpList_load_row rfl 122 _ rfl _ rfl 122 _ (0,0) _ Yq.out jf rfl (by kernel_rfl) ?_)
  |(refine wpList_store_row rfl 122 _ _ rfl _ _ rfl rfl 122 _ MQ.out (by kernel_rfl) rfl (by simp[cy]) ?_)
  |(go_at_call 71;refine(uz.out _ I6.out).mono ?_;clear uz;rintro e w1 ⟨rfl,hb1⟩
    have rQ:=HT.out.next hb1;have o6:=ai rQ
    obtain⟨x0,x1,x2,x3,x4,x5,x6,x7,x8,x9,nG,nE,oh,nM,nQ⟩:=bQ rQ.one
    clear rQ hb1)
  |(go_at_call 122;refine(KS.out _ (o6.out.below.alloc (by have:=o6.out.size;omega) _)).mono ?_;clear KS;rintro e w2 ⟨rfl,hb2⟩
    have B8:=(o6.out.next ((aw _ _).alloc (ay _) (.cells (b.open (.slice pm lm cm) (.slice pn ln cn) (.slice pk lk ck) (.slice none 0 0)) 122))).next hb2;have FA:=ai B8
    have hk2:=(hb2.block w1.heap.size (by simp)).trans (ax w1 _);have FC:=ai hk2;have hs1:=o6.out.size;have hs2:=hb2.size;obtain⟨y0,y1,y2,y3,y4,y5,y6,y7,y8,y9,K7,Ja,I9,MU,I8,GL⟩:=jF hk2
    clear B8 hk2 hb2)
  |(go_at_call 116;refine(SS.out _ FA.out.below).mono ?_;clear SS;rintro e w3 ⟨v,rfl,jq,hb3⟩
    have EO:=FA.out.next hb3;have NP:=ai EO;have KT:=ai jq
    simp only[ey] at hs2;have hk3:=(hb3.block w1.heap.size (by omega)).trans FC.out;have YS:=ai hk3;have hs3:=hb3.size;clear y0 y1 y2 y3 y4 y5 y6 y7 y8 y9 K7 Ja I9 MU I8 GL;have GL:=aH hk3 15 _ rfl;have f7:=cI hk3 15;have pI:=ai hb3
    obtain⟨gv,oV,rfl,DW⟩ : ∃gv oV,v=.slice (some ⟨gv,0,none⟩) all.length oV∧w2.heap.size≤gv:=by
     rcases jq.1.2 with⟨_,h0⟩|⟨g,cap,cur,rfl,hg,_⟩
     ·omega
     ·exact⟨g,cap,rfl,hg⟩
    have Yq:Hid ((w3.setCell ⟨w1.heap.size,15,none⟩ (.slice (some ⟨gv,0,none⟩) all.length oV)).heap[w1.heap.size]?=some (.cells (b.open (.slice pm lm cm) (.slice pn ln cn) (.slice pk lk ck) (.slice (some ⟨gv,0,none⟩) all.length oV)) 122 (0,0))):=ai (bT _ hk3);have MQ:Hid ((w3.setCell ⟨w1.heap.size,15,none⟩ (.slice (some ⟨gv,0,none⟩) all.length oV)).heap[w.heap.size+1]?=some (.cells iv 122 (0,0))):=ai ((bu _ _ _ _ (by show w.heap.size+1≠w1.heap.size;omega)).trans EO.two)
    clear EO hk3 hb3 jq))
 refine bodyPost_ret (results_cell_tmp (g:=w.heap.size+1) rfl rfl (run_loadVar_row _ _ 122 122 _ (0,0) _ (cM MQ.out) jf rfl (by kernel_rfl))) rfl ⟨_,rfl,?_,?_⟩
 ·have hs1:=o6.out.size;refine(KT.out.at_ fun g hg=>?_).base (by omega);have DY:g=gv:=by simpa [ju] using hg.symm
  subst DY;exact(setRow_other (by omega)).trans (bu _ _ _ _ (by show g≠w1.heap.size;omega))
 ·have hs1:=o6.out.size;exact dJ (NP.out.below.setCell (p:=⟨w1.heap.size,15,none⟩) (by show _≤w1.heap.size;omega) _) (by omega)
end Go.Proofs.YtffladgmkiimjaaGreatDoor
